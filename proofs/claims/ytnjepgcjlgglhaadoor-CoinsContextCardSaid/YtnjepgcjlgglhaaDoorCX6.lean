/- Lemmas for the law proved in the text whose name ends with Law. -/
import Derived.Test.YtnjepgcjlgglhaaDoorCX5
import Derived.Test.YtnjepgcjlgglhaaDoorTie
import Derived.Test.YtnjepgcjlgglhaaDoorCards
import Derived.SevenTiedAt
set_option linter.unusedVariables false
set_option linter.unnecessarySimpa false
set_option linter.unusedSimpArgs false
set_option maxHeartbeats 0
set_option maxRecDepth 20000
section
namespace Go.Vi.CO
open Go.Proofs
noncomputable def Zq3 : Code := (Tryd.f71.body).getD .skip
structure RunOk (h : Int) (st : GoP) : Prop where
 len : st.left.length = st.made.length
 made : ∀ c ∈ st.made, c.Ok ∧ c.h = h
 spent : ∀ c ∈ st.spent, c.Ok
theorem ZoB {G : PtP → Option CoinP} (hG : ∀ o c, G o = some c → c.pt = o ∧ c.Ok) {h : Int} (hh : 0 ≤ h ∧ h ≤ Zb3) {st : GoP} (hr : RunOk h st) (o : PtP) :
  RunOk h (Zau G st o).1 ∧ (Zau G st o).1.made = st.made ∧ (Zau G st o).1.spent.length ≤ st.spent.length + 1 ∧ (Zau G st o).1.fees = st.fees ∧ ∀ c, (Zau G st o).2 = some c → c.Ok ∧ 0 ≤ c.h ∧ c.h ≤ Zb3 := by
 unfold Zau
 cases hl : ZbK st.made st.left o with
 | some i =>
  obtain ⟨h1, h2, h3⟩ := Zcn hl
  have hm := hr.made _ (ZS h1)
  refine ⟨⟨by simpa using hr.len, hr.made, hr.spent⟩, rfl, Nat.le_succ _, rfl, fun c hc => ?_⟩
  simp only [Option.some.injEq] at hc
  subst hc
  exact ⟨hm.1, by rw [hm.2]; exact hh.1, by rw [hm.2]; exact hh.2⟩
 | none =>
  simp only
  split
  ·exact ⟨hr, rfl, Nat.le_succ _, rfl, fun c hc => by cases hc⟩
  ·cases hg : G o with
   | none => exact ⟨hr, rfl, Nat.le_succ _, rfl, fun c hc => by cases hc⟩
   | some c =>
    simp only
    split
    ·exact ⟨hr, rfl, Nat.le_succ _, rfl, fun c hc => by cases hc⟩
    ·rename_i hb
     have hc := hG o c hg
     refine ⟨⟨hr.len, hr.made, fun x hx => ?_⟩, rfl, by simp, rfl, fun x hx => ?_⟩
     ·rcases List.mem_append.1 hx with hx | hx
      ·exact hr.spent x hx
      ·simp at hx; subst hx; exact hc.2
     ·simp only [Option.some.injEq] at hx
      subst hx
      exact ⟨hc.2, by omega, by omega⟩
theorem ZnX {G : PtP → Option CoinP} {h mat : Int} {l : List InP} {k : Nat} (hk : k < l.length) (s : Int) (g : GoP) : Z3 G h mat (l.drop k) s g = (match Zau G g ((l.getD k default).prev, (l.getD k default).ix) with
  | (g', none) => (g', 0, 30)
  | (g', some c) =>
   if c.base = true ∧ h - c.h < mat then (g', 0, 31) else
   if c.v < 0 ∨ Zbm < c.v ∨ Zbm < s + c.v then (g', 0, 32) else Z3 G h mat (l.drop (k + 1)) (s + c.v) g') := by
 rw [List.drop_eq_getElem_cons hk, show l.getD k default = l[k] by simp [List.getD, hk]]
 rfl
structure InIdx (G : PtP → Option CoinP) (h mat : Int) (t : TxP) (st : GoP) (k : Nat) (s : Int) (g : GoP) : Prop where
 le : k ≤ t.ins.length
 run : RunOk h g
 s0 : 0 ≤ s
 s1 : s ≤ Zbm
 rest : Z3 G h mat t.ins 0 st = Z3 G h mat (t.ins.drop k) s g
 emade : g.made = st.made
 espent : g.spent.length ≤ st.spent.length + k
 efees : g.fees = st.fees
theorem Zn5 {t : TxP} (ht : t.Ok) (hmi : t.ins.length ≤ 1000) {blk : List Int} (h med mat : Int) (hh : 0 ≤ h ∧ h ≤ Zb3) (gv : Value) (hgv : Zy (.raw gv) = true) (bT bO : Nat) (G : PtP → Option CoinP) (hG : ∀ o c, G o = some c → c.pt = o ∧ c.Ok) (st : GoP) (lv : Value) (hlv : Zy (.raw lv) = true) (hr : RunOk h st) (hm : st.made.length ≤ 1000000) (hs : st.spent.length ≤ 900000)
  (M : Nat → Prop) (g1 : Gh) (w0 : World) (hl : Low 8 g1) :
  GM M (HS E.P 43 gF (ZaA M w0) G bT bO gv lv st) E Tryd.f71.ntmps g1 w0 (Zcb M E Tryd.f71 g1 w0 1 2 (fun _ : Unit => goB blk h med mat gv bT bO (.tup [.int .i64 (Z3 G h mat t.ins 0 st).2.1, .int .i64 (Z3 G h mat t.ins 0 st).2.2]) lv (Z3 G h mat t.ins 0 st).1) (fun _ => HS E.P 43 gF (ZaA M w0) G bT bO gv lv (Z3 G h mat t.ins 0 st).1))
   Zq3 [(0, .bp 0 0), (1, txD t)] ⟨[(0, goD blk h med mat gv bT bO st.made lv st.spent st.fees)], [(0, (st.made.length, 69)), (1, (st.spent.length, 69))], 8⟩ := by
 generalize hP : Zcb M E Tryd.f71 g1 w0 1 2 _ _ = Post
 unfold Zq3
 simp only [Tryd.f71, Option.getD_some]
 refine ZN hE ZE hl rfl (Nat.le_refl _) ?_
 simp (config := {dsimp := false}) only [↓Zr, vz, vn, nq, Zo, Zi, Zd, Zb, Zg, Za, Zh, Ze, Zj, Zf, if_true, if_false, implies_true, forall_const, ne_eq, reduceIte, reduceCtorEq, Nat.reduceEqDiff, Nat.reduceAdd, Nat.reduceMul, Nat.reduceDiv, Nat.reduceLT, Nat.reduceSub, Nat.reduceLeDiff, Nat.reduceBNe, Nat.reduceBEq, Nat.reduceBeqDiff, List.range, List.range.loop, Zq, Tryd.ntmps71, Tryd.results71, txD]
 refine gmk (Z1 (ZN hE ZE hl rfl (Nat.le_of_ble_eq_true rfl) ?_))
 simp (config := {dsimp := false}) only [↓Zr, vz, vn, nq, Zo, Zi, Zd, Zb, Zg, Za, Zh, Ze, Zj, Zf, if_true, if_false, implies_true, forall_const, ne_eq, reduceIte, reduceCtorEq, Nat.reduceEqDiff, Nat.reduceAdd, Nat.reduceMul, Nat.reduceDiv, Nat.reduceLT, Nat.reduceSub, Nat.reduceLeDiff, Nat.reduceBNe, Nat.reduceBEq, Nat.reduceBeqDiff, List.range, List.range.loop, Zq, Tryd.ntmps71, Tryd.results71, txD, Zbc]
 refine gmk (Zbo ?_)
 refine ZfV hl (ι := {p : Nat × Int × GoP // InIdx G h mat t st p.1 p.2.1 p.2.2})
  (fun p => [(0, .bp 0 0), (3, .bp 8 0), (4, .int .i64 p.1.2.1), (5, .int .i64 0), (11, .sl .no 36 (Zbi t.ins)), (12, .int .i64 (t.ins.length : Nat)), (13, .int .i64 (p.1.1 : Nat))])
  (fun p => ⟨[(0, goD blk h med mat gv bT bO p.1.2.2.made lv p.1.2.2.spent p.1.2.2.fees)], [(0, (p.1.2.2.made.length, 69)), (1, (p.1.2.2.spent.length, 69))], 36⟩)
  (fun p => HS E.P 43 gF (ZaA M w0) G bT bO gv lv p.1.2.2) (fun _ => ZE) (fun p => t.ins.length - p.1.1) ⟨(0, 0, st), ⟨Nat.zero_le _, hr, Int.le_refl _, by show (0 : Int) ≤ 2100000000000000; omega, rfl, rfl, Nat.le_refl _, rfl⟩⟩ (Nat.le_of_ble_eq_true rfl) (fun _ _ h => h) ⟨⟨Zc rfl, rfl, Zc rfl, rfl, Zc rfl, rfl, Zc rfl, rfl, Zc rfl, rfl, Zc rfl, rfl, Zc rfl, rfl, trivial⟩, ⟨rfl, Nat.le_of_ble_eq_true rfl, rfl, trivial⟩, ⟨rfl, Nat.le_of_ble_eq_true rfl, rfl, Nat.le_of_ble_eq_true rfl, trivial⟩⟩ ?_
 rintro ⟨⟨k, s, g⟩, hk⟩
 simp only at hk ⊢
 refine ZN hE ZE hl rfl (Nat.le_of_ble_eq_true rfl) ?_
 simp (config := {dsimp := false}) only [↓Zr, vz, vn, nq, Zo, Zi, Zd, Zb, Zg, Za, Zh, Ze, Zj, Zf, if_true, if_false, implies_true, forall_const, ne_eq, reduceIte, reduceCtorEq, Nat.reduceEqDiff, Nat.reduceAdd, Nat.reduceMul, Nat.reduceDiv, Nat.reduceLT, Nat.reduceSub, Nat.reduceLeDiff, Nat.reduceBNe, Nat.reduceBEq, Nat.reduceBeqDiff, List.range, List.range.loop, Zq, Tryd.ntmps71, Tryd.results71]
 by_cases hkl : k < t.ins.length
 case neg =>
  obtain rfl : k = t.ins.length := by have := hk.le; omega
  have d1 : decide (((t.ins.length : Nat) : Int) < ((t.ins.length : Nat) : Int)) = false := decide_eq_false (by omega)
  have hres : Z3 G h mat t.ins 0 st = (g, s, 0) := by rw [hk.rest, List.drop_length]; rfl
  refine gmk (Z1 (ZG (b := decide (((t.ins.length : Nat) : Int) < ((t.ins.length : Nat) : Int))) rfl (fun e => by rw [d1] at e; cases e) (fun _ => Zi5 fun a w ha => Zbs ?_ ha)))
  refine ZN hE ZE hl rfl (Nat.le_of_ble_eq_true rfl) ?_
  simp (config := {dsimp := false}) only [↓Zr, vz, vn, nq, Zo, Zi, Zd, Zb, Zg, Za, Zh, Ze, Zj, Zf, if_true, if_false, implies_true, forall_const, ne_eq, reduceIte, reduceCtorEq, Nat.reduceEqDiff, Nat.reduceAdd, Nat.reduceMul, Nat.reduceDiv, Nat.reduceLT, Nat.reduceSub, Nat.reduceLeDiff, Nat.reduceBNe, Nat.reduceBEq, Nat.reduceBeqDiff, List.range, List.range.loop, Zq, Tryd.ntmps71, Tryd.results71]
  refine gmk (Zao fun a w ha => ?_)
  subst hP
  refine ZP () ?_ (Zat (fun g w hh => by rw [hres]; exact hh) ha)
  exact ⟨[], [], [], ⟨rfl, rfl⟩, ⟨rfl, rfl⟩, ⟨by simp, by simp⟩, by simp, by rw [hres]; rfl, rfl, ⟨_, rfl, by rw [hres]; exact List.cons_eq_cons.2 ⟨Zbu _ _ _ _ _ _ _ _ _ _ _ _ _ _, rfl⟩⟩, ⟨_, rfl, rfl⟩, by rw [hres]; exact id rfl⟩
 have d1 : decide (((k : Nat) : Int) < ((t.ins.length : Nat) : Int)) = true := decide_eq_true (by omega)
 refine gmk (ZN hE ZE hl rfl (Nat.le_of_ble_eq_true rfl) ?_)
 simp (config := {dsimp := false}) only [↓Zr, vz, vn, nq, Zo, Zi, Zd, Zb, Zg, Za, Zh, Ze, Zj, Zf, if_true, if_false, implies_true, forall_const, ne_eq, reduceIte, reduceCtorEq, Nat.reduceEqDiff, Nat.reduceAdd, Nat.reduceMul, Nat.reduceDiv, Nat.reduceLT, Nat.reduceSub, Nat.reduceLeDiff, Nat.reduceBNe, Nat.reduceBEq, Nat.reduceBeqDiff, List.range, List.range.loop, Zq, Tryd.ntmps71, Tryd.results71, d1]
 have g0 := ZcM t.ins k hkl
 have hx := ht.ins _ (ZS hkl)
 have hst := ZnX (G := G) (h := h) (mat := mat) hkl s g
 have hsp := ZoB hG hh hk.run ((t.ins.getD k default).prev, (t.ins.getD k default).ix)
 generalize t.ins.getD k default = x at *
 obtain ⟨xp, xi, xs, xq, xw⟩ := x
 simp only at hst hsp
 refine gmk (Z1 (Zbo ?_))
 refine ZN hE ZE hl rfl (Nat.le_of_ble_eq_true rfl) ?_
 simp (config := {dsimp := false}) only [↓Zr, vz, vn, nq, Zo, Zi, Zd, Zb, Zg, Za, Zh, Ze, Zj, Zf, if_true, if_false, implies_true, forall_const, ne_eq, reduceIte, reduceCtorEq, Nat.reduceEqDiff, Nat.reduceAdd, Nat.reduceMul, Nat.reduceDiv, Nat.reduceLT, Nat.reduceSub, Nat.reduceLeDiff, Nat.reduceBNe, Nat.reduceBEq, Nat.reduceBeqDiff, List.range, List.range.loop, Zq, Tryd.ntmps71, Tryd.results71, Int.toNat_natCast, g0, inD]
 refine ⟨by omega, by omega, ?_⟩
 refine gmk (ZbL (Zaf hE ZE 3 rfl rfl rfl ?_))
 simp (config := {dsimp := false}) only [↓Zr, vz, vn, nq, Zo, Zi, Zd, Zb, Zg, Za, Zh, Ze, Zj, Zf, if_true, if_false, implies_true, forall_const, ne_eq, reduceIte, reduceCtorEq, Nat.reduceEqDiff, Nat.reduceAdd, Nat.reduceMul, Nat.reduceDiv, Nat.reduceLT, Nat.reduceSub, Nat.reduceLeDiff, Nat.reduceBNe, Nat.reduceBEq, Nat.reduceBeqDiff, List.range, List.range.loop, Zq, Tryd.ntmps71, Tryd.results71, List.drop_zero, List.take_succ_cons, List.take_zero]
 have hpt : PtP.Ok (xp, xi) := Zz9 hx
 have hgm : g.made.length ≤ 1000000 := by rw [hk.emade]; exact hm
 have hgs : g.spent.length ≤ 1000000 := by have := hk.espent; omega
 refine Ze8 (ZdR hE hgl (show E.P.funcs[90]? = some Tryd.f90 from Tryd.func90) (show Tryd.f90.body = some ZqH from rfl) ⟨_, Tryd.func90, rfl, rfl⟩ (fun _ : Unit => goB blk h med mat gv bT bO (Zeg (Zau G g (xp, xi)).2) lv (Zau G g (xp, xi)).1) ⟨()⟩ (fun _ => lv) (fun _ => (Zau G g (xp, xi)).1) rfl rfl (some 21) rfl (show (21 : Nat) < 71 by decide) rfl
  (args' := [.bp 0 0, opD (xp, xi)]) (ds' := [goD blk h med mat gv bT bO g.made lv g.spent g.fees]) (tv' := [(g.made.length, 69), (g.spent.length, 69)]) ?_ ?_ ?_ ?_ (Nat.le_of_ble_eq_true rfl) (fun g1 w hl => Zq6 hpt h med mat gv hgv bT bO G g lv hk.run.len hgm hgs (fun c hc => (hk.run.made c hc).1) _ g1 w hl) fun _ => ?_)
 ·simp (config := {dsimp := false}) only [↓Zr, vz, vn, nq, Zo, Zi, Zd, Zb, Zg, Za, Zh, Ze, Zj, Zf, if_true, if_false, implies_true, forall_const, ne_eq, reduceIte, reduceCtorEq, Nat.reduceEqDiff, Nat.reduceAdd, Nat.reduceMul, Nat.reduceDiv, Nat.reduceLT, Nat.reduceSub, Nat.reduceLeDiff, Nat.reduceBNe, Nat.reduceBEq, Nat.reduceBeqDiff, List.range, List.range.loop, Zq, Tryd.ntmps71, Tryd.results71, ZeR, vb, goD, ZH]
  rfl
 ·intro _
  simp (config := {dsimp := false}) only [↓Zr, vz, vn, nq, Zo, Zi, Zd, Zb, Zg, Za, Zh, Ze, Zj, Zf, if_true, if_false, implies_true, forall_const, ne_eq, reduceIte, reduceCtorEq, Nat.reduceEqDiff, Nat.reduceAdd, Nat.reduceMul, Nat.reduceDiv, Nat.reduceLT, Nat.reduceSub, Nat.reduceLeDiff, Nat.reduceBNe, Nat.reduceBEq, Nat.reduceBeqDiff, List.range, List.range.loop, Zq, Tryd.ntmps71, Tryd.results71, vb, goD, goB, ZH]
 ·intro d hd l
  simp [ev, Zm] at hd
  rcases hd with rfl | rfl <;> simp
 ·simp [opD]
 generalize Zau G g (xp, xi) = sg at *
 obtain ⟨g', oc⟩ := sg
 obtain ⟨hr', hm', hs', hf', hc'⟩ := hsp
 simp only at hr' hm' hs' hf' hc' hst
 cases oc with
 | none =>
  simp only at hst
  have hres := hk.rest.trans hst
  refine Zav hE ZE (nx := 96) _ rfl rfl ?_
  simp (config := {dsimp := false}) only [↓Zr, vz, vn, nq, Zo, Zi, Zd, Zb, Zg, Za, Zh, Ze, Zj, Zf, if_true, if_false, implies_true, forall_const, ne_eq, reduceIte, reduceCtorEq, Nat.reduceEqDiff, Nat.reduceAdd, Nat.reduceMul, Nat.reduceDiv, Nat.reduceLT, Nat.reduceSub, Nat.reduceLeDiff, Nat.reduceBNe, Nat.reduceBEq, Nat.reduceBeqDiff, List.range, List.range.loop, Zq, Tryd.ntmps71, Tryd.results71, vb, goD, goB, Zeg, Zhd, ZH, List.drop_zero, List.drop_succ_cons]
  refine ZQ (Z1 (Zbo ?_))
  refine ZN hE ZE hl rfl (Nat.le_of_ble_eq_true rfl) ?_
  simp (config := {dsimp := false}) only [↓Zr, vz, vn, nq, Zo, Zi, Zd, Zb, Zg, Za, Zh, Ze, Zj, Zf, if_true, if_false, implies_true, forall_const, ne_eq, reduceIte, reduceCtorEq, Nat.reduceEqDiff, Nat.reduceAdd, Nat.reduceMul, Nat.reduceDiv, Nat.reduceLT, Nat.reduceSub, Nat.reduceLeDiff, Nat.reduceBNe, Nat.reduceBEq, Nat.reduceBeqDiff, List.range, List.range.loop, Zq, Tryd.ntmps71, Tryd.results71]
  refine gmk (ZG (b := true) rfl (fun _ => ?_) (fun hh => by cases hh))
  refine ZN hE ZE hl rfl (Nat.le_of_ble_eq_true rfl) ?_
  simp (config := {dsimp := false}) only [↓Zr, vz, vn, nq, Zo, Zi, Zd, Zb, Zg, Za, Zh, Ze, Zj, Zf, if_true, if_false, implies_true, forall_const, ne_eq, reduceIte, reduceCtorEq, Nat.reduceEqDiff, Nat.reduceAdd, Nat.reduceMul, Nat.reduceDiv, Nat.reduceLT, Nat.reduceSub, Nat.reduceLeDiff, Nat.reduceBNe, Nat.reduceBEq, Nat.reduceBeqDiff, List.range, List.range.loop, Zq, Tryd.ntmps71, Tryd.results71]
  refine gmk (Zao fun a w ha => ?_)
  subst hP
  refine ZP () ?_ (Zat (fun g w hh => by rw [hres]; exact hh) ha)
  exact ⟨[], [], [], ⟨rfl, rfl⟩, ⟨rfl, rfl⟩, ⟨by simp, by simp⟩, by simp, by rw [hres]; rfl, rfl, ⟨_, rfl, by rw [hres]; exact List.cons_eq_cons.2 ⟨Zbu _ _ _ _ _ _ _ _ _ _ _ _ _ _, rfl⟩⟩, ⟨_, rfl, rfl⟩, by rw [hres]; exact id rfl⟩
 | some c =>
  obtain ⟨hcok, hc0, hc1⟩ := hc' c rfl
  obtain ⟨ct, ci, cb, ch, cs, cv, cx⟩ := c
  simp only at hst hc0 hc1
  have hcv := hcok.v
  simp only at hcv
  have hM : Zbm = 2100000000000000 := rfl
  have hH : Zb3 = 2147483647 := rfl
  have hs0 := hk.s0
  have hs1 := hk.s1
  refine Zav hE ZE (nx := 96) _ rfl rfl ?_
  simp (config := {dsimp := false}) only [↓Zr, vz, vn, nq, Zo, Zi, Zd, Zb, Zg, Za, Zh, Ze, Zj, Zf, if_true, if_false, implies_true, forall_const, ne_eq, reduceIte, reduceCtorEq, Nat.reduceEqDiff, Nat.reduceAdd, Nat.reduceMul, Nat.reduceDiv, Nat.reduceLT, Nat.reduceSub, Nat.reduceLeDiff, Nat.reduceBNe, Nat.reduceBEq, Nat.reduceBeqDiff, List.range, List.range.loop, Zq, Tryd.ntmps71, Tryd.results71, vb, goD, goB, Zeg, Zac, ZH, List.drop_zero, List.drop_succ_cons]
  refine ZQ (Z1 (Zbo ?_))
  refine ZN hE ZE hl rfl (Nat.le_of_ble_eq_true rfl) ?_
  simp (config := {dsimp := false}) only [↓Zr, vz, vn, nq, Zo, Zi, Zd, Zb, Zg, Za, Zh, Ze, Zj, Zf, if_true, if_false, implies_true, forall_const, ne_eq, reduceIte, reduceCtorEq, Nat.reduceEqDiff, Nat.reduceAdd, Nat.reduceMul, Nat.reduceDiv, Nat.reduceLT, Nat.reduceSub, Nat.reduceLeDiff, Nat.reduceBNe, Nat.reduceBEq, Nat.reduceBeqDiff, List.range, List.range.loop, Zq, Tryd.ntmps71, Tryd.results71]
  refine gmk (ZG (b := false) rfl (fun hh => by cases hh) (fun _ => ?_))
  have w1 : IntKind.wrap .i64 (h - ch) = h - ch := Zax (by omega) (by omega)
  by_cases hb : cs = true ∧ h - ch < mat
  ·have hres := hk.rest.trans (hst.trans (if_pos hb))
   obtain ⟨rfl, hlt⟩ := hb
   have d3 : decide (h - ch < mat) = true := decide_eq_true hlt
   refine ZN hE ZE hl rfl (Nat.le_of_ble_eq_true rfl) ?_
   simp (config := {dsimp := false}) only [↓Zr, vz, vn, nq, Zo, Zi, Zd, Zb, Zg, Za, Zh, Ze, Zj, Zf, if_true, if_false, implies_true, forall_const, ne_eq, reduceIte, reduceCtorEq, Nat.reduceEqDiff, Nat.reduceAdd, Nat.reduceMul, Nat.reduceDiv, Nat.reduceLT, Nat.reduceSub, Nat.reduceLeDiff, Nat.reduceBNe, Nat.reduceBEq, Nat.reduceBeqDiff, List.range, List.range.loop, Zq, Tryd.ntmps71, Tryd.results71]
   refine ZcA [0, 3, 4, 5, 8, 9, 11, 12, 13] (by kernel_rfl) ?_
   simp (config := {dsimp := false}) only [↓Zr, vz, vn, nq, Zo, Zi, Zd, Zb, Zg, Za, Zh, Ze, Zj, Zf, if_true, if_false, implies_true, forall_const, ne_eq, reduceIte, reduceCtorEq, Nat.reduceEqDiff, Nat.reduceAdd, Nat.reduceMul, Nat.reduceDiv, Nat.reduceLT, Nat.reduceSub, Nat.reduceLeDiff, Nat.reduceBNe, Nat.reduceBEq, Nat.reduceBeqDiff, List.range, List.range.loop, Zq, Tryd.ntmps71, Tryd.results71, w1, d3]
   refine gmk (ZG (b := true) rfl (fun _ => ?_) (fun hh => by cases hh))
   refine ZN hE ZE hl rfl (Nat.le_of_ble_eq_true rfl) ?_
   simp (config := {dsimp := false}) only [↓Zr, vz, vn, nq, Zo, Zi, Zd, Zb, Zg, Za, Zh, Ze, Zj, Zf, if_true, if_false, implies_true, forall_const, ne_eq, reduceIte, reduceCtorEq, Nat.reduceEqDiff, Nat.reduceAdd, Nat.reduceMul, Nat.reduceDiv, Nat.reduceLT, Nat.reduceSub, Nat.reduceLeDiff, Nat.reduceBNe, Nat.reduceBEq, Nat.reduceBeqDiff, List.range, List.range.loop, Zq, Tryd.ntmps71, Tryd.results71]
   refine gmk (Zao fun a w ha => ?_)
   subst hP
   refine ZP () ?_ (Zat (fun g w hh => by rw [hres]; exact hh) ha)
   exact ⟨[], [], [], ⟨rfl, rfl⟩, ⟨rfl, rfl⟩, ⟨by simp, by simp⟩, by simp, by rw [hres]; rfl, rfl, ⟨_, rfl, by rw [hres]; exact List.cons_eq_cons.2 ⟨Zbu _ _ _ _ _ _ _ _ _ _ _ _ _ _, rfl⟩⟩, ⟨_, rfl, rfl⟩, by rw [hres]; exact id rfl⟩
  rw [if_neg hb] at hst
  refine Znl [(0, .bp 0 0), (3, .bp 8 0), (4, .int .i64 s), (5, .int .i64 0), (8, .bp 84 0), (11, .sl .no 36 (Zbi t.ins)), (12, .int .i64 (t.ins.length : Nat)), (13, .int .i64 (k : Nat)), (27, .bool false)]
   ⟨[(0, goD blk h med mat gv bT bO g'.made lv g'.spent g'.fees), (84, Zac ⟨ct, ci, cb, ch, cs, cv, cx⟩)], [(0, (g'.made.length, 69)), (1, (g'.spent.length, 69))], 200⟩ (HS E.P 43 gF (ZaA M w0) G bT bO gv lv g') ?_ ?_
  ·cases cs with
   | false =>
    refine Zij hE ZE hl rfl (Nat.le_of_ble_eq_true rfl) ?_
    simp (config := {dsimp := false}) only [↓Zr, vz, vn, nq, Zo, Zi, Zd, Zb, Zg, Za, Zh, Ze, Zj, Zf, if_true, if_false, implies_true, forall_const, ne_eq, reduceIte, reduceCtorEq, Nat.reduceEqDiff, Nat.reduceAdd, Nat.reduceMul, Nat.reduceDiv, Nat.reduceLT, Nat.reduceSub, Nat.reduceLeDiff, Nat.reduceBNe, Nat.reduceBEq, Nat.reduceBeqDiff, List.range, List.range.loop, Zq, Tryd.ntmps71, Tryd.results71]
    refine ZcA [0, 3, 4, 5, 8, 9, 11, 12, 13] (by kernel_rfl) ?_
    simp (config := {dsimp := false}) only [↓Zr, vz, vn, nq, Zo, Zi, Zd, Zb, Zg, Za, Zh, Ze, Zj, Zf, if_true, if_false, implies_true, forall_const, ne_eq, reduceIte, reduceCtorEq, Nat.reduceEqDiff, Nat.reduceAdd, Nat.reduceMul, Nat.reduceDiv, Nat.reduceLT, Nat.reduceSub, Nat.reduceLeDiff, Nat.reduceBNe, Nat.reduceBEq, Nat.reduceBeqDiff, List.range, List.range.loop, Zq, Tryd.ntmps71, Tryd.results71]
    refine Zd0 fun a w ha => Zcy ZE hl (Nat.le_of_ble_eq_true rfl) ?_ ha
    exact ⟨⟨Zc rfl, rfl, Zc rfl, rfl, Zc rfl, rfl, Zc rfl, rfl, Zc rfl, rfl, Zc rfl, rfl, Zc rfl, rfl, Zc rfl, rfl, Zc rfl, rfl, trivial⟩, ⟨rfl, Nat.le_of_ble_eq_true rfl, rfl, rfl, Nat.le_of_ble_eq_true rfl, rfl, trivial⟩, ⟨rfl, Nat.le_of_ble_eq_true rfl, rfl, Nat.le_of_ble_eq_true rfl, trivial⟩⟩
   | true =>
    have d3 : decide (h - ch < mat) = false := decide_eq_false (fun h => hb ⟨rfl, h⟩)
    refine Zij hE ZE hl rfl (Nat.le_of_ble_eq_true rfl) ?_
    simp (config := {dsimp := false}) only [↓Zr, vz, vn, nq, Zo, Zi, Zd, Zb, Zg, Za, Zh, Ze, Zj, Zf, if_true, if_false, implies_true, forall_const, ne_eq, reduceIte, reduceCtorEq, Nat.reduceEqDiff, Nat.reduceAdd, Nat.reduceMul, Nat.reduceDiv, Nat.reduceLT, Nat.reduceSub, Nat.reduceLeDiff, Nat.reduceBNe, Nat.reduceBEq, Nat.reduceBeqDiff, List.range, List.range.loop, Zq, Tryd.ntmps71, Tryd.results71]
    refine ZcA [0, 3, 4, 5, 8, 9, 11, 12, 13] (by kernel_rfl) ?_
    simp (config := {dsimp := false}) only [↓Zr, vz, vn, nq, Zo, Zi, Zd, Zb, Zg, Za, Zh, Ze, Zj, Zf, if_true, if_false, implies_true, forall_const, ne_eq, reduceIte, reduceCtorEq, Nat.reduceEqDiff, Nat.reduceAdd, Nat.reduceMul, Nat.reduceDiv, Nat.reduceLT, Nat.reduceSub, Nat.reduceLeDiff, Nat.reduceBNe, Nat.reduceBEq, Nat.reduceBeqDiff, List.range, List.range.loop, Zq, Tryd.ntmps71, Tryd.results71, w1, d3]
    refine Zd0 fun a w ha => Zcy ZE hl (Nat.le_of_ble_eq_true rfl) ?_ ha
    exact ⟨⟨Zc rfl, rfl, Zc rfl, rfl, Zc rfl, rfl, Zc rfl, rfl, Zc rfl, rfl, Zc rfl, rfl, Zc rfl, rfl, Zc rfl, rfl, Zc rfl, rfl, trivial⟩, ⟨rfl, Nat.le_of_ble_eq_true rfl, rfl, rfl, Nat.le_of_ble_eq_true rfl, rfl, trivial⟩, ⟨rfl, Nat.le_of_ble_eq_true rfl, rfl, Nat.le_of_ble_eq_true rfl, trivial⟩⟩
  refine ZG (b := false) rfl (fun hh => by cases hh) (fun _ => ?_)
  by_cases v1 : cv < 0
  ·have hres := hk.rest.trans (hst.trans (if_pos (.inl v1)))
   have e1 : decide (cv < 0) = true := decide_eq_true v1
   refine ZN hE ZE hl rfl (Nat.le_of_ble_eq_true rfl) ?_
   simp (config := {dsimp := false}) only [↓Zr, vz, vn, nq, Zo, Zi, Zd, Zb, Zg, Za, Zh, Ze, Zj, Zf, if_true, if_false, implies_true, forall_const, ne_eq, reduceIte, reduceCtorEq, Nat.reduceEqDiff, Nat.reduceAdd, Nat.reduceMul, Nat.reduceDiv, Nat.reduceLT, Nat.reduceSub, Nat.reduceLeDiff, Nat.reduceBNe, Nat.reduceBEq, Nat.reduceBeqDiff, List.range, List.range.loop, Zq, Tryd.ntmps71, Tryd.results71, Zac, e1]
   refine gmk (ZG (b := true) rfl (fun _ => ?_) (fun hh => by cases hh))
   refine ZN hE ZE hl rfl (Nat.le_of_ble_eq_true rfl) ?_
   simp (config := {dsimp := false}) only [↓Zr, vz, vn, nq, Zo, Zi, Zd, Zb, Zg, Za, Zh, Ze, Zj, Zf, if_true, if_false, implies_true, forall_const, ne_eq, reduceIte, reduceCtorEq, Nat.reduceEqDiff, Nat.reduceAdd, Nat.reduceMul, Nat.reduceDiv, Nat.reduceLT, Nat.reduceSub, Nat.reduceLeDiff, Nat.reduceBNe, Nat.reduceBEq, Nat.reduceBeqDiff, List.range, List.range.loop, Zq, Tryd.ntmps71, Tryd.results71]
   refine gmk (Zao fun a w ha => ?_)
   subst hP
   refine ZP () ?_ (Zat (fun g w hh => by rw [hres]; exact hh) ha)
   exact ⟨[], [], [], ⟨rfl, rfl⟩, ⟨rfl, rfl⟩, ⟨by simp, by simp⟩, by simp, by rw [hres]; rfl, rfl, ⟨_, rfl, by rw [hres]; exact List.cons_eq_cons.2 ⟨Zbu _ _ _ _ _ _ _ _ _ _ _ _ _ _, rfl⟩⟩, ⟨_, rfl, rfl⟩, by rw [hres]; exact id rfl⟩
  have e1 : decide (cv < 0) = false := decide_eq_false v1
  by_cases v2 : Zbm < cv
  ·have hres := hk.rest.trans (hst.trans (if_pos (.inr (.inl v2))))
   have e2 : decide (2100000000000000 < cv) = true := decide_eq_true v2
   refine ZN hE ZE hl rfl (Nat.le_of_ble_eq_true rfl) ?_
   simp (config := {dsimp := false}) only [↓Zr, vz, vn, nq, Zo, Zi, Zd, Zb, Zg, Za, Zh, Ze, Zj, Zf, if_true, if_false, implies_true, forall_const, ne_eq, reduceIte, reduceCtorEq, Nat.reduceEqDiff, Nat.reduceAdd, Nat.reduceMul, Nat.reduceDiv, Nat.reduceLT, Nat.reduceSub, Nat.reduceLeDiff, Nat.reduceBNe, Nat.reduceBEq, Nat.reduceBeqDiff, List.range, List.range.loop, Zq, Tryd.ntmps71, Tryd.results71, Zac, e1, e2]
   refine gmk (ZG (b := true) rfl (fun _ => ?_) (fun hh => by cases hh))
   refine ZN hE ZE hl rfl (Nat.le_of_ble_eq_true rfl) ?_
   simp (config := {dsimp := false}) only [↓Zr, vz, vn, nq, Zo, Zi, Zd, Zb, Zg, Za, Zh, Ze, Zj, Zf, if_true, if_false, implies_true, forall_const, ne_eq, reduceIte, reduceCtorEq, Nat.reduceEqDiff, Nat.reduceAdd, Nat.reduceMul, Nat.reduceDiv, Nat.reduceLT, Nat.reduceSub, Nat.reduceLeDiff, Nat.reduceBNe, Nat.reduceBEq, Nat.reduceBeqDiff, List.range, List.range.loop, Zq, Tryd.ntmps71, Tryd.results71]
   refine gmk (Zao fun a w ha => ?_)
   subst hP
   refine ZP () ?_ (Zat (fun g w hh => by rw [hres]; exact hh) ha)
   exact ⟨[], [], [], ⟨rfl, rfl⟩, ⟨rfl, rfl⟩, ⟨by simp, by simp⟩, by simp, by rw [hres]; rfl, rfl, ⟨_, rfl, by rw [hres]; exact List.cons_eq_cons.2 ⟨Zbu _ _ _ _ _ _ _ _ _ _ _ _ _ _, rfl⟩⟩, ⟨_, rfl, rfl⟩, by rw [hres]; exact id rfl⟩
  have e2 : decide (2100000000000000 < cv) = false := decide_eq_false v2
  have w2 : IntKind.wrap .i64 (s + cv) = s + cv := Zax (by omega) (by omega)
  by_cases v3 : Zbm < s + cv
  ·have hres := hk.rest.trans (hst.trans (if_pos (.inr (.inr v3))))
   have e3 : decide (2100000000000000 < s + cv) = true := decide_eq_true v3
   refine ZN hE ZE hl rfl (Nat.le_of_ble_eq_true rfl) ?_
   simp (config := {dsimp := false}) only [↓Zr, vz, vn, nq, Zo, Zi, Zd, Zb, Zg, Za, Zh, Ze, Zj, Zf, if_true, if_false, implies_true, forall_const, ne_eq, reduceIte, reduceCtorEq, Nat.reduceEqDiff, Nat.reduceAdd, Nat.reduceMul, Nat.reduceDiv, Nat.reduceLT, Nat.reduceSub, Nat.reduceLeDiff, Nat.reduceBNe, Nat.reduceBEq, Nat.reduceBeqDiff, List.range, List.range.loop, Zq, Tryd.ntmps71, Tryd.results71, Zac, e1, e2, w2, e3]
   refine gmk (ZG (b := true) rfl (fun _ => ?_) (fun hh => by cases hh))
   refine ZN hE ZE hl rfl (Nat.le_of_ble_eq_true rfl) ?_
   simp (config := {dsimp := false}) only [↓Zr, vz, vn, nq, Zo, Zi, Zd, Zb, Zg, Za, Zh, Ze, Zj, Zf, if_true, if_false, implies_true, forall_const, ne_eq, reduceIte, reduceCtorEq, Nat.reduceEqDiff, Nat.reduceAdd, Nat.reduceMul, Nat.reduceDiv, Nat.reduceLT, Nat.reduceSub, Nat.reduceLeDiff, Nat.reduceBNe, Nat.reduceBEq, Nat.reduceBeqDiff, List.range, List.range.loop, Zq, Tryd.ntmps71, Tryd.results71]
   refine gmk (Zao fun a w ha => ?_)
   subst hP
   refine ZP () ?_ (Zat (fun g w hh => by rw [hres]; exact hh) ha)
   exact ⟨[], [], [], ⟨rfl, rfl⟩, ⟨rfl, rfl⟩, ⟨by simp, by simp⟩, by simp, by rw [hres]; rfl, rfl, ⟨_, rfl, by rw [hres]; exact List.cons_eq_cons.2 ⟨Zbu _ _ _ _ _ _ _ _ _ _ _ _ _ _, rfl⟩⟩, ⟨_, rfl, rfl⟩, by rw [hres]; exact id rfl⟩
  have e3 : decide (2100000000000000 < s + cv) = false := decide_eq_false v3
  rw [if_neg (by omega)] at hst
  have hidx : InIdx G h mat t st (k + 1) (s + cv) g' := ⟨hkl, hr', by omega, by omega, hk.rest.trans hst, hm'.trans hk.emade, by have := hk.espent; omega, hf'.trans hk.efees⟩
  refine ZN hE ZE hl rfl (Nat.le_of_ble_eq_true rfl) ?_
  simp (config := {dsimp := false}) only [↓Zr, vz, vn, nq, Zo, Zi, Zd, Zb, Zg, Za, Zh, Ze, Zj, Zf, if_true, if_false, implies_true, forall_const, ne_eq, reduceIte, reduceCtorEq, Nat.reduceEqDiff, Nat.reduceAdd, Nat.reduceMul, Nat.reduceDiv, Nat.reduceLT, Nat.reduceSub, Nat.reduceLeDiff, Nat.reduceBNe, Nat.reduceBEq, Nat.reduceBeqDiff, List.range, List.range.loop, Zq, Tryd.ntmps71, Tryd.results71, Zac, e1, e2, w2, e3]
  refine gmk (ZG (b := false) rfl (fun hh => by cases hh) (fun _ => Zbe fun a w ha => Zbs ?_ ha))
  refine Zij hE ZE hl rfl (Nat.le_of_ble_eq_true rfl) ?_
  simp (config := {dsimp := false}) only [↓Zr, vz, vn, nq, Zo, Zi, Zd, Zb, Zg, Za, Zh, Ze, Zj, Zf, if_true, if_false, implies_true, forall_const, ne_eq, reduceIte, reduceCtorEq, Nat.reduceEqDiff, Nat.reduceAdd, Nat.reduceMul, Nat.reduceDiv, Nat.reduceLT, Nat.reduceSub, Nat.reduceLeDiff, Nat.reduceBNe, Nat.reduceBEq, Nat.reduceBeqDiff, List.range, List.range.loop, Zq, Tryd.ntmps71, Tryd.results71, Zac, w2]
  intro a w ha
  refine Zbs ?_ ha
  refine Zij hE ZE hl rfl (Nat.le_of_ble_eq_true rfl) ?_
  simp (config := {dsimp := false}) only [↓Zr, vz, vn, nq, Zo, Zi, Zd, Zb, Zg, Za, Zh, Ze, Zj, Zf, if_true, if_false, implies_true, forall_const, ne_eq, reduceIte, reduceCtorEq, Nat.reduceEqDiff, Nat.reduceAdd, Nat.reduceMul, Nat.reduceDiv, Nat.reduceLT, Nat.reduceSub, Nat.reduceLeDiff, Nat.reduceBNe, Nat.reduceBEq, Nat.reduceBeqDiff, List.range, List.range.loop, Zq, Tryd.ntmps71, Tryd.results71]
  refine Zd0 fun a w ha => ⟨⟨(k + 1, s + cv, g'), hidx⟩, Zcy ZE hl (Nat.le_of_ble_eq_true rfl) ?_ ha, by (try simp only); omega⟩
  have e : IntKind.wrap .i64 (((k : Nat) : Int) + 1) = ((k + 1 : Nat) : Int) := by rw [Zax (by omega) (by omega)]; omega
  rw [e]
  exact ⟨⟨Zc rfl, rfl, Zc rfl, rfl, Zc rfl, rfl, Zc rfl, rfl, Zc rfl, rfl, Zc rfl, rfl, Zc rfl, rfl, trivial⟩, ⟨rfl, Nat.le_of_ble_eq_true rfl, rfl, trivial⟩, ⟨rfl, Nat.le_of_ble_eq_true rfl, rfl, Nat.le_of_ble_eq_true rfl, trivial⟩⟩
end Go.Vi.CO
end

section
namespace Go.Vi.CO
open Go.Proofs
theorem Zih {G : PtP → Option CoinP} (hG : ∀ o c, G o = some c → c.pt = o ∧ c.Ok) {h mat : Int} (hh : 0 ≤ h ∧ h ≤ Zb3) : ∀ (l : List InP) (s : Int) (g : GoP), RunOk h g → 0 ≤ s → s ≤ Zbm →
  RunOk h (Z3 G h mat l s g).1 ∧ (Z3 G h mat l s g).1.made = g.made ∧ (Z3 G h mat l s g).1.spent.length ≤ g.spent.length + l.length ∧ (Z3 G h mat l s g).1.fees = g.fees ∧ 0 ≤ (Z3 G h mat l s g).2.1 ∧ (Z3 G h mat l s g).2.1 ≤ Zbm ∧ ((Z3 G h mat l s g).2.2 = 0 ∨ (Z3 G h mat l s g).2.2 = 30 ∨ (Z3 G h mat l s g).2.2 = 31 ∨ (Z3 G h mat l s g).2.2 = 32)
 | [], s, g, hr, h0, h1 => ⟨hr, rfl, Nat.le_refl _, rfl, h0, h1, .inl rfl⟩
 | x :: l, s, g, hr, h0, h1 => by
  have hM : (0 : Int) ≤ Zbm := by unfold Zbm; omega
  obtain ⟨a1, a2, a3, a4, a5⟩ := ZoB hG hh hr (x.prev, x.ix)
  unfold Z3
  generalize Zau G g (x.prev, x.ix) = sg at *
  obtain ⟨g', oc⟩ := sg
  simp only at a1 a2 a3 a4 a5
  cases oc with
  | none => exact ⟨a1, a2, by simp only [List.length_cons]; omega, a4, Int.le_refl _, hM, .inr (.inl rfl)⟩
  | some c =>
   simp only
   split
   ·exact ⟨a1, a2, by simp only [List.length_cons]; omega, a4, Int.le_refl _, hM, .inr (.inr (.inl rfl))⟩
   ·split
    ·exact ⟨a1, a2, by simp only [List.length_cons]; omega, a4, Int.le_refl _, hM, .inr (.inr (.inr rfl))⟩
    ·rename_i hb
     have ih := Zih hG (mat := mat) hh l (s + c.v) g' a1 (by omega) (by omega)
     exact ⟨ih.1, ih.2.1.trans a2, by have := ih.2.2.1; simp only [List.length_cons]; omega, ih.2.2.2.1.trans a4, ih.2.2.2.2⟩
theorem Zxu {h : Int} {g : GoP} (hr : RunOk h g) {c : CoinP} (hc : c.Ok) (hh : c.h = h) : RunOk h (ZiY g c) :=
 ⟨by simp [ZiY, Zjb, hr.len], fun x hx => by
  rcases List.mem_append.1 hx with hx | hx
  ·exact hr.made x hx
  ·simp at hx; subst hx; exact ⟨hc, hh⟩, hr.spent⟩
theorem Zkd {id blk : List Int} (hi : id.length = 32 ∧ bytes id) (hb : blk.length = 32 ∧ bytes blk) {h : Int} (hh : 0 ≤ h ∧ h ≤ Zb3) {base : Bool} : ∀ (l : List OutP) (k : Nat) (g : GoP), (∀ o ∈ l, o.Ok) → k + l.length ≤ 4000000000 → RunOk h g → RunOk h (Zam id blk h base k l g)
 | [], k, g, _, _, hr => hr
 | o :: l, k, g, ho, hk, hr => by
  simp only [List.length_cons] at hk
  have hH : Zb3 = 2147483647 := rfl
  have hok := ho o (List.mem_cons_self ..)
  have hc : (mkC id k blk h base o).Ok := ⟨⟨hi.1, hi.2, by constructor <;> simp only [mkC, CoinP.pt] <;> omega⟩, hb.1, hb.2, by constructor <;> simp only [mkC] <;> omega, hok.value, ZAf hok.script⟩
  simp only [Zam]
  refine Zkd hi hb hh l (k + 1) _ (fun x hx => ho x (List.mem_cons_of_mem _ hx)) (by omega) ?_
  split
  ·exact hr
  ·exact Zxu hr hc rfl
noncomputable def Zp4 : Code := (Tryd.f56.body).getD .skip
theorem Zus {t : TxP} (ht : t.Ok) (hmi : t.ins.length ≤ 1000) (hmo : t.outs.length ≤ 1000) {blk : List Int} (h med mat : Int) (hh : 0 ≤ h ∧ h ≤ Zb3) (gv : Value) (hgv : Zy (.raw gv) = true) (bT bO : Nat) (G : PtP → Option CoinP) (hG : ∀ o c, G o = some c → c.pt = o ∧ c.Ok) (st : GoP) (lv : Value) (hlv : Zy (.raw lv) = true) (hr : RunOk h st) (hm : st.made.length ≤ 900000) (hs : st.spent.length ≤ 800000) (hf : 0 ≤ st.fees ∧ st.fees ≤ Zbm)
  (M : Nat → Prop) (g1 : Gh) (w0 : World) (hl : Low 8 g1) :
  GM M (HS E.P 43 gF (ZaA M w0) G bT bO gv lv st) E Tryd.f56.ntmps g1 w0 (Zcb M E Tryd.f56 g1 w0 1 2 (fun lv' => goB blk h med mat gv bT bO (.int .i64 (ZcC G blk h mat t st).2) lv' (ZcC G blk h mat t st).1) (fun lv' => HS E.P 43 gF (ZaA M w0) G bT bO gv lv' (ZcC G blk h mat t st).1))
   Zp4 [(0, .bp 0 0), (1, txD t)] ⟨[(0, goD blk h med mat gv bT bO st.made lv st.spent st.fees)], [(0, (st.made.length, 69)), (1, (st.spent.length, 69))], 8⟩ := by
 have hM : Zbm = 2100000000000000 := rfl
 generalize hP : Zcb M E Tryd.f56 g1 w0 1 2 _ _ = Post
 unfold Zp4
 simp only [Tryd.f56, Option.getD_some]
 refine ZN hE ZE hl rfl (Nat.le_refl _) ?_
 simp (config := {dsimp := false}) only [↓Zr, vz, vn, nq, Zo, Zi, Zd, Zb, Zg, Za, Zh, Ze, Zj, Zf, if_true, if_false, implies_true, forall_const, ne_eq, reduceIte, reduceCtorEq, Nat.reduceEqDiff, Nat.reduceAdd, Nat.reduceMul, Nat.reduceDiv, Nat.reduceLT, Nat.reduceSub, Nat.reduceLeDiff, Nat.reduceBNe, Nat.reduceBEq, Nat.reduceBeqDiff, List.range, List.range.loop, Zq, Tryd.ntmps56, Tryd.results56, txD]
 refine gmk (ZbL (Zaf hE ZE 2 rfl rfl rfl ?_))
 simp (config := {dsimp := false}) only [↓Zr, vz, vn, nq, Zo, Zi, Zd, Zb, Zg, Za, Zh, Ze, Zj, Zf, if_true, if_false, implies_true, forall_const, ne_eq, reduceIte, reduceCtorEq, Nat.reduceEqDiff, Nat.reduceAdd, Nat.reduceMul, Nat.reduceDiv, Nat.reduceLT, Nat.reduceSub, Nat.reduceLeDiff, Nat.reduceBNe, Nat.reduceBEq, Nat.reduceBeqDiff, List.range, List.range.loop, Zq, Tryd.ntmps56, Tryd.results56, List.drop_zero, List.take_succ_cons, List.take_zero]
 refine Ze8 (ZdR hE hgl (show E.P.funcs[71]? = some Tryd.f71 from Tryd.func71) (show Tryd.f71.body = some Zq3 from rfl) ⟨_, Tryd.func71, rfl, rfl⟩ (fun _ : Unit => goB blk h med mat gv bT bO (.tup [.int .i64 (Z3 G h mat t.ins 0 st).2.1, .int .i64 (Z3 G h mat t.ins 0 st).2.2]) lv (Z3 G h mat t.ins 0 st).1) ⟨()⟩ (fun _ => lv) (fun _ => (Z3 G h mat t.ins 0 st).1) rfl rfl (some 12) rfl (show (12 : Nat) < 54 by decide) rfl
  (args' := [.bp 0 0, txD t]) (ds' := [goD blk h med mat gv bT bO st.made lv st.spent st.fees]) (tv' := [(st.made.length, 69), (st.spent.length, 69)]) ?_ ?_ ?_ ?_ (Nat.le_of_ble_eq_true rfl) (fun g1 w hl => Zn5 ht hmi h med mat hh gv hgv bT bO G hG st lv hlv hr (by omega) (by omega) _ g1 w hl) fun _ => ?_)
 ·simp (config := {dsimp := false}) only [↓Zr, vz, vn, nq, Zo, Zi, Zd, Zb, Zg, Za, Zh, Ze, Zj, Zf, if_true, if_false, implies_true, forall_const, ne_eq, reduceIte, reduceCtorEq, Nat.reduceEqDiff, Nat.reduceAdd, Nat.reduceMul, Nat.reduceDiv, Nat.reduceLT, Nat.reduceSub, Nat.reduceLeDiff, Nat.reduceBNe, Nat.reduceBEq, Nat.reduceBeqDiff, List.range, List.range.loop, Zq, Tryd.ntmps56, Tryd.results56, ZeR, vb, goD, ZH]
  rfl
 ·intro _
  simp (config := {dsimp := false}) only [↓Zr, vz, vn, nq, Zo, Zi, Zd, Zb, Zg, Za, Zh, Ze, Zj, Zf, if_true, if_false, implies_true, forall_const, ne_eq, reduceIte, reduceCtorEq, Nat.reduceEqDiff, Nat.reduceAdd, Nat.reduceMul, Nat.reduceDiv, Nat.reduceLT, Nat.reduceSub, Nat.reduceLeDiff, Nat.reduceBNe, Nat.reduceBEq, Nat.reduceBeqDiff, List.range, List.range.loop, Zq, Tryd.ntmps56, Tryd.results56, vb, goD, goB, ZH]
 ·intro d hd l
  simp [ev, Zm] at hd
  rcases hd with rfl | rfl <;> simp
 ·simp [txD]
 have hin := Zih (mat := mat) hG hh t.ins 0 st hr (Int.le_refl _) (by omega)
 have hpass : ZcC G blk h mat t st = (match Z3 G h mat t.ins 0 st with
  | (g1, n, e) => if e ≠ 0 then (g1, e) else match Zb9 0 t.outs with
   | none => (g1, 32)
   | some out => if n < out ∨ Zbm < g1.fees + n - out then (g1, 32) else (Zam (idP t) blk h false 0 t.outs { g1 with fees := g1.fees + (n - out) }, 0)) := rfl
 generalize Z3 G h mat t.ins 0 st = ig at *
 obtain ⟨g, n, e⟩ := ig
 simp only at hin hpass ⊢
 obtain ⟨hr', hm', hs', hf', hn0, hn1, he⟩ := hin
 refine Zav hE ZE (nx := 48) _ rfl rfl ?_
 simp (config := {dsimp := false}) only [↓Zr, vz, vn, nq, Zo, Zi, Zd, Zb, Zg, Za, Zh, Ze, Zj, Zf, if_true, if_false, implies_true, forall_const, ne_eq, reduceIte, reduceCtorEq, Nat.reduceEqDiff, Nat.reduceAdd, Nat.reduceMul, Nat.reduceDiv, Nat.reduceLT, Nat.reduceSub, Nat.reduceLeDiff, Nat.reduceBNe, Nat.reduceBEq, Nat.reduceBeqDiff, List.range, List.range.loop, Zq, Tryd.ntmps56, Tryd.results56, vb, goD, goB, ZH, List.drop_zero, List.drop_succ_cons]
 refine ZQ (Z1 ?_)
 by_cases he0 : e = 0
 case neg =>
  rw [if_pos he0] at hpass
  have d1 : decide (e = 0) = false := decide_eq_false he0
  refine ZN hE ZE hl rfl (Nat.le_of_ble_eq_true rfl) ?_
  simp (config := {dsimp := false}) only [↓Zr, vz, vn, nq, Zo, Zi, Zd, Zb, Zg, Za, Zh, Ze, Zj, Zf, if_true, if_false, implies_true, forall_const, ne_eq, reduceIte, reduceCtorEq, Nat.reduceEqDiff, Nat.reduceAdd, Nat.reduceMul, Nat.reduceDiv, Nat.reduceLT, Nat.reduceSub, Nat.reduceLeDiff, Nat.reduceBNe, Nat.reduceBEq, Nat.reduceBeqDiff, List.range, List.range.loop, Zq, Tryd.ntmps56, Tryd.results56, d1]
  refine gmk (ZG (b := true) rfl (fun _ => ?_) (fun hh => by cases hh))
  refine ZN hE ZE hl rfl (Nat.le_of_ble_eq_true rfl) ?_
  simp (config := {dsimp := false}) only [↓Zr, vz, vn, nq, Zo, Zi, Zd, Zb, Zg, Za, Zh, Ze, Zj, Zf, if_true, if_false, implies_true, forall_const, ne_eq, reduceIte, reduceCtorEq, Nat.reduceEqDiff, Nat.reduceAdd, Nat.reduceMul, Nat.reduceDiv, Nat.reduceLT, Nat.reduceSub, Nat.reduceLeDiff, Nat.reduceBNe, Nat.reduceBEq, Nat.reduceBeqDiff, List.range, List.range.loop, Zq, Tryd.ntmps56, Tryd.results56]
  refine gmk (Zao fun a w ha => ?_)
  subst hP
  refine ZP lv ?_ (Zat (fun g w hh => by rw [hpass]; exact hh) ha)
  exact ⟨[], [], [], ⟨rfl, rfl⟩, ⟨rfl, rfl⟩, ⟨by simp, by simp⟩, by simp, by rw [hpass]; rfl, rfl, ⟨_, rfl, by rw [hpass]; exact List.cons_eq_cons.2 ⟨Zbu _ _ _ _ _ _ _ _ _ _ _ _ _ _, rfl⟩⟩, ⟨_, rfl, rfl⟩, by rw [hpass]; exact id rfl⟩
 subst he0
 simp only [ne_eq, not_true_eq_false, if_false] at hpass
 refine ZN hE ZE hl rfl (Nat.le_of_ble_eq_true rfl) ?_
 simp (config := {dsimp := false}) only [↓Zr, vz, vn, nq, Zo, Zi, Zd, Zb, Zg, Za, Zh, Ze, Zj, Zf, if_true, if_false, implies_true, forall_const, ne_eq, reduceIte, reduceCtorEq, Nat.reduceEqDiff, Nat.reduceAdd, Nat.reduceMul, Nat.reduceDiv, Nat.reduceLT, Nat.reduceSub, Nat.reduceLeDiff, Nat.reduceBNe, Nat.reduceBEq, Nat.reduceBeqDiff, List.range, List.range.loop, Zq, Tryd.ntmps56, Tryd.results56, show decide ((0 : Int) = 0) = true from rfl]
 refine gmk (ZG (b := false) rfl (fun hh => by cases hh) (fun _ => Zbe fun a w ha => Zbs ?_ ha))
 have hany := Zfg ht.any
 cases hsum : Zb9 0 t.outs with
 | none =>
  simp only [hsum] at hpass
  refine ZN hE ZE hl rfl (Nat.le_of_ble_eq_true rfl) ?_
  simp (config := {dsimp := false}) only [↓Zr, vz, vn, nq, Zo, Zi, Zd, Zb, Zg, Za, Zh, Ze, Zj, Zf, if_true, if_false, implies_true, forall_const, ne_eq, reduceIte, reduceCtorEq, Nat.reduceEqDiff, Nat.reduceAdd, Nat.reduceMul, Nat.reduceDiv, Nat.reduceLT, Nat.reduceSub, Nat.reduceLeDiff, Nat.reduceBNe, Nat.reduceBEq, Nat.reduceBeqDiff, List.range, List.range.loop, Zq, Tryd.ntmps56, Tryd.results56, txD, PF.toR, Zk, Zbx, hsum, ZkK, Zgj, Zd4, Zm0, Zm4]
  refine ⟨hany, gmk (Z1 ?_)⟩
  refine ZN hE ZE hl rfl (Nat.le_of_ble_eq_true rfl) ?_
  simp (config := {dsimp := false}) only [↓Zr, vz, vn, nq, Zo, Zi, Zd, Zb, Zg, Za, Zh, Ze, Zj, Zf, if_true, if_false, implies_true, forall_const, ne_eq, reduceIte, reduceCtorEq, Nat.reduceEqDiff, Nat.reduceAdd, Nat.reduceMul, Nat.reduceDiv, Nat.reduceLT, Nat.reduceSub, Nat.reduceLeDiff, Nat.reduceBNe, Nat.reduceBEq, Nat.reduceBeqDiff, List.range, List.range.loop, Zq, Tryd.ntmps56, Tryd.results56]
  refine gmk (ZG (b := true) rfl (fun _ => ?_) (fun hh => by cases hh))
  refine ZN hE ZE hl rfl (Nat.le_of_ble_eq_true rfl) ?_
  simp (config := {dsimp := false}) only [↓Zr, vz, vn, nq, Zo, Zi, Zd, Zb, Zg, Za, Zh, Ze, Zj, Zf, if_true, if_false, implies_true, forall_const, ne_eq, reduceIte, reduceCtorEq, Nat.reduceEqDiff, Nat.reduceAdd, Nat.reduceMul, Nat.reduceDiv, Nat.reduceLT, Nat.reduceSub, Nat.reduceLeDiff, Nat.reduceBNe, Nat.reduceBEq, Nat.reduceBeqDiff, List.range, List.range.loop, Zq, Tryd.ntmps56, Tryd.results56]
  refine gmk (Zao fun a w ha => ?_)
  subst hP
  refine ZP lv ?_ (Zat (fun g w hh => by rw [hpass]; exact hh) ha)
  exact ⟨[], [], [], ⟨rfl, rfl⟩, ⟨rfl, rfl⟩, ⟨by simp, by simp⟩, by simp, by rw [hpass]; rfl, rfl, ⟨_, rfl, by rw [hpass]; exact List.cons_eq_cons.2 ⟨Zbu _ _ _ _ _ _ _ _ _ _ _ _ _ _, rfl⟩⟩, ⟨_, rfl, rfl⟩, by rw [hpass]; exact id rfl⟩
 | some out =>
  simp only [hsum] at hpass
  obtain ⟨ho0, ho1⟩ := Zi8 t.outs 0 out (Int.le_refl _) (by omega) hsum
  refine ZN hE ZE hl rfl (Nat.le_of_ble_eq_true rfl) ?_
  simp (config := {dsimp := false}) only [↓Zr, vz, vn, nq, Zo, Zi, Zd, Zb, Zg, Za, Zh, Ze, Zj, Zf, if_true, if_false, implies_true, forall_const, ne_eq, reduceIte, reduceCtorEq, Nat.reduceEqDiff, Nat.reduceAdd, Nat.reduceMul, Nat.reduceDiv, Nat.reduceLT, Nat.reduceSub, Nat.reduceLeDiff, Nat.reduceBNe, Nat.reduceBEq, Nat.reduceBeqDiff, List.range, List.range.loop, Zq, Tryd.ntmps56, Tryd.results56, txD, PF.toR, Zk, Zbx, hsum, ZkK, Zgj, Zd4, Zm0, Zm4]
  refine ⟨hany, gmk (Z1 ?_)⟩
  have hgf : g.fees = st.fees := hf'
  by_cases c1 : n < out
  ·rw [if_pos (.inl c1)] at hpass
   have d1 : decide (n < out) = true := decide_eq_true c1
   refine ZN hE ZE hl rfl (Nat.le_of_ble_eq_true rfl) ?_
   simp (config := {dsimp := false}) only [↓Zr, vz, vn, nq, Zo, Zi, Zd, Zb, Zg, Za, Zh, Ze, Zj, Zf, if_true, if_false, implies_true, forall_const, ne_eq, reduceIte, reduceCtorEq, Nat.reduceEqDiff, Nat.reduceAdd, Nat.reduceMul, Nat.reduceDiv, Nat.reduceLT, Nat.reduceSub, Nat.reduceLeDiff, Nat.reduceBNe, Nat.reduceBEq, Nat.reduceBeqDiff, List.range, List.range.loop, Zq, Tryd.ntmps56, Tryd.results56, goD, d1]
   refine gmk (ZG (b := true) rfl (fun _ => ?_) (fun hh => by cases hh))
   refine ZN hE ZE hl rfl (Nat.le_of_ble_eq_true rfl) ?_
   simp (config := {dsimp := false}) only [↓Zr, vz, vn, nq, Zo, Zi, Zd, Zb, Zg, Za, Zh, Ze, Zj, Zf, if_true, if_false, implies_true, forall_const, ne_eq, reduceIte, reduceCtorEq, Nat.reduceEqDiff, Nat.reduceAdd, Nat.reduceMul, Nat.reduceDiv, Nat.reduceLT, Nat.reduceSub, Nat.reduceLeDiff, Nat.reduceBNe, Nat.reduceBEq, Nat.reduceBeqDiff, List.range, List.range.loop, Zq, Tryd.ntmps56, Tryd.results56]
   refine gmk (Zao fun a w ha => ?_)
   subst hP
   refine ZP lv ?_ (Zat (fun g w hh => by rw [hpass]; exact hh) ha)
   exact ⟨[], [], [], ⟨rfl, rfl⟩, ⟨rfl, rfl⟩, ⟨by simp, by simp⟩, by simp, by rw [hpass]; rfl, rfl, ⟨_, rfl, by rw [hpass]; exact List.cons_eq_cons.2 ⟨Zbu _ _ _ _ _ _ _ _ _ _ _ _ _ _, rfl⟩⟩, ⟨_, rfl, rfl⟩, by rw [hpass]; exact id rfl⟩
  have d1 : decide (n < out) = false := decide_eq_false c1
  have w1 : IntKind.wrap .i64 (g.fees + n) = g.fees + n := Zax (by omega) (by omega)
  have w2 : IntKind.wrap .i64 (g.fees + n - out) = g.fees + n - out := Zax (by omega) (by omega)
  by_cases c2 : Zbm < g.fees + n - out
  ·rw [if_pos (.inr c2)] at hpass
   have d2 : decide (2100000000000000 < g.fees + n - out) = true := decide_eq_true c2
   refine ZN hE ZE hl rfl (Nat.le_of_ble_eq_true rfl) ?_
   simp (config := {dsimp := false}) only [↓Zr, vz, vn, nq, Zo, Zi, Zd, Zb, Zg, Za, Zh, Ze, Zj, Zf, if_true, if_false, implies_true, forall_const, ne_eq, reduceIte, reduceCtorEq, Nat.reduceEqDiff, Nat.reduceAdd, Nat.reduceMul, Nat.reduceDiv, Nat.reduceLT, Nat.reduceSub, Nat.reduceLeDiff, Nat.reduceBNe, Nat.reduceBEq, Nat.reduceBeqDiff, List.range, List.range.loop, Zq, Tryd.ntmps56, Tryd.results56, goD, d1, w1, w2, d2]
   refine gmk (ZG (b := true) rfl (fun _ => ?_) (fun hh => by cases hh))
   refine ZN hE ZE hl rfl (Nat.le_of_ble_eq_true rfl) ?_
   simp (config := {dsimp := false}) only [↓Zr, vz, vn, nq, Zo, Zi, Zd, Zb, Zg, Za, Zh, Ze, Zj, Zf, if_true, if_false, implies_true, forall_const, ne_eq, reduceIte, reduceCtorEq, Nat.reduceEqDiff, Nat.reduceAdd, Nat.reduceMul, Nat.reduceDiv, Nat.reduceLT, Nat.reduceSub, Nat.reduceLeDiff, Nat.reduceBNe, Nat.reduceBEq, Nat.reduceBeqDiff, List.range, List.range.loop, Zq, Tryd.ntmps56, Tryd.results56]
   refine gmk (Zao fun a w ha => ?_)
   subst hP
   refine ZP lv ?_ (Zat (fun g w hh => by rw [hpass]; exact hh) ha)
   exact ⟨[], [], [], ⟨rfl, rfl⟩, ⟨rfl, rfl⟩, ⟨by simp, by simp⟩, by simp, by rw [hpass]; rfl, rfl, ⟨_, rfl, by rw [hpass]; exact List.cons_eq_cons.2 ⟨Zbu _ _ _ _ _ _ _ _ _ _ _ _ _ _, rfl⟩⟩, ⟨_, rfl, rfl⟩, by rw [hpass]; exact id rfl⟩
  rw [if_neg (by omega)] at hpass
  have d2 : decide (2100000000000000 < g.fees + n - out) = false := decide_eq_false c2
  refine ZN hE ZE hl rfl (Nat.le_of_ble_eq_true rfl) ?_
  simp (config := {dsimp := false}) only [↓Zr, vz, vn, nq, Zo, Zi, Zd, Zb, Zg, Za, Zh, Ze, Zj, Zf, if_true, if_false, implies_true, forall_const, ne_eq, reduceIte, reduceCtorEq, Nat.reduceEqDiff, Nat.reduceAdd, Nat.reduceMul, Nat.reduceDiv, Nat.reduceLT, Nat.reduceSub, Nat.reduceLeDiff, Nat.reduceBNe, Nat.reduceBEq, Nat.reduceBeqDiff, List.range, List.range.loop, Zq, Tryd.ntmps56, Tryd.results56, goD, d1, w1, w2, d2]
  refine gmk (ZG (b := false) rfl (fun hh => by cases hh) (fun _ => Zbe fun a w ha => Zbs ?_ ha))
  have w3 : IntKind.wrap .i64 (n - out) = n - out := Zax (by omega) (by omega)
  have w4 : IntKind.wrap .i64 (g.fees + (n - out)) = g.fees + (n - out) := Zax (by omega) (by omega)
  refine ZN hE ZE hl rfl (Nat.le_of_ble_eq_true rfl) ?_
  simp (config := {dsimp := false}) only [↓Zr, vz, vn, nq, Zo, Zi, Zd, Zb, Zg, Za, Zh, Ze, Zj, Zf, if_true, if_false, implies_true, forall_const, ne_eq, reduceIte, reduceCtorEq, Nat.reduceEqDiff, Nat.reduceAdd, Nat.reduceMul, Nat.reduceDiv, Nat.reduceLT, Nat.reduceSub, Nat.reduceLeDiff, Nat.reduceBNe, Nat.reduceBEq, Nat.reduceBeqDiff, List.range, List.range.loop, Zq, Tryd.ntmps56, Tryd.results56, goD, w3, w4]
  have hspent : (⟨g.made, g.left, g.spent, g.fees + (n - out)⟩ : GoP).left.length = (⟨g.made, g.left, g.spent, g.fees + (n - out)⟩ : GoP).made.length := hr'.len
  refine gmk (Ze6 (H' := HS E.P 43 gF (ZaA M w0) G bT bO gv lv ⟨g.made, g.left, g.spent, g.fees + (n - out)⟩) (fun g w hh => hh) (ZbL (Zaf hE ZE 2 rfl rfl rfl ?_)))
  simp (config := {dsimp := false}) only [↓Zr, vz, vn, nq, Zo, Zi, Zd, Zb, Zg, Za, Zh, Ze, Zj, Zf, if_true, if_false, implies_true, forall_const, ne_eq, reduceIte, reduceCtorEq, Nat.reduceEqDiff, Nat.reduceAdd, Nat.reduceMul, Nat.reduceDiv, Nat.reduceLT, Nat.reduceSub, Nat.reduceLeDiff, Nat.reduceBNe, Nat.reduceBEq, Nat.reduceBeqDiff, List.range, List.range.loop, Zq, Tryd.ntmps56, Tryd.results56, List.drop_zero, List.take_succ_cons, List.take_zero]
  refine Ze8 (ZdR hE hgl (show E.P.funcs[55]? = some Tryd.f55 from Tryd.func55) (show Tryd.f55.body = some Zns from rfl) ⟨_, Tryd.func55, rfl, rfl⟩ (fun lv' => goB blk h med mat gv bT bO (.tup []) lv' (Zam (idP t) blk h false 0 t.outs ⟨g.made, g.left, g.spent, g.fees + (n - out)⟩)) ⟨lv⟩ (fun lv' => lv') (fun _ => Zam (idP t) blk h false 0 t.outs ⟨g.made, g.left, g.spent, g.fees + (n - out)⟩) rfl rfl (some 53) rfl (show (53 : Nat) < 54 by decide) rfl
   (args' := [.bp 0 0, txD t, .bool false]) (ds' := [goD blk h med mat gv bT bO g.made lv g.spent (g.fees + (n - out))]) (tv' := [(g.made.length, 69), (g.spent.length, 69)]) ?_ ?_ ?_ ?_ (Nat.le_of_ble_eq_true rfl) (fun g1 w hl => Zk5 ht hmo false h med mat gv bT bO G ⟨g.made, g.left, g.spent, g.fees + (n - out)⟩ lv hspent (by show g.made.length ≤ 1000000; rw [hm']; omega) _ g1 w hl) fun lv' => ?_)
  ·simp (config := {dsimp := false}) only [↓Zr, vz, vn, nq, Zo, Zi, Zd, Zb, Zg, Za, Zh, Ze, Zj, Zf, if_true, if_false, implies_true, forall_const, ne_eq, reduceIte, reduceCtorEq, Nat.reduceEqDiff, Nat.reduceAdd, Nat.reduceMul, Nat.reduceDiv, Nat.reduceLT, Nat.reduceSub, Nat.reduceLeDiff, Nat.reduceBNe, Nat.reduceBEq, Nat.reduceBeqDiff, List.range, List.range.loop, Zq, Tryd.ntmps56, Tryd.results56, ZeR, vb, goD, ZH]
   rfl
  ·intro _
   simp (config := {dsimp := false}) only [↓Zr, vz, vn, nq, Zo, Zi, Zd, Zb, Zg, Za, Zh, Ze, Zj, Zf, if_true, if_false, implies_true, forall_const, ne_eq, reduceIte, reduceCtorEq, Nat.reduceEqDiff, Nat.reduceAdd, Nat.reduceMul, Nat.reduceDiv, Nat.reduceLT, Nat.reduceSub, Nat.reduceLeDiff, Nat.reduceBNe, Nat.reduceBEq, Nat.reduceBeqDiff, List.range, List.range.loop, Zq, Tryd.ntmps56, Tryd.results56, vb, goD, goB, ZH]
  ·intro d hd l
   simp [ev, Zm] at hd
   rcases hd with rfl | rfl | rfl <;> simp [ZaG]
  ·simp [txD]
  refine Zav hE ZE (nx := 212) [] rfl rfl ?_
  simp (config := {dsimp := false}) only [↓Zr, vz, vn, nq, Zo, Zi, Zd, Zb, Zg, Za, Zh, Ze, Zj, Zf, if_true, if_false, implies_true, forall_const, ne_eq, reduceIte, reduceCtorEq, Nat.reduceEqDiff, Nat.reduceAdd, Nat.reduceMul, Nat.reduceDiv, Nat.reduceLT, Nat.reduceSub, Nat.reduceLeDiff, Nat.reduceBNe, Nat.reduceBEq, Nat.reduceBeqDiff, List.range, List.range.loop, Zq, Tryd.ntmps56, Tryd.results56, vb, goD, goB, ZH]
  refine ZQ ?_
  refine ZN hE ZE hl rfl (Nat.le_of_ble_eq_true rfl) ?_
  simp (config := {dsimp := false}) only [↓Zr, vz, vn, nq, Zo, Zi, Zd, Zb, Zg, Za, Zh, Ze, Zj, Zf, if_true, if_false, implies_true, forall_const, ne_eq, reduceIte, reduceCtorEq, Nat.reduceEqDiff, Nat.reduceAdd, Nat.reduceMul, Nat.reduceDiv, Nat.reduceLT, Nat.reduceSub, Nat.reduceLeDiff, Nat.reduceBNe, Nat.reduceBEq, Nat.reduceBeqDiff, List.range, List.range.loop, Zq, Tryd.ntmps56, Tryd.results56]
  refine gmk (Zao fun a w ha => ?_)
  subst hP
  refine ZP lv' ?_ (Zat (fun g w hh => by rw [hpass]; exact hh) ha)
  exact ⟨[], [], [], ⟨rfl, rfl⟩, ⟨rfl, rfl⟩, ⟨by simp, by simp⟩, by simp, by rw [hpass]; rfl, rfl, ⟨_, rfl, by rw [hpass]; exact List.cons_eq_cons.2 ⟨Zbu _ _ _ _ _ _ _ _ _ _ _ _ _ _, rfl⟩⟩, ⟨_, rfl, rfl⟩, by rw [hpass]; exact id rfl⟩
end Go.Vi.CO
end

section
namespace Go.Vi.CO
open Go.Proofs
noncomputable def ZqC : Code := (Tryd.f26.body).getD .skip
def Ziq (v : Int) (p r : List Int) (t b n : Int) : D := .agg [.int .u32 v, .arr .u8 32 p, .arr .u8 32 r, .int .u32 t, .int .u32 b, .int .u32 n]
def Zdl (blk : List Int) (h med : Int) : D := .agg [.arr .u8 32 blk, .int .i64 h, .int .u32 med]
def Zi0 (r : List CoinP × List CoinP × Int) : D := .tup [.sl .no 69 (ZK r.1), .sl .no 69 (ZK r.2.1), .int .i64 r.2.2]
def ZoI (r : List CoinP × List CoinP × Int) : BF := ⟨True, Zi0 r, [], [], [], []⟩
theorem ZhM {E : Env} {M : Nat → Prop} {H : Gh → World → Prop} {N : Nat} {g0 : Gh} {w0 : World} {Post : Exit → Act → World → Prop} {sl : List (Nat × D)} {s : S} {ops : Array Oper} {i nm : Nat} {o : Oper} {α : Type} (dv : α → D) (Hx : α → Gh → World → Prop) (ho : ops[i]? = some o) (hgd : o.guard = none) (hd : ∀ c, o.op ≠ .defer c) (dst : Option Tmp) (hdd : o.dst = dst) (hdst : ZbQ N dst)
  (hrun : ∀ g w a, a.tmps.size = N → ZJ g w sl a → ZM E g w → Inv g s w (after nm) → KeepsM M g0 w0 g w → H g w →
   ∃ x v w' M', ((execOp a.eval o).run E.P w = .ok (.value v) w' ∨ ((execOp a.eval o).run E.P w = .ok .skip w' ∧ v = undef)) ∧ Zt g w' (dv x) v ∧ KeepsM M' g w g w' ∧ (∀ b, b < w0.heap.size → M' b → M b) ∧ Inv g s w' (after nm) ∧ Hx x g w')
  (h : ∀ x, GOM M (Hx x) E N g0 w0 Post ops (i + 1) nm (ZaM dst (dv x) sl) s) : GOM M H E N g0 w0 Post ops i nm sl s := by
 subst hdd
 exact Zcz dv Hx ho hgd hd hdst hrun h
theorem Zza {M : Nat → Prop} {H : Gh → World → Prop} {N : Nat} {g0 : Gh} {w0 : World} {Post : Exit → Act → World → Prop} {sl : List (Nat × D)} {s : S} {c : Code} (i : Nat) (d1 d2 d3 d4 d5 d6 d8 d9 : D) (hbx : s.box i = some (.agg [d1, d2, d3, d4, d5, d6, .sl .full 0 [], d8, d9]))
  (h : ∀ a : Option Addr, GM M H E N g0 w0 Post c sl { s with bs := ZaV s.bs i (.agg [d1, d2, d3, d4, d5, d6, .raw (.slice a 0 0), d8, d9]) }) : GM M H E N g0 w0 Post c sl s := fun g w a hk hp => by
 obtain ⟨b, cs, ty, q1, q2, q3, q4, q5⟩ := hk.inv.box i _ hbx
 obtain ⟨c1, r1, e1, p1, c2, r2, e2, p2, c3, r3, e3, p3, c4, r4, e4, p4, c5, r5, e5, p5, c6, r6, e6, p6, c7, r7, e7, ⟨ad, cp, vs, x1, x2, x3, x4, x5⟩, p8⟩ := q5
 have x5 : cp = 0 := x5
 subst x5
 refine h ad g w a ⟨hk.size, hk.slots, hk.globs, ⟨fun j d hj => ?_, hk.inv.tok, hk.inv.fresh, hk.inv.lim, hk.inv.own⟩⟩ hp
 simp only [S.box, ZbD] at hj
 split at hj
 ·rename_i e
  subst e
  cases hj
  exact ⟨b, cs, ty, q1, q2, q3, q4, c1, r1, e1, p1, c2, r2, e2, p2, c3, r3, e3, p3, c4, r4, e4, p4, c5, r5, e5, p5, c6, r6, e6, p6, c7, r7, e7, ⟨x1, trivial⟩, p8⟩
 ·exact hk.inv.box j d hj
theorem Zxh {G : PtP → Option CoinP} (hG : ∀ o c, G o = some c → c.pt = o ∧ c.Ok) {h mat : Int} (hh : 0 ≤ h ∧ h ≤ Zb3) {blk : List Int} (hb : blk.length = 32 ∧ bytes blk) {t : TxP} (ht : t.Ok) {g : GoP} (hr : RunOk h g) (hf : 0 ≤ g.fees ∧ g.fees ≤ Zbm) (he : (ZcC G blk h mat t g).2 = 0) :
  RunOk h (ZcC G blk h mat t g).1 ∧ (ZcC G blk h mat t g).1.made.length ≤ g.made.length + t.outs.length ∧ (ZcC G blk h mat t g).1.spent.length ≤ g.spent.length + t.ins.length ∧ 0 ≤ (ZcC G blk h mat t g).1.fees ∧ (ZcC G blk h mat t g).1.fees ≤ Zbm := by
 have hM : Zbm = 2100000000000000 := rfl
 obtain ⟨a1, a2, a3, a4, a5, a6, a7⟩ := Zih (mat := mat) hG hh t.ins 0 g hr (Int.le_refl _) (by omega)
 unfold ZcC at he ⊢
 generalize Z3 G h mat t.ins 0 g = ig at *
 obtain ⟨g1, n, e⟩ := ig
 simp only at a1 a2 a3 a4 a5 a6 he ⊢
 by_cases h0 : e = 0
 case neg => rw [if_pos h0] at he; exact absurd he h0
 rw [if_neg (fun q => q h0)] at he ⊢
 cases hs : Zb9 0 t.outs with
 | none => rw [hs] at he; simp at he
 | some out =>
  rw [hs] at he
  simp only at he ⊢
  obtain ⟨o0, o1⟩ := Zi8 t.outs 0 out (Int.le_refl _) (by omega) hs
  by_cases hc : n < out ∨ Zbm < g1.fees + n - out
  ·rw [if_pos hc] at he; simp at he
  ·rw [if_neg hc]
   have hr2 : RunOk h (⟨g1.made, g1.left, g1.spent, g1.fees + (n - out)⟩ : GoP) := ⟨a1.len, a1.made, a1.spent⟩
   have hrest := Zfi (id := idP t) (blk := blk) (h := h) (base := false) t.outs 0 (⟨g1.made, g1.left, g1.spent, g1.fees + (n - out)⟩ : GoP)
   have hmore := Ze9 (id := idP t) (blk := blk) (h := h) (base := false) t.outs 0 (⟨g1.made, g1.left, g1.spent, g1.fees + (n - out)⟩ : GoP)
   have hmo := ht.mo
   refine ⟨Zkd ⟨ZqI t, Zh1 t⟩ hb hh t.outs 0 _ ht.outs (by omega) hr2, ?_, ?_, ?_, ?_⟩
   ·simp only at hmore ⊢; rw [a2] at hmore; rw [a2]; exact hmore
   ·simp only at hrest ⊢; rw [hrest.1]; exact a3
   ·simp only at hrest ⊢; rw [hrest.2]; omega
   ·simp only at hrest ⊢; rw [hrest.2]; omega
theorem Zpr {G : PtP → Option CoinP} {blk : List Int} {h mat : Int} {l : List TxP} {k : Nat} (hk : k < l.length) (g : GoP) : Zcg G blk h mat (l.drop k) g = (match ZcC G blk h mat (l.getD k default) g with
  | (g', e) => if e ≠ 0 then (g', e) else Zcg G blk h mat (l.drop (k + 1)) g') := by
 rw [List.drop_eq_getElem_cons hk, show l.getD k default = l[k] by simp [List.getD, hk]]
 rfl
structure CoIdx (G : PtP → Option CoinP) (blk : List Int) (h mat : Int) (r : List TxP) (st : GoP) (k : Nat) (g : GoP) : Prop where
 le : k ≤ r.length
 run : RunOk h g
 rest : Zcg G blk h mat r st = Zcg G blk h mat (r.drop k) g
 emade : g.made.length ≤ 1000 * (k + 1)
 espent : g.spent.length ≤ 1000 * k
 f0 : 0 ≤ g.fees
 f1 : g.fees ≤ Zbm
theorem Zvq {G : PtP → Option CoinP} {Fr : Nat → Prop} {bT bO : Nat} {gv lv : Value} {st : GoP} {g : Gh} {w : World} (h : HS E.P 43 gF Fr G bT bO gv lv st g w) : Zy (.raw lv) = true := by
 obtain ⟨q, h, _⟩ := h
 obtain ⟨a, n, c, rfl⟩ := ZmB h.left
 rfl
theorem ZuR {M : Nat → Prop} {H : Gh → World → Prop} {N : Nat} {g0 : Gh} {w0 : World} {Post : Exit → Act → World → Prop} {sl : List (Nat × D)} {s : S} {c : Code} (hH : HOk H) (ad : List (Nat × Option IntKind × Nat)) (h : Za0 sl s ad fun sl' s' => GM M H E N g0 w0 Post c sl' s') : GM M H E N g0 w0 Post c sl s := fun g w a hk hp =>
 Zcv ad sl s g h hk fun sl' s' g' hG h2 h3 => hG g' w a h2 (Zgk hH hp h3 rfl)
def Zfq (m : List CoinP) (l : List Bool) (k : Nat) : List CoinP := ((List.range k).filter fun i => l.getD i false).map fun i => m.getD i default
theorem Zqy (m : List CoinP) (l : List Bool) (k : Nat) : Zfq m l (k + 1) = Zfq m l k ++ (if l.getD k false = true then [m.getD k default] else []) := by
 unfold Zfq
 rw [List.range_succ, List.filter_append, List.map_append]
 congr 1
 by_cases h : l.getD k false = true
 ·rw [if_pos h]; simp only [List.filter_cons, h, if_true, List.filter_nil, List.map_cons, List.map_nil]
 ·rw [if_neg h]
  have h' : l.getD k false = false := by simpa using h
  simp only [List.filter_cons, h', Bool.false_eq_true, if_false, List.filter_nil, List.map_nil]
theorem Zts (m : List CoinP) (l : List Bool) (k : Nat) : (Zfq m l k).length ≤ k := by
 unfold Zfq
 rw [List.length_map]
 exact Nat.le_trans (List.length_filter_le _ _) (by simp)
theorem Zdi {M : Nat → Prop} {H : Gh → World → Prop} {N : Nat} {g0 : Gh} {w0 : World} {sl : List (Nat × D)} {s : S} {a : Act} {w : World} (t : Nat) {o : Own} {z : Nat} (ht : Zm sl t = some (.sl o z [])) (h : AtM M H E N g0 w0 sl s a w) : AtM M H E N g0 w0 ((t, .sl .no 69 (ZK [])) :: sl) s a w := by
 obtain ⟨g, hk, hp⟩ := h
 refine ⟨g, ⟨hk.size, ⟨trivial, fun t' d hl => ?_⟩, hk.globs, hk.inv⟩, hp⟩
 simp only [Zm] at hl
 split at hl
 ·rename_i e
  subst e
  cases hl
  obtain ⟨q1, q2⟩ := hk.slots.2 _ _ ht
  refine ⟨q1, ?_⟩
  obtain ⟨ad, c', vs, e1, e2, e3, e4, e5⟩ := q2
  have e3 : vs = [] := e3
  subst e3
  exact ⟨ad, c', [], e1, e2, rfl, fun hne => absurd rfl hne, trivial⟩
 ·exact hk.slots.2 _ _ hl
theorem Zf3 (s : S) (m k : Nat) (r : List CoinP × List CoinP × Int) : Zg7 s m k [] [] [] (Zi0 r) = Zi0 r := by
 simp only [Zi0, Zg7, D.frz, D.frzs, D.ren, D.rens, ZH, Zft]
theorem ZwG (s : S) (a b : Nat) (ha : 8 ≤ a) (hb : 8 ≤ b) (x y : List CoinP) (e : Int) : Zg7 s 0 0 [] [] [] (.tup [.sl (.tok a) 69 (ZK x), .sl (.tok b) 69 (ZK y), .int .i64 e]) = Zi0 (x, y, e) := by
 simp only [Zi0, Zg7, D.frz, D.frzs, D.ren, D.rens, ZH, Zft, Za6]
 rw [if_neg (by omega), if_neg (by omega)]
 rfl
theorem Znc (p : ParP) (a0 : Int) (a1 a2 : List Int) (a3 a4 a5 : Int) (txs : List TxP) (htx : ∀ t ∈ txs, t.Ok) (hlen : txs.length ≤ 100) (hsm : ∀ t ∈ txs, t.ins.length ≤ 1000 ∧ t.outs.length ≤ 1000) {blk : List Int} (hb : blk.length = 32 ∧ bytes blk) (h med : Int) (hsub : Zap p.sub) (gv : Value) (hgv : Zy (.raw gv) = true) (G : PtP → Option CoinP) (hG : ∀ o c, G o = some c → c.pt = o ∧ c.Ok)
  (g1 : Gh) (w0 : World) (hl : Low 8 g1) :
  GM (fun _ => False) (Zcq gF (ZaA (fun _ => False) w0) gv G) E Tryd.f26.ntmps g1 w0 (Zcb (fun _ => False) E Tryd.f26 g1 w0 0 0 (fun _ : Unit => ZoI (ZaD p.sub p.halv p.mat blk h txs G)) (fun _ _ _ => True))
   ZqC [(0, Zfr p), (1, .agg [Ziq a0 a1 a2 a3 a4 a5, .sl .no 4 (ZaX txs)]), (2, Zdl blk h med), (3, .raw gv)] ⟨[], [], 8⟩ := by
 generalize hP : Zcb (fun _ => False) E Tryd.f26 g1 w0 0 0 _ _ = Post
 unfold ZqC
 simp only [Tryd.f26, Option.getD_some]
 refine ZN hE ZaF hl rfl (Nat.le_refl _) ?_
 simp (config := {dsimp := false}) only [↓Zr, vz, vn, nq, Zo, Zi, Zd, Zb, Zg, Za, Zh, Ze, Zj, Zf, if_true, if_false, implies_true, forall_const, ne_eq, reduceIte, reduceCtorEq, Nat.reduceEqDiff, Nat.reduceAdd, Nat.reduceMul, Nat.reduceDiv, Nat.reduceLT, Nat.reduceSub, Nat.reduceLeDiff, Nat.reduceBNe, Nat.reduceBEq, Nat.reduceBeqDiff, List.range, List.range.loop, Zq, Tryd.ntmps26, Tryd.results26, Zfr, Zdl, Ziq]
 refine gmk (Z1 (Zbo ?_))
 by_cases h1 : h < 0
 ·have hres : ZaD p.sub p.halv p.mat blk h txs G = ([], [], 25) := if_pos (.inl h1)
  have d1 : decide (h < 0) = true := decide_eq_true h1
  refine ZN hE ZaF hl rfl (Nat.le_of_ble_eq_true rfl) ?_
  simp (config := {dsimp := false}) only [↓Zr, vz, vn, nq, Zo, Zi, Zd, Zb, Zg, Za, Zh, Ze, Zj, Zf, if_true, if_false, implies_true, forall_const, ne_eq, reduceIte, reduceCtorEq, Nat.reduceEqDiff, Nat.reduceAdd, Nat.reduceMul, Nat.reduceDiv, Nat.reduceLT, Nat.reduceSub, Nat.reduceLeDiff, Nat.reduceBNe, Nat.reduceBEq, Nat.reduceBeqDiff, List.range, List.range.loop, Zq, Tryd.ntmps26, Tryd.results26, d1]
  refine gmk (ZG (b := true) rfl (fun _ => ?_) (fun hh => by cases hh))
  refine ZN hE ZaF hl rfl (Nat.le_of_ble_eq_true rfl) ?_
  simp (config := {dsimp := false}) only [↓Zr, vz, vn, nq, Zo, Zi, Zd, Zb, Zg, Za, Zh, Ze, Zj, Zf, if_true, if_false, implies_true, forall_const, ne_eq, reduceIte, reduceCtorEq, Nat.reduceEqDiff, Nat.reduceAdd, Nat.reduceMul, Nat.reduceDiv, Nat.reduceLT, Nat.reduceSub, Nat.reduceLeDiff, Nat.reduceBNe, Nat.reduceBEq, Nat.reduceBeqDiff, List.range, List.range.loop, Zq, Tryd.ntmps26, Tryd.results26]
  refine gmk (Zao fun a w ha => ?_)
  subst hP
  refine ZP () ?_ (Zat (fun _ _ _ => trivial) (Zdi (sl := _) 9 rfl (Zdi (sl := _) 8 rfl ha)))
  rw [hres]
  exact ⟨[], [], [], ⟨rfl, rfl⟩, ⟨rfl, rfl⟩, ⟨by simp, by simp⟩, by simp, rfl, rfl, ⟨_, rfl, rfl⟩, ⟨_, rfl, rfl⟩, Zf3 _ _ _ ([], [], _)⟩
 have d1 : decide (h < 0) = false := decide_eq_false h1
 by_cases h2 : Zb3 < h
 ·have hres : ZaD p.sub p.halv p.mat blk h txs G = ([], [], 25) := if_pos (.inr h2)
  have d2 : decide (2147483647 < h) = true := decide_eq_true h2
  refine ZN hE ZaF hl rfl (Nat.le_of_ble_eq_true rfl) ?_
  simp (config := {dsimp := false}) only [↓Zr, vz, vn, nq, Zo, Zi, Zd, Zb, Zg, Za, Zh, Ze, Zj, Zf, if_true, if_false, implies_true, forall_const, ne_eq, reduceIte, reduceCtorEq, Nat.reduceEqDiff, Nat.reduceAdd, Nat.reduceMul, Nat.reduceDiv, Nat.reduceLT, Nat.reduceSub, Nat.reduceLeDiff, Nat.reduceBNe, Nat.reduceBEq, Nat.reduceBeqDiff, List.range, List.range.loop, Zq, Tryd.ntmps26, Tryd.results26, d1, d2]
  refine gmk (ZG (b := true) rfl (fun _ => ?_) (fun hh => by cases hh))
  refine ZN hE ZaF hl rfl (Nat.le_of_ble_eq_true rfl) ?_
  simp (config := {dsimp := false}) only [↓Zr, vz, vn, nq, Zo, Zi, Zd, Zb, Zg, Za, Zh, Ze, Zj, Zf, if_true, if_false, implies_true, forall_const, ne_eq, reduceIte, reduceCtorEq, Nat.reduceEqDiff, Nat.reduceAdd, Nat.reduceMul, Nat.reduceDiv, Nat.reduceLT, Nat.reduceSub, Nat.reduceLeDiff, Nat.reduceBNe, Nat.reduceBEq, Nat.reduceBeqDiff, List.range, List.range.loop, Zq, Tryd.ntmps26, Tryd.results26]
  refine gmk (Zao fun a w ha => ?_)
  subst hP
  refine ZP () ?_ (Zat (fun _ _ _ => trivial) (Zdi (sl := _) 9 rfl (Zdi (sl := _) 8 rfl ha)))
  rw [hres]
  exact ⟨[], [], [], ⟨rfl, rfl⟩, ⟨rfl, rfl⟩, ⟨by simp, by simp⟩, by simp, rfl, rfl, ⟨_, rfl, rfl⟩, ⟨_, rfl, rfl⟩, Zf3 _ _ _ ([], [], _)⟩
 have d2 : decide (2147483647 < h) = false := decide_eq_false h2
 have hh : 0 ≤ h ∧ h ≤ Zb3 := by constructor <;> omega
 have hc0 : ZaD p.sub p.halv p.mat blk h txs G = (match txs with
  | [] => ([], [], 0)
  | t :: r => match Zcg G blk h p.mat r (Zam (idP t) blk h true 0 t.outs Zdg) with
   | (g, e) => if e ≠ 0 then ([], [], e) else match Zb9 0 t.outs with
    | none => ([], [], 32)
    | some out => if Zar p.sub p.halv h < out - g.fees then ([], [], 32) else (g.spent, Zvn g.made g.left, 0)) := by
  unfold ZaD
  rw [if_neg (by omega)]
  cases txs <;> rfl
 refine ZN hE ZaF hl rfl (Nat.le_of_ble_eq_true rfl) ?_
 simp (config := {dsimp := false}) only [↓Zr, vz, vn, nq, Zo, Zi, Zd, Zb, Zg, Za, Zh, Ze, Zj, Zf, if_true, if_false, implies_true, forall_const, ne_eq, reduceIte, reduceCtorEq, Nat.reduceEqDiff, Nat.reduceAdd, Nat.reduceMul, Nat.reduceDiv, Nat.reduceLT, Nat.reduceSub, Nat.reduceLeDiff, Nat.reduceBNe, Nat.reduceBEq, Nat.reduceBeqDiff, List.range, List.range.loop, Zq, Tryd.ntmps26, Tryd.results26, d1, d2]
 refine gmk (ZG (b := false) rfl (fun hh => by cases hh) (fun _ => ?_))
 cases txs with
 | nil =>
  have hres := hc0
  simp only at hres
  refine ZN hE ZaF hl rfl (Nat.le_of_ble_eq_true rfl) ?_
  simp (config := {dsimp := false}) only [↓Zr, vz, vn, nq, Zo, Zi, Zd, Zb, Zg, Za, Zh, Ze, Zj, Zf, if_true, if_false, implies_true, forall_const, ne_eq, reduceIte, reduceCtorEq, Nat.reduceEqDiff, Nat.reduceAdd, Nat.reduceMul, Nat.reduceDiv, Nat.reduceLT, Nat.reduceSub, Nat.reduceLeDiff, Nat.reduceBNe, Nat.reduceBEq, Nat.reduceBeqDiff, List.range, List.range.loop, Zq, Tryd.ntmps26, Tryd.results26, show ZaX [] = [] from rfl, List.length_nil, show decide (((0 : Nat) : Int) = 0) = true from rfl]
  refine gmk (ZG (b := true) rfl (fun _ => ?_) (fun hh => by cases hh))
  refine ZN hE ZaF hl rfl (Nat.le_of_ble_eq_true rfl) ?_
  simp (config := {dsimp := false}) only [↓Zr, vz, vn, nq, Zo, Zi, Zd, Zb, Zg, Za, Zh, Ze, Zj, Zf, if_true, if_false, implies_true, forall_const, ne_eq, reduceIte, reduceCtorEq, Nat.reduceEqDiff, Nat.reduceAdd, Nat.reduceMul, Nat.reduceDiv, Nat.reduceLT, Nat.reduceSub, Nat.reduceLeDiff, Nat.reduceBNe, Nat.reduceBEq, Nat.reduceBeqDiff, List.range, List.range.loop, Zq, Tryd.ntmps26, Tryd.results26]
  refine gmk (Zao fun a w ha => ?_)
  subst hP
  refine ZP () ?_ (Zat (fun _ _ _ => trivial) (Zdi (sl := _) 9 rfl (Zdi (sl := _) 8 rfl ha)))
  rw [hres]
  exact ⟨[], [], [], ⟨rfl, rfl⟩, ⟨rfl, rfl⟩, ⟨by simp, by simp⟩, by simp, rfl, rfl, ⟨_, rfl, rfl⟩, ⟨_, rfl, rfl⟩, Zf3 _ _ _ ([], [], _)⟩
 | cons t r =>
  have ht := htx t (List.mem_cons_self ..)
  have hst := hsm t (List.mem_cons_self ..)
  have hlr : r.length + 1 ≤ 100 := by simpa using hlen
  have e0 : decide (((r.length + 1 : Nat) : Int) = 0) = false := decide_eq_false (by omega)
  refine ZN hE ZaF hl rfl (Nat.le_of_ble_eq_true rfl) ?_
  simp (config := {dsimp := false}) only [↓Zr, vz, vn, nq, Zo, Zi, Zd, Zb, Zg, Za, Zh, Ze, Zj, Zf, if_true, if_false, implies_true, forall_const, ne_eq, reduceIte, reduceCtorEq, Nat.reduceEqDiff, Nat.reduceAdd, Nat.reduceMul, Nat.reduceDiv, Nat.reduceLT, Nat.reduceSub, Nat.reduceLeDiff, Nat.reduceBNe, Nat.reduceBEq, Nat.reduceBeqDiff, List.range, List.range.loop, Zq, Tryd.ntmps26, Tryd.results26, show (ZaX (t :: r)).length = r.length + 1 by simp [ZaX], e0]
  refine gmk (ZG (b := false) rfl (fun hh => by cases hh) (fun _ => Zbe fun a w ha => Zbs ?_ ha))
  refine ZbL (Zaf hE ZaF 4 rfl rfl rfl ?_)
  simp (config := {dsimp := false}) only [↓Zr, vz, vn, nq, Zo, Zi, Zd, Zb, Zg, Za, Zh, Ze, Zj, Zf, if_true, if_false, implies_true, forall_const, ne_eq, reduceIte, reduceCtorEq, Nat.reduceEqDiff, Nat.reduceAdd, Nat.reduceMul, Nat.reduceDiv, Nat.reduceLT, Nat.reduceSub, Nat.reduceLeDiff, Nat.reduceBNe, Nat.reduceBEq, Nat.reduceBeqDiff, List.range, List.range.loop, Zq, Tryd.ntmps26, Tryd.results26, List.drop_zero, List.take_succ_cons, List.take_zero]
  refine Ze8 (ZhM (fun b : Nat => D.raw (.map (some b))) (fun b g w => Zcq gF (ZaA (fun _ => False) w0) gv G g w ∧ Zeb (ZaA (fun _ => False) w0) b #[] 0 g w) rfl rfl (fun c => by simp) (some 37) rfl (show (37 : Nat) < 112 by decide) ?_ fun bT => ?_)
  ·intro g w a hsz hs hg hi hk hget
   obtain ⟨k1, k2⟩ := Ze4 hi (.map #[] 0)
   exact ⟨w.heap.size, _, _, fun _ => False, .inl (by simp [execOp, Instr.makeMap]), rfl, k1.m, fun _ _ hb => hb, k2, ZaF.stab _ _ _ _ k1 hget, ⟨.inr hk.size, hi.own _ (Nat.le_refl _), hi.lim _ (Nat.le_refl _)⟩, World.alloc_heap_new w _⟩
  refine ZhM (fun b : Nat => D.raw (.map (some b))) (fun b => HGx gF (ZaA (fun _ => False) w0) G bT b gv (.slice none 0 0) #[] 0 #[] 0 []) rfl rfl (fun c => by simp) (some 38) rfl (show (38 : Nat) < 112 by decide) ?_ fun bO => ?_
  ·rintro g w a hsz hs hg hi hk ⟨hget, hmT⟩
   obtain ⟨k1, k2⟩ := Ze4 hi (.map #[] 0)
   have hlt := Zw hmT.2
   exact ⟨w.heap.size, _, _, fun _ => False, .inl (by simp [execOp, Instr.makeMap]), rfl, k1.m, fun _ _ hb => hb, k2, ⟨⟨by omega, ZjF _ _ _ _ _ _ _ _ k1 hmT, ⟨⟨.inr hk.size, hi.own _ (Nat.le_refl _), hi.lim _ (Nat.le_refl _)⟩, World.alloc_heap_new w _⟩, .inl ⟨rfl, _, rfl⟩⟩, ZaF.stab _ _ _ _ k1 hget⟩⟩
  refine Zav hE ZU (nx := 116) _ rfl rfl ?_
  simp (config := {dsimp := false}) only [↓Zr, vz, vn, nq, Zo, Zi, Zd, Zb, Zg, Za, Zh, Ze, Zj, Zf, if_true, if_false, implies_true, forall_const, ne_eq, reduceIte, reduceCtorEq, Nat.reduceEqDiff, Nat.reduceAdd, Nat.reduceMul, Nat.reduceDiv, Nat.reduceLT, Nat.reduceSub, Nat.reduceLeDiff, Nat.reduceBNe, Nat.reduceBEq, Nat.reduceBeqDiff, List.range, List.range.loop, Zq, Tryd.ntmps26, Tryd.results26, ZaM, List.drop_zero, List.drop_succ_cons, hgv, show Zy (.raw (.map (some bT))) = true from rfl, show Zy (.raw (.map (some bO))) = true from rfl]
  refine ZQ ?_
  have hpar : (D.agg [.agg [.int .u32 p.v, .arr .u8 32 p.p, .arr .u8 32 p.r, .int .u32 p.t, .int .u32 p.b, .int .u32 p.n], .int .u32 p.bits, .int .i64 p.itv, .int .i64 p.spc, .int .i64 p.mat, .int .i64 p.halv, .int .i64 p.sub, .int .i64 p.undo, .int .i64 p.cache, .int .u64 p.leaves, .int .i64 p.height]) = Zfr p := rfl
  refine Zhu ZU hl (sl' := [(4, .bp 8 0), (5, .bp 12 0), (6, .bp 16 0), (8, .sl .full 0 []), (9, .sl .full 0 []), (10, .int .i64 0), (11, .bp 108 0)])
   (s' := ⟨[(8, Zfr p), (12, .agg [Ziq a0 a1 a2 a3 a4 a5, .sl .no 4 (ZaX (t :: r))]), (16, Zdl blk h med), (108, .agg [.agg [.arr .u8 32 blk, .int .i64 h, .int .u32 med], .int .i64 p.mat, .raw gv, .raw (.map (some bT)), .raw (.map (some bO)), .sl .full 0 [], .sl .full 0 [], .sl .full 0 [], .int .i64 0])], [], 116⟩) (Nat.le_of_ble_eq_true rfl) ⟨⟨Zc rfl, rfl, Zc rfl, rfl, Zc rfl, rfl, Zc rfl, rfl, Zc rfl, rfl, Zc rfl, rfl, Zc rfl, rfl, trivial⟩, ⟨rfl, Nat.le_of_ble_eq_true rfl, rfl, rfl, Nat.le_of_ble_eq_true rfl, rfl, rfl, Nat.le_of_ble_eq_true rfl, rfl, rfl, Nat.le_of_ble_eq_true rfl, rfl, trivial⟩, trivial⟩ ?_
  refine Zza 108 _ _ _ _ _ _ _ _ rfl fun ad => ?_
  refine Ze6 (H' := HGx gF (ZaA (fun _ => False) w0) G bT bO gv (.slice ad 0 0) #[] 0 #[] 0 []) (fun g w hh => ⟨⟨hh.ne, hh.told, hh.own, .inl ⟨rfl, ad, rfl⟩⟩, hh.get⟩) ?_
  refine Ze6 (H' := HS E.P 43 gF (ZaA (fun _ => False) w0) G bT bO gv (.slice ad 0 0) Zdg) (fun g w hh => ⟨((#[], 0), (#[], 0)), hh, ⟨ZjU, fun kx vx => ⟨fun q => absurd q (ZiC _ _), fun q => by obtain ⟨c, hc, _⟩ := q; cases hc⟩⟩, ⟨ZjU, fun kx vx => ⟨fun q => absurd q (ZiC _ _), fun q => by obtain ⟨i, hi, _⟩ := q; exact absurd hi (Nat.not_lt_zero _)⟩⟩⟩) ?_
  refine ZtY ZE [(108, none, 69), (108, none, 69)] ?_
  simp only [Zej, Zew, S.box, Zm, ZaV, Nat.reduceEqDiff, if_true, if_false, reduceIte, Option.map_some, Nat.reduceAdd]
  have g0 : (ZaX (t :: r)).getD 0 .any = txD t := rfl
  have glen : (ZaX (t :: r)).length = r.length + 1 := by simp [ZaX]
  refine ZbL (Zaf hE ZE 5 rfl rfl rfl ?_)
  simp (config := {dsimp := false}) only [↓Zr, vz, vn, nq, Zo, Zi, Zd, Zb, Zg, Za, Zh, Ze, Zj, Zf, if_true, if_false, implies_true, forall_const, ne_eq, reduceIte, reduceCtorEq, Nat.reduceEqDiff, Nat.reduceAdd, Nat.reduceMul, Nat.reduceDiv, Nat.reduceLT, Nat.reduceSub, Nat.reduceLeDiff, Nat.reduceBNe, Nat.reduceBEq, Nat.reduceBeqDiff, List.range, List.range.loop, Zq, Tryd.ntmps26, Tryd.results26, Ziq, txD, g0, glen, show Int.toNat 0 = 0 from rfl, List.drop_zero, List.take_succ_cons, List.take_zero]
  refine ⟨by omega, by omega, ?_⟩
  have hc1 : ZaD p.sub p.halv p.mat blk h (t :: r) G = (match Zcg G blk h p.mat r (Zam (idP t) blk h true 0 t.outs Zdg) with
   | (g, e) => if e ≠ 0 then ([], [], e) else match Zb9 0 t.outs with
    | none => ([], [], 32)
    | some out => if Zar p.sub p.halv h < out - g.fees then ([], [], 32) else (g.spent, Zvn g.made g.left, 0)) := hc0
  clear hc0
  generalize hst0 : Zam (idP t) blk h true 0 t.outs Zdg = st0 at hc1
  refine Ze8 (ZdR hE hgl (show E.P.funcs[55]? = some Tryd.f55 from Tryd.func55) (show Tryd.f55.body = some Zns from rfl) ⟨_, Tryd.func55, rfl, rfl⟩ (fun lv' => goB blk h med p.mat gv bT bO (.tup []) lv' st0) ⟨gv⟩ (fun lv' => lv') (fun _ => st0) rfl rfl (some 46) rfl (show (46 : Nat) < 112 by decide) rfl
   (args' := [.bp 0 0, txD t, .bool true]) (ds' := [goD blk h med p.mat gv bT bO [] (.slice ad 0 0) [] 0]) (tv' := [(0, 69), (0, 69)]) ?_ ?_ ?_ ?_ (Nat.le_of_ble_eq_true rfl) (fun g1 w hl => by subst hst0; exact Zk5 ht hst.2 true h med p.mat gv bT bO G Zdg (.slice ad 0 0) rfl (Nat.zero_le _) _ g1 w hl) fun lv' => ?_)
  ·simp (config := {dsimp := false}) only [↓Zr, vz, vn, nq, Zo, Zi, Zd, Zb, Zg, Za, Zh, Ze, Zj, Zf, if_true, if_false, implies_true, forall_const, ne_eq, reduceIte, reduceCtorEq, Nat.reduceEqDiff, Nat.reduceAdd, Nat.reduceMul, Nat.reduceDiv, Nat.reduceLT, Nat.reduceSub, Nat.reduceLeDiff, Nat.reduceBNe, Nat.reduceBEq, Nat.reduceBeqDiff, List.range, List.range.loop, Zq, Tryd.ntmps26, Tryd.results26, ZeR, vb, goD, ZH]
   rfl
  ·intro _
   simp (config := {dsimp := false}) only [↓Zr, vz, vn, nq, Zo, Zi, Zd, Zb, Zg, Za, Zh, Ze, Zj, Zf, if_true, if_false, implies_true, forall_const, ne_eq, reduceIte, reduceCtorEq, Nat.reduceEqDiff, Nat.reduceAdd, Nat.reduceMul, Nat.reduceDiv, Nat.reduceLT, Nat.reduceSub, Nat.reduceLeDiff, Nat.reduceBNe, Nat.reduceBEq, Nat.reduceBeqDiff, List.range, List.range.loop, Zq, Tryd.ntmps26, Tryd.results26, vb, goD, goB, ZH]
  ·intro d hd l
   simp [ev, Zm] at hd
   rcases hd with rfl | rfl | rfl <;> simp [ZaG]
  ·simp [txD]
  refine Zav hE ZE (nx := 148) [] rfl rfl ?_
  simp (config := {dsimp := false}) only [↓Zr, vz, vn, nq, Zo, Zi, Zd, Zb, Zg, Za, Zh, Ze, Zj, Zf, if_true, if_false, implies_true, forall_const, ne_eq, reduceIte, reduceCtorEq, Nat.reduceEqDiff, Nat.reduceAdd, Nat.reduceMul, Nat.reduceDiv, Nat.reduceLT, Nat.reduceSub, Nat.reduceLeDiff, Nat.reduceBNe, Nat.reduceBEq, Nat.reduceBeqDiff, List.range, List.range.loop, Zq, Tryd.ntmps26, Tryd.results26, vb, goD, goB, ZH]
  refine ZQ (Zhu ZE hl (sl' := [(4, .bp 8 0), (5, .bp 12 0), (6, .bp 16 0), (8, .sl .full 0 []), (9, .sl .full 0 []), (10, .int .i64 0), (11, .bp 108 0)])
   (s' := ⟨[(8, Zfr p), (12, .agg [Ziq a0 a1 a2 a3 a4 a5, .sl .no 4 (ZaX (t :: r))]), (16, Zdl blk h med), (108, .agg [.agg [.arr .u8 32 blk, .int .i64 h, .int .u32 med], .int .i64 p.mat, .raw gv, .raw (.map (some bT)), .raw (.map (some bO)), .sl (.tok 116) 69 (ZK st0.made), .raw lv', .sl (.tok 120) 69 (ZK st0.spent), .int .i64 st0.fees])], [(116, (st0.made.length, 69)), (120, (st0.spent.length, 69))], 148⟩) (Nat.le_of_ble_eq_true rfl) ⟨⟨Zc rfl, rfl, Zc rfl, rfl, Zc rfl, rfl, Zc rfl, rfl, Zc rfl, rfl, Zc rfl, rfl, Zc rfl, rfl, trivial⟩, ⟨rfl, Nat.le_of_ble_eq_true rfl, rfl, rfl, Nat.le_of_ble_eq_true rfl, rfl, rfl, Nat.le_of_ble_eq_true rfl, rfl, rfl, Nat.le_of_ble_eq_true rfl, rfl, trivial⟩, ⟨rfl, Nat.le_of_ble_eq_true rfl, rfl, Nat.le_of_ble_eq_true rfl, trivial⟩⟩ ?_)
  refine Z1 (ZN hE ZE hl rfl (Nat.le_of_ble_eq_true rfl) ?_)
  simp (config := {dsimp := false}) only [↓Zr, vz, vn, nq, Zo, Zi, Zd, Zb, Zg, Za, Zh, Ze, Zj, Zf, if_true, if_false, implies_true, forall_const, ne_eq, reduceIte, reduceCtorEq, Nat.reduceEqDiff, Nat.reduceAdd, Nat.reduceMul, Nat.reduceDiv, Nat.reduceLT, Nat.reduceSub, Nat.reduceLeDiff, Nat.reduceBNe, Nat.reduceBEq, Nat.reduceBeqDiff, List.range, List.range.loop, Zq, Tryd.ntmps26, Tryd.results26, Ziq, glen]
  have hdrop : List.drop (Int.toNat 1) (List.take (((r.length + 1 : Nat) : Int)).toNat (ZaX (t :: r))) = ZaX r := by
   rw [Int.toNat_natCast, ← glen, List.take_length]
   rfl
  rw [hdrop, Za8]
  refine ⟨by omega, by omega, by omega, .inr trivial, ?_⟩
  have hM : Zbm = 2100000000000000 := rfl
  have hrest0 := Zfi (id := idP t) (blk := blk) (h := h) (base := true) t.outs 0 Zdg
  have hmore0 := Ze9 (id := idP t) (blk := blk) (h := h) (base := true) t.outs 0 Zdg
  have hrun0 : RunOk h st0 := by
   rw [← hst0]
   exact Zkd ⟨ZqI t, Zh1 t⟩ hb hh t.outs 0 Zdg ht.outs (by have := hst.2; omega) ⟨rfl, (fun c hc => by cases hc), (fun c hc => by cases hc)⟩
  rw [hst0] at hrest0 hmore0
  have hi0 : CoIdx G blk h p.mat r st0 0 st0 := ⟨Nat.zero_le _, hrun0, rfl, by have := hst.2; have : Zdg.made.length = 0 := rfl; omega, by rw [hrest0.1]; exact Nat.le_refl _, by rw [hrest0.2]; exact Int.le_refl _, by rw [hrest0.2]; show (0 : Int) ≤ Zbm; omega⟩
  refine gmk (Zbo ?_)
  refine ZfV hl (ι := {q : Nat × Value × GoP // CoIdx G blk h p.mat r st0 q.1 q.2.2})
   (fun q => [(4, .bp 8 0), (5, .bp 12 0), (6, .bp 16 0), (8, .sl .full 0 []), (9, .sl .full 0 []), (10, .int .i64 0), (11, .bp 108 0), (49, .sl .no 4 (ZaX r)), (50, .int .i64 (r.length : Nat)), (51, .int .i64 (q.1.1 : Nat))])
   (fun q => ⟨[(8, Zfr p), (12, .agg [Ziq a0 a1 a2 a3 a4 a5, .sl .no 4 (ZaX (t :: r))]), (16, Zdl blk h med), (108, .agg [.agg [.arr .u8 32 blk, .int .i64 h, .int .u32 med], .int .i64 p.mat, .raw gv, .raw (.map (some bT)), .raw (.map (some bO)), .sl (.tok 116) 69 (ZK q.1.2.2.made), .raw q.1.2.1, .sl (.tok 120) 69 (ZK q.1.2.2.spent), .int .i64 q.1.2.2.fees])], [(116, (q.1.2.2.made.length, 69)), (120, (q.1.2.2.spent.length, 69))], 168⟩)
   (fun q => HS E.P 43 gF (ZaA (fun _ => False) w0) G bT bO gv q.1.2.1 q.1.2.2) (fun _ => ZE) (fun q => r.length - q.1.1) ⟨(0, lv', st0), hi0⟩ (Nat.le_of_ble_eq_true rfl) (fun _ _ h => h) ⟨⟨Zc rfl, rfl, Zc rfl, rfl, Zc rfl, rfl, Zc rfl, rfl, Zc rfl, rfl, Zc rfl, rfl, Zc rfl, rfl, Zc rfl, rfl, Zc rfl, rfl, Zc rfl, rfl, trivial⟩, ⟨rfl, Nat.le_of_ble_eq_true rfl, rfl, rfl, Nat.le_of_ble_eq_true rfl, rfl, rfl, Nat.le_of_ble_eq_true rfl, rfl, rfl, Nat.le_of_ble_eq_true rfl, rfl, trivial⟩, ⟨rfl, Nat.le_of_ble_eq_true rfl, rfl, Nat.le_of_ble_eq_true rfl, trivial⟩⟩ ?_
  rintro ⟨⟨k, lv, g⟩, hk⟩
  simp only at hk ⊢
  refine ZN hE ZE hl rfl (Nat.le_of_ble_eq_true rfl) ?_
  simp (config := {dsimp := false}) only [↓Zr, vz, vn, nq, Zo, Zi, Zd, Zb, Zg, Za, Zh, Ze, Zj, Zf, if_true, if_false, implies_true, forall_const, ne_eq, reduceIte, reduceCtorEq, Nat.reduceEqDiff, Nat.reduceAdd, Nat.reduceMul, Nat.reduceDiv, Nat.reduceLT, Nat.reduceSub, Nat.reduceLeDiff, Nat.reduceBNe, Nat.reduceBEq, Nat.reduceBeqDiff, List.range, List.range.loop, Zq, Tryd.ntmps26, Tryd.results26]
  by_cases hkl : k < r.length
  case neg =>
   obtain rfl : k = r.length := by have := hk.le; omega
   have d3 : decide (((r.length : Nat) : Int) < ((r.length : Nat) : Int)) = false := decide_eq_false (by omega)
   have hpas : Zcg G blk h p.mat r st0 = (g, 0) := by rw [hk.rest, List.drop_length]; rfl
   refine gmk (Z1 (ZG (b := decide (((r.length : Nat) : Int) < ((r.length : Nat) : Int))) rfl (fun e => by rw [d3] at e; cases e) (fun _ => Zi5 fun a w ha => Zbs ?_ ha)))
   rw [hpas] at hc1
   simp only [ne_eq, not_true_eq_false, if_false] at hc1
   have hf0 := hk.f0
   have hf1 := hk.f1
   refine Zhu ZE hl (sl' := [(4, .bp 8 0), (5, .bp 12 0), (6, .bp 16 0), (8, .sl .full 0 []), (9, .sl .full 0 []), (10, .int .i64 0), (11, .bp 108 0)])
    (s' := ⟨[(8, Zfr p), (12, .agg [Ziq a0 a1 a2 a3 a4 a5, .sl .no 4 (ZaX (t :: r))]), (16, Zdl blk h med), (108, .agg [.agg [.arr .u8 32 blk, .int .i64 h, .int .u32 med], .int .i64 p.mat, .raw gv, .raw (.map (some bT)), .raw (.map (some bO)), .sl (.tok 116) 69 (ZK g.made), .raw lv, .sl (.tok 120) 69 (ZK g.spent), .int .i64 g.fees])], [(116, (g.made.length, 69)), (120, (g.spent.length, 69))], 172⟩) (Nat.le_of_ble_eq_true rfl) ⟨⟨Zc rfl, rfl, Zc rfl, rfl, Zc rfl, rfl, Zc rfl, rfl, Zc rfl, rfl, Zc rfl, rfl, Zc rfl, rfl, trivial⟩, ⟨rfl, Nat.le_of_ble_eq_true rfl, rfl, rfl, Nat.le_of_ble_eq_true rfl, rfl, rfl, Nat.le_of_ble_eq_true rfl, rfl, rfl, Nat.le_of_ble_eq_true rfl, rfl, trivial⟩, ⟨rfl, Nat.le_of_ble_eq_true rfl, rfl, Nat.le_of_ble_eq_true rfl, trivial⟩⟩ ?_
   have hany := Zfg ht.any
   cases hsum : Zb9 0 t.outs with
   | none =>
    simp only [hsum] at hc1
    refine Z1 ?_
    refine ZN hE ZE hl rfl (Nat.le_of_ble_eq_true rfl) ?_
    simp (config := {dsimp := false}) only [↓Zr, vz, vn, nq, Zo, Zi, Zd, Zb, Zg, Za, Zh, Ze, Zj, Zf, if_true, if_false, implies_true, forall_const, ne_eq, reduceIte, reduceCtorEq, Nat.reduceEqDiff, Nat.reduceAdd, Nat.reduceMul, Nat.reduceDiv, Nat.reduceLT, Nat.reduceSub, Nat.reduceLeDiff, Nat.reduceBNe, Nat.reduceBEq, Nat.reduceBeqDiff, List.range, List.range.loop, Zq, Tryd.ntmps26, Tryd.results26, Ziq, txD, g0, glen, show Int.toNat 0 = 0 from rfl, PF.toR, Zk, Zbx, hsum, ZkK, Zgj, Zd4, Zm0, Zm4]
    refine ⟨by omega, by omega, hany, ?_⟩
    refine gmk (Z1 (Zij hE ZE hl rfl (Nat.le_of_ble_eq_true rfl) ?_))
    simp (config := {dsimp := false}) only [↓Zr, vz, vn, nq, Zo, Zi, Zd, Zb, Zg, Za, Zh, Ze, Zj, Zf, if_true, if_false, implies_true, forall_const, ne_eq, reduceIte, reduceCtorEq, Nat.reduceEqDiff, Nat.reduceAdd, Nat.reduceMul, Nat.reduceDiv, Nat.reduceLT, Nat.reduceSub, Nat.reduceLeDiff, Nat.reduceBNe, Nat.reduceBEq, Nat.reduceBeqDiff, List.range, List.range.loop, Zq, Tryd.ntmps26, Tryd.results26]
    refine ZcA [4, 6, 8, 9, 10, 11, 15, 16] (by kernel_rfl) ?_
    simp (config := {dsimp := false}) only [↓Zr, vz, vn, nq, Zo, Zi, Zd, Zb, Zg, Za, Zh, Ze, Zj, Zf, if_true, if_false, implies_true, forall_const, ne_eq, reduceIte, reduceCtorEq, Nat.reduceEqDiff, Nat.reduceAdd, Nat.reduceMul, Nat.reduceDiv, Nat.reduceLT, Nat.reduceSub, Nat.reduceLeDiff, Nat.reduceBNe, Nat.reduceBEq, Nat.reduceBeqDiff, List.range, List.range.loop, Zq, Tryd.ntmps26, Tryd.results26]
    refine ZQ (ZG (b := true) rfl (fun _ => ?_) (fun hh => by cases hh))
    refine ZN hE ZE hl rfl (Nat.le_of_ble_eq_true rfl) ?_
    simp (config := {dsimp := false}) only [↓Zr, vz, vn, nq, Zo, Zi, Zd, Zb, Zg, Za, Zh, Ze, Zj, Zf, if_true, if_false, implies_true, forall_const, ne_eq, reduceIte, reduceCtorEq, Nat.reduceEqDiff, Nat.reduceAdd, Nat.reduceMul, Nat.reduceDiv, Nat.reduceLT, Nat.reduceSub, Nat.reduceLeDiff, Nat.reduceBNe, Nat.reduceBEq, Nat.reduceBeqDiff, List.range, List.range.loop, Zq, Tryd.ntmps26, Tryd.results26]
    refine gmk (Zao fun a w ha => ?_)
    subst hP
    refine ZP () ?_ (Zat (fun _ _ _ => trivial) (Zdi (sl := _) 9 rfl (Zdi (sl := _) 8 rfl ha)))
    rw [hc1]
    exact ⟨[], [], [], ⟨rfl, rfl⟩, ⟨rfl, rfl⟩, ⟨by simp, by simp⟩, by simp, rfl, rfl, ⟨_, rfl, rfl⟩, ⟨_, rfl, rfl⟩, Zf3 _ _ _ ([], [], _)⟩
   | some out =>
    simp only [hsum] at hc1
    obtain ⟨o0, o1⟩ := Zi8 t.outs 0 out (Int.le_refl _) (by omega) hsum
    have hi64 : Zap p.sub ∧ Zap h := ⟨hsub, by have q1 := hh.1; have q2 := hh.2; simp only [Zb3] at q2; constructor <;> omega⟩
    have w1 : IntKind.wrap .i64 (out - g.fees) = out - g.fees := Zax (by omega) (by omega)
    refine Z1 ?_
    refine ZN hE ZE hl rfl (Nat.le_of_ble_eq_true rfl) ?_
    simp (config := {dsimp := false}) only [↓Zr, vz, vn, nq, Zo, Zi, Zd, Zb, Zg, Za, Zh, Ze, Zj, Zf, if_true, if_false, implies_true, forall_const, ne_eq, reduceIte, reduceCtorEq, Nat.reduceEqDiff, Nat.reduceAdd, Nat.reduceMul, Nat.reduceDiv, Nat.reduceLT, Nat.reduceSub, Nat.reduceLeDiff, Nat.reduceBNe, Nat.reduceBEq, Nat.reduceBeqDiff, List.range, List.range.loop, Zq, Tryd.ntmps26, Tryd.results26, Ziq, txD, g0, glen, show Int.toNat 0 = 0 from rfl, PF.toR, Zk, Zbx, hsum, ZkK, Zgj, Zd4, Zm0, Zm4]
    refine ⟨by omega, by omega, hany, ?_⟩
    refine gmk (Z1 (Zij hE ZE hl rfl (Nat.le_of_ble_eq_true rfl) ?_))
    simp (config := {dsimp := false}) only [↓Zr, vz, vn, nq, Zo, Zi, Zd, Zb, Zg, Za, Zh, Ze, Zj, Zf, if_true, if_false, implies_true, forall_const, ne_eq, reduceIte, reduceCtorEq, Nat.reduceEqDiff, Nat.reduceAdd, Nat.reduceMul, Nat.reduceDiv, Nat.reduceLT, Nat.reduceSub, Nat.reduceLeDiff, Nat.reduceBNe, Nat.reduceBEq, Nat.reduceBeqDiff, List.range, List.range.loop, Zq, Tryd.ntmps26, Tryd.results26]
    refine ZcA [4, 6, 8, 9, 10, 11, 15, 16] (by kernel_rfl) ?_
    by_cases hbad : Zar p.sub p.halv h < out - g.fees
    ·rw [if_pos hbad] at hc1
     have d5 : decide (Zar p.sub p.halv h < out - g.fees) = true := decide_eq_true hbad
     simp (config := {dsimp := false}) only [↓Zr, vz, vn, nq, Zo, Zi, Zd, Zb, Zg, Za, Zh, Ze, Zj, Zf, if_true, if_false, implies_true, forall_const, ne_eq, reduceIte, reduceCtorEq, Nat.reduceEqDiff, Nat.reduceAdd, Nat.reduceMul, Nat.reduceDiv, Nat.reduceLT, Nat.reduceSub, Nat.reduceLeDiff, Nat.reduceBNe, Nat.reduceBEq, Nat.reduceBeqDiff, List.range, List.range.loop, Zq, Tryd.ntmps26, Tryd.results26, Zfr, Zdl, w1, PF.toR, Zk, d5, Ze1, ZaQ, Zie, ZhX]
     refine ⟨hi64.1, hi64.2, ?_⟩
     refine ZQ (ZG (b := true) rfl (fun _ => ?_) (fun hh => by cases hh))
     refine ZN hE ZE hl rfl (Nat.le_of_ble_eq_true rfl) ?_
     simp (config := {dsimp := false}) only [↓Zr, vz, vn, nq, Zo, Zi, Zd, Zb, Zg, Za, Zh, Ze, Zj, Zf, if_true, if_false, implies_true, forall_const, ne_eq, reduceIte, reduceCtorEq, Nat.reduceEqDiff, Nat.reduceAdd, Nat.reduceMul, Nat.reduceDiv, Nat.reduceLT, Nat.reduceSub, Nat.reduceLeDiff, Nat.reduceBNe, Nat.reduceBEq, Nat.reduceBeqDiff, List.range, List.range.loop, Zq, Tryd.ntmps26, Tryd.results26]
     refine gmk (Zao fun a w ha => ?_)
     subst hP
     refine ZP () ?_ (Zat (fun _ _ _ => trivial) (Zdi (sl := _) 9 rfl (Zdi (sl := _) 8 rfl ha)))
     rw [hc1]
     exact ⟨[], [], [], ⟨rfl, rfl⟩, ⟨rfl, rfl⟩, ⟨by simp, by simp⟩, by simp, rfl, rfl, ⟨_, rfl, rfl⟩, ⟨_, rfl, rfl⟩, Zf3 _ _ _ ([], [], _)⟩
    rw [if_neg hbad] at hc1
    have d5 : decide (Zar p.sub p.halv h < out - g.fees) = false := decide_eq_false hbad
    simp (config := {dsimp := false}) only [↓Zr, vz, vn, nq, Zo, Zi, Zd, Zb, Zg, Za, Zh, Ze, Zj, Zf, if_true, if_false, implies_true, forall_const, ne_eq, reduceIte, reduceCtorEq, Nat.reduceEqDiff, Nat.reduceAdd, Nat.reduceMul, Nat.reduceDiv, Nat.reduceLT, Nat.reduceSub, Nat.reduceLeDiff, Nat.reduceBNe, Nat.reduceBEq, Nat.reduceBeqDiff, List.range, List.range.loop, Zq, Tryd.ntmps26, Tryd.results26, Zfr, Zdl, w1, PF.toR, Zk, d5, Ze1, ZaQ, Zie, ZhX]
    refine ⟨hi64.1, hi64.2, ?_⟩
    refine ZQ (ZG (b := false) rfl (fun hh => by cases hh) (fun _ => Zbe fun a w ha => Zbs ?_ ha))
    refine Zhu ZE hl (sl' := [(8, .sl .full 0 []), (9, .sl .full 0 []), (10, .int .i64 0), (11, .bp 108 0)])
     (s' := ⟨[(8, Zfr p), (12, .agg [Ziq a0 a1 a2 a3 a4 a5, .sl .no 4 (ZaX (t :: r))]), (16, Zdl blk h med), (108, .agg [.agg [.arr .u8 32 blk, .int .i64 h, .int .u32 med], .int .i64 p.mat, .raw gv, .raw (.map (some bT)), .raw (.map (some bO)), .sl (.tok 116) 69 (ZK g.made), .raw lv, .sl (.tok 120) 69 (ZK g.spent), .int .i64 g.fees])], [(116, (g.made.length, 69)), (120, (g.spent.length, 69))], 280⟩) (Nat.le_of_ble_eq_true rfl) ⟨⟨Zc rfl, rfl, Zc rfl, rfl, Zc rfl, rfl, Zc rfl, rfl, trivial⟩, ⟨rfl, Nat.le_of_ble_eq_true rfl, rfl, rfl, Nat.le_of_ble_eq_true rfl, rfl, rfl, Nat.le_of_ble_eq_true rfl, rfl, rfl, Nat.le_of_ble_eq_true rfl, rfl, trivial⟩, ⟨rfl, Nat.le_of_ble_eq_true rfl, rfl, Nat.le_of_ble_eq_true rfl, trivial⟩⟩ ?_
    refine Z1 (ZN hE ZE hl rfl (Nat.le_of_ble_eq_true rfl) ?_)
    simp (config := {dsimp := false}) only [↓Zr, vz, vn, nq, Zo, Zi, Zd, Zb, Zg, Za, Zh, Ze, Zj, Zf, if_true, if_false, implies_true, forall_const, ne_eq, reduceIte, reduceCtorEq, Nat.reduceEqDiff, Nat.reduceAdd, Nat.reduceMul, Nat.reduceDiv, Nat.reduceLT, Nat.reduceSub, Nat.reduceLeDiff, Nat.reduceBNe, Nat.reduceBEq, Nat.reduceBeqDiff, List.range, List.range.loop, Zq, Tryd.ntmps26, Tryd.results26]
    refine gmk (Zbo ?_)
    refine Zsf (Hx := fun (q : (Array MapEntry × Nat) × (Array MapEntry × Nat)) g' w => HGx gF (ZaA (fun _ => False) w0) G bT bO gv lv q.1.1 q.1.2 q.2.1 q.2.2 g.left g' w) (fun g' w hh => by obtain ⟨q, hq, _⟩ := hh; exact ⟨q, hq⟩) fun q => ?_
    refine ZuR ZU [(9, none, 69)] ?_
    simp only [Za0, S.box, Zm, ZaV, ZaM, Nat.reduceEqDiff, if_true, if_false, reduceIte, Option.map_some, Nat.reduceAdd]
    have hgl0 : g.left.length = g.made.length := hk.run.len
    have hgm : g.made.length ≤ 1000000 := by have := hk.emade; omega
    refine ZfV hl (ι := {k : Nat // k ≤ g.made.length})
     (fun k => [(8, .sl .full 0 []), (9, .sl (.tok 304) 69 (ZK (Zfq g.made g.left k.1))), (11, .bp 108 0), (88, .sl (.tok 116) 69 (ZK g.made)), (89, .int .i64 (g.made.length : Nat)), (90, .int .i64 (k.1 : Nat))])
     (fun k => ⟨[(108, .agg [.agg [.arr .u8 32 blk, .int .i64 h, .int .u32 med], .int .i64 p.mat, .raw gv, .raw (.map (some bT)), .raw (.map (some bO)), .sl (.tok 116) 69 (ZK g.made), .raw lv, .sl (.tok 120) 69 (ZK g.spent), .int .i64 g.fees])], [(116, (g.made.length, 69)), (120, (g.spent.length, 69)), (304, ((Zfq g.made g.left k.1).length, 69))], 308⟩)
     (fun _ g' w => HGx gF (ZaA (fun _ => False) w0) G bT bO gv lv q.1.1 q.1.2 q.2.1 q.2.2 g.left g' w) (fun _ => ZU) (fun k => g.made.length - k.1) ⟨0, Nat.zero_le _⟩ (Nat.le_of_ble_eq_true rfl) (fun _ _ h => h) ?_ ?_
    ·have e0 : Zfq g.made g.left 0 = [] := rfl
     simp only [e0, Z9]
     exact ⟨⟨Zc rfl, rfl, Zc rfl, rfl, Zc rfl, rfl, Zc rfl, rfl, Zc rfl, rfl, Zc rfl, rfl, trivial⟩, ⟨rfl, Nat.le_of_ble_eq_true rfl, rfl, trivial⟩, ⟨rfl, Nat.le_of_ble_eq_true rfl, rfl, Nat.le_of_ble_eq_true rfl, rfl, Nat.le_of_ble_eq_true rfl, trivial⟩⟩
    rintro ⟨k, hk2⟩
    simp only
    refine ZN hE ZU hl rfl (Nat.le_of_ble_eq_true rfl) ?_
    simp (config := {dsimp := false}) only [↓Zr, vz, vn, nq, Zo, Zi, Zd, Zb, Zg, Za, Zh, Ze, Zj, Zf, if_true, if_false, implies_true, forall_const, ne_eq, reduceIte, reduceCtorEq, Nat.reduceEqDiff, Nat.reduceAdd, Nat.reduceMul, Nat.reduceDiv, Nat.reduceLT, Nat.reduceSub, Nat.reduceLeDiff, Nat.reduceBNe, Nat.reduceBEq, Nat.reduceBeqDiff, List.range, List.range.loop, Zq, Tryd.ntmps26, Tryd.results26]
    by_cases hkm : k < g.made.length
    case neg =>
     obtain rfl : k = g.made.length := by omega
     have d6 : decide (((g.made.length : Nat) : Int) < ((g.made.length : Nat) : Int)) = false := decide_eq_false (by omega)
     refine gmk (Z1 (ZG (b := decide (((g.made.length : Nat) : Int) < ((g.made.length : Nat) : Int))) rfl (fun e => by rw [d6] at e; cases e) (fun _ => Zi5 fun a w ha => Zbs ?_ ha)))
     refine ZN hE ZU hl rfl (Nat.le_of_ble_eq_true rfl) ?_
     simp (config := {dsimp := false}) only [↓Zr, vz, vn, nq, Zo, Zi, Zd, Zb, Zg, Za, Zh, Ze, Zj, Zf, if_true, if_false, implies_true, forall_const, ne_eq, reduceIte, reduceCtorEq, Nat.reduceEqDiff, Nat.reduceAdd, Nat.reduceMul, Nat.reduceDiv, Nat.reduceLT, Nat.reduceSub, Nat.reduceLeDiff, Nat.reduceBNe, Nat.reduceBEq, Nat.reduceBeqDiff, List.range, List.range.loop, Zq, Tryd.ntmps26, Tryd.results26]
     refine gmk (Zao fun a w ha => ?_)
     subst hP
     refine ZP () ?_ (Zat (fun _ _ _ => trivial) ha)
     rw [hc1]
     exact ⟨[], [], [], ⟨rfl, rfl⟩, ⟨rfl, rfl⟩, ⟨by simp, by simp⟩, by simp, rfl, rfl, ⟨_, rfl, rfl⟩, ⟨_, rfl, rfl⟩, ZwG _ _ _ (by decide) (by decide) _ _ _⟩
    have d6 : decide (((k : Nat) : Int) < ((g.made.length : Nat) : Int)) = true := decide_eq_true (by omega)
    refine gmk (Z1 (ZG (b := decide (((k : Nat) : Int) < ((g.made.length : Nat) : Int))) rfl (fun _ => Zbe fun a w ha => Zbs ?_ ha) (fun e => by rw [d6] at e; cases e)))
    refine Z1 (Zbo ?_)
    have g0k := ZgG g.made k hkm
    have hls := Zqy g.made g.left k
    generalize g.made.getD k default = c at g0k hls
    refine ZN hE ZU hl rfl (Nat.le_of_ble_eq_true rfl) ?_
    simp (config := {dsimp := false}) only [↓Zr, vz, vn, nq, Zo, Zi, Zd, Zb, Zg, Za, Zh, Ze, Zj, Zf, if_true, if_false, implies_true, forall_const, ne_eq, reduceIte, reduceCtorEq, Nat.reduceEqDiff, Nat.reduceAdd, Nat.reduceMul, Nat.reduceDiv, Nat.reduceLT, Nat.reduceSub, Nat.reduceLeDiff, Nat.reduceBNe, Nat.reduceBEq, Nat.reduceBeqDiff, List.range, List.range.loop, Zq, Tryd.ntmps26, Tryd.results26, Int.toNat_natCast, g0k, Zac, Z9]
    refine ⟨by omega, by omega, ?_⟩
    refine gmk (ZbL (Zaf hE ZU 5 rfl rfl rfl ?_))
    simp (config := {dsimp := false}) only [↓Zr, vz, vn, nq, Zo, Zi, Zd, Zb, Zg, Za, Zh, Ze, Zj, Zf, if_true, if_false, implies_true, forall_const, ne_eq, reduceIte, reduceCtorEq, Nat.reduceEqDiff, Nat.reduceAdd, Nat.reduceMul, Nat.reduceDiv, Nat.reduceLT, Nat.reduceSub, Nat.reduceLeDiff, Nat.reduceBNe, Nat.reduceBEq, Nat.reduceBeqDiff, List.range, List.range.loop, Zq, Tryd.ntmps26, Tryd.results26, List.drop_zero, List.take_succ_cons, List.take_zero]
    refine Ze8 (Zxg hE ZlC rfl ty4 rfl rfl (n := k) rfl rfl rfl rfl (by decide) rfl rfl rfl rfl (by decide) rfl rfl (by omega) fun b => ?_)
    refine Zav hE ZU (nx := 356) [] rfl rfl ?_
    simp (config := {dsimp := false}) only [↓Zr, vz, vn, nq, Zo, Zi, Zd, Zb, Zg, Za, Zh, Ze, Zj, Zf, if_true, if_false, implies_true, forall_const, ne_eq, reduceIte, reduceCtorEq, Nat.reduceEqDiff, Nat.reduceAdd, Nat.reduceMul, Nat.reduceDiv, Nat.reduceLT, Nat.reduceSub, Nat.reduceLeDiff, Nat.reduceBNe, Nat.reduceBEq, Nat.reduceBeqDiff, List.range, List.range.loop, Zq, Tryd.ntmps26, Tryd.results26]
    refine ZQ ?_
    by_cases hlk : g.left.getD k false = true
    case neg =>
     rw [if_neg hlk, List.append_nil] at hls
     refine ZG (b := g.left.getD k false) rfl (fun e => absurd e hlk) (fun _ => Zbe fun a w ha => Zbs ?_ ha)
     refine Zij hE ZU hl rfl (Nat.le_of_ble_eq_true rfl) ?_
     simp (config := {dsimp := false}) only [↓Zr, vz, vn, nq, Zo, Zi, Zd, Zb, Zg, Za, Zh, Ze, Zj, Zf, if_true, if_false, implies_true, forall_const, ne_eq, reduceIte, reduceCtorEq, Nat.reduceEqDiff, Nat.reduceAdd, Nat.reduceMul, Nat.reduceDiv, Nat.reduceLT, Nat.reduceSub, Nat.reduceLeDiff, Nat.reduceBNe, Nat.reduceBEq, Nat.reduceBeqDiff, List.range, List.range.loop, Zq, Tryd.ntmps26, Tryd.results26]
     refine Zd0 fun a w ha => ⟨⟨k + 1, hkm⟩, Zcy ZU hl (Nat.le_of_ble_eq_true rfl) ?_ ha, by (try simp only); omega⟩
     have e : IntKind.wrap .i64 (((k : Nat) : Int) + 1) = ((k + 1 : Nat) : Int) := by rw [Zax (by omega) (by omega)]; omega
     rw [e]
     simp only [hls]
     exact ⟨⟨Zc rfl, rfl, Zc rfl, rfl, Zc rfl, rfl, Zc rfl, rfl, Zc rfl, rfl, Zc rfl, rfl, trivial⟩, ⟨rfl, Nat.le_of_ble_eq_true rfl, rfl, trivial⟩, ⟨rfl, Nat.le_of_ble_eq_true rfl, rfl, Nat.le_of_ble_eq_true rfl, rfl, Nat.le_of_ble_eq_true rfl, trivial⟩⟩
    rw [if_pos hlk] at hls
    refine ZG (b := g.left.getD k false) rfl (fun _ => ?_) (fun e => absurd hlk (by rw [e]; decide))
    have hlen3 := Zts g.made g.left k
    refine Zij hE ZU hl rfl (Nat.le_of_ble_eq_true rfl) ?_
    simp (config := {dsimp := false}) only [↓Zr, vz, vn, nq, Zo, Zi, Zd, Zb, Zg, Za, Zh, Ze, Zj, Zf, if_true, if_false, implies_true, forall_const, ne_eq, reduceIte, reduceCtorEq, Nat.reduceEqDiff, Nat.reduceAdd, Nat.reduceMul, Nat.reduceDiv, Nat.reduceLT, Nat.reduceSub, Nat.reduceLeDiff, Nat.reduceBNe, Nat.reduceBEq, Nat.reduceBeqDiff, List.range, List.range.loop, Zq, Tryd.ntmps26, Tryd.results26]
    refine ⟨by rw [Z9], by rw [Z9]; omega, .inr trivial, .inr trivial, ?_⟩
    have hls2 : ZK (Zfq g.made g.left k) ++ [Zac c] = ZK (Zfq g.made g.left (k + 1)) := by rw [ZgZ, hls]
    rw [show (D.agg [.agg [.arr .u8 32 c.tx, .int .u32 c.ix], .arr .u8 32 c.blk, .int .i64 c.h, .bool c.base, .agg [.int .i64 c.v, .sli .no .u8 c.sc]]).bare = Zac c from rfl, hls2]
    intro a w ha
    refine Zbs ?_ ha
    refine Zij hE ZU hl rfl (Nat.le_of_ble_eq_true rfl) ?_
    simp (config := {dsimp := false}) only [↓Zr, vz, vn, nq, Zo, Zi, Zd, Zb, Zg, Za, Zh, Ze, Zj, Zf, if_true, if_false, implies_true, forall_const, ne_eq, reduceIte, reduceCtorEq, Nat.reduceEqDiff, Nat.reduceAdd, Nat.reduceMul, Nat.reduceDiv, Nat.reduceLT, Nat.reduceSub, Nat.reduceLeDiff, Nat.reduceBNe, Nat.reduceBEq, Nat.reduceBeqDiff, List.range, List.range.loop, Zq, Tryd.ntmps26, Tryd.results26]
    refine Zd0 fun a w ha => ⟨⟨k + 1, hkm⟩, Zcy ZU hl (Nat.le_of_ble_eq_true rfl) ?_ ha, by (try simp only); omega⟩
    have e : IntKind.wrap .i64 (((k : Nat) : Int) + 1) = ((k + 1 : Nat) : Int) := by rw [Zax (by omega) (by omega)]; omega
    have e2 : (Zfq g.made g.left (k + 1)).length = (Zfq g.made g.left k).length + 1 := by rw [hls]; simp
    rw [e]
    simp only [e2, Z9]
    exact ⟨⟨Zc rfl, rfl, Zc rfl, rfl, Zc rfl, rfl, Zc rfl, rfl, Zc rfl, rfl, Zc rfl, rfl, trivial⟩, ⟨rfl, Nat.le_of_ble_eq_true rfl, rfl, trivial⟩, ⟨rfl, Nat.le_of_ble_eq_true rfl, rfl, Nat.le_of_ble_eq_true rfl, rfl, Nat.le_of_ble_eq_true rfl, trivial⟩⟩
  have d3 : decide (((k : Nat) : Int) < ((r.length : Nat) : Int)) = true := decide_eq_true (by omega)
  refine gmk (Zc5 (fun g w hh => Zvq hh) fun hlv => ?_)
  refine ZN hE ZE hl rfl (Nat.le_of_ble_eq_true rfl) ?_
  simp (config := {dsimp := false}) only [↓Zr, vz, vn, nq, Zo, Zi, Zd, Zb, Zg, Za, Zh, Ze, Zj, Zf, if_true, if_false, implies_true, forall_const, ne_eq, reduceIte, reduceCtorEq, Nat.reduceEqDiff, Nat.reduceAdd, Nat.reduceMul, Nat.reduceDiv, Nat.reduceLT, Nat.reduceSub, Nat.reduceLeDiff, Nat.reduceBNe, Nat.reduceBEq, Nat.reduceBeqDiff, List.range, List.range.loop, Zq, Tryd.ntmps26, Tryd.results26, d3]
  have gk := Zho r k hkl
  have htk := htx _ (List.mem_cons_of_mem _ (ZS hkl))
  have hsk := hsm _ (List.mem_cons_of_mem _ (ZS hkl))
  have ZfG := Zpr (G := G) (blk := blk) (h := h) (mat := p.mat) hkl g
  have hpok := Zxh (mat := p.mat) hG hh hb htk hk.run ⟨hk.f0, hk.f1⟩
  generalize r.getD k default = tk at *
  refine gmk (Z1 (Zbo ?_))
  refine ZN hE ZE hl rfl (Nat.le_of_ble_eq_true rfl) ?_
  simp (config := {dsimp := false}) only [↓Zr, vz, vn, nq, Zo, Zi, Zd, Zb, Zg, Za, Zh, Ze, Zj, Zf, if_true, if_false, implies_true, forall_const, ne_eq, reduceIte, reduceCtorEq, Nat.reduceEqDiff, Nat.reduceAdd, Nat.reduceMul, Nat.reduceDiv, Nat.reduceLT, Nat.reduceSub, Nat.reduceLeDiff, Nat.reduceBNe, Nat.reduceBEq, Nat.reduceBeqDiff, List.range, List.range.loop, Zq, Tryd.ntmps26, Tryd.results26, Int.toNat_natCast, gk, txD]
  refine ⟨by omega, by omega, ?_⟩
  refine gmk (ZbL (Zaf hE ZE 2 rfl rfl rfl ?_))
  simp (config := {dsimp := false}) only [↓Zr, vz, vn, nq, Zo, Zi, Zd, Zb, Zg, Za, Zh, Ze, Zj, Zf, if_true, if_false, implies_true, forall_const, ne_eq, reduceIte, reduceCtorEq, Nat.reduceEqDiff, Nat.reduceAdd, Nat.reduceMul, Nat.reduceDiv, Nat.reduceLT, Nat.reduceSub, Nat.reduceLeDiff, Nat.reduceBNe, Nat.reduceBEq, Nat.reduceBeqDiff, List.range, List.range.loop, Zq, Tryd.ntmps26, Tryd.results26, List.drop_zero, List.take_succ_cons, List.take_zero]
  have hem := hk.emade
  have hes := hk.espent
  refine Ze8 (ZdR hE hgl (show E.P.funcs[56]? = some Tryd.f56 from Tryd.func56) (show Tryd.f56.body = some Zp4 from rfl) ⟨_, Tryd.func56, rfl, rfl⟩ (fun lv' => goB blk h med p.mat gv bT bO (.int .i64 (ZcC G blk h p.mat tk g).2) lv' (ZcC G blk h p.mat tk g).1) ⟨gv⟩ (fun lv' => lv') (fun _ => (ZcC G blk h p.mat tk g).1) rfl rfl (some 57) rfl (show (57 : Nat) < 112 by decide) rfl
   (args' := [.bp 0 0, txD tk]) (ds' := [goD blk h med p.mat gv bT bO g.made lv g.spent g.fees]) (tv' := [(g.made.length, 69), (g.spent.length, 69)]) ?_ ?_ ?_ ?_ (Nat.le_of_ble_eq_true rfl) (fun g1 w hl => Zus htk hsk.1 hsk.2 h med p.mat hh gv hgv bT bO G hG g lv hlv hk.run (by omega) (by omega) ⟨hk.f0, hk.f1⟩ _ g1 w hl) fun lv2 => ?_)
  ·simp (config := {dsimp := false}) only [↓Zr, vz, vn, nq, Zo, Zi, Zd, Zb, Zg, Za, Zh, Ze, Zj, Zf, if_true, if_false, implies_true, forall_const, ne_eq, reduceIte, reduceCtorEq, Nat.reduceEqDiff, Nat.reduceAdd, Nat.reduceMul, Nat.reduceDiv, Nat.reduceLT, Nat.reduceSub, Nat.reduceLeDiff, Nat.reduceBNe, Nat.reduceBEq, Nat.reduceBeqDiff, List.range, List.range.loop, Zq, Tryd.ntmps26, Tryd.results26, ZeR, vb, goD, ZH]
   rfl
  ·intro _
   simp (config := {dsimp := false}) only [↓Zr, vz, vn, nq, Zo, Zi, Zd, Zb, Zg, Za, Zh, Ze, Zj, Zf, if_true, if_false, implies_true, forall_const, ne_eq, reduceIte, reduceCtorEq, Nat.reduceEqDiff, Nat.reduceAdd, Nat.reduceMul, Nat.reduceDiv, Nat.reduceLT, Nat.reduceSub, Nat.reduceLeDiff, Nat.reduceBNe, Nat.reduceBEq, Nat.reduceBeqDiff, List.range, List.range.loop, Zq, Tryd.ntmps26, Tryd.results26, vb, goD, goB, ZH]
  ·intro d hd l
   simp [ev, Zm] at hd
   rcases hd with rfl | rfl <;> simp
  ·simp [txD]
  generalize ZcC G blk h p.mat tk g = pg at *
  obtain ⟨g', e⟩ := pg
  simp only at hpok ZfG ⊢
  refine Zav hE ZE (nx := 204) _ rfl rfl ?_
  simp (config := {dsimp := false}) only [↓Zr, vz, vn, nq, Zo, Zi, Zd, Zb, Zg, Za, Zh, Ze, Zj, Zf, if_true, if_false, implies_true, forall_const, ne_eq, reduceIte, reduceCtorEq, Nat.reduceEqDiff, Nat.reduceAdd, Nat.reduceMul, Nat.reduceDiv, Nat.reduceLT, Nat.reduceSub, Nat.reduceLeDiff, Nat.reduceBNe, Nat.reduceBEq, Nat.reduceBeqDiff, List.range, List.range.loop, Zq, Tryd.ntmps26, Tryd.results26, vb, goD, goB, ZH, List.drop_zero, List.drop_succ_cons]
  refine ZQ ?_
  by_cases he0 : e = 0
  case neg =>
   have hpas : Zcg G blk h p.mat r st0 = (g', e) := hk.rest.trans (ZfG.trans (if_pos he0))
   have hres : ZaD p.sub p.halv p.mat blk h (t :: r) G = ([], [], e) := by
    rw [hc1, hpas]
    exact if_pos he0
   have d4 : decide (e = 0) = false := decide_eq_false he0
   refine ZN hE ZE hl rfl (Nat.le_of_ble_eq_true rfl) ?_
   simp (config := {dsimp := false}) only [↓Zr, vz, vn, nq, Zo, Zi, Zd, Zb, Zg, Za, Zh, Ze, Zj, Zf, if_true, if_false, implies_true, forall_const, ne_eq, reduceIte, reduceCtorEq, Nat.reduceEqDiff, Nat.reduceAdd, Nat.reduceMul, Nat.reduceDiv, Nat.reduceLT, Nat.reduceSub, Nat.reduceLeDiff, Nat.reduceBNe, Nat.reduceBEq, Nat.reduceBeqDiff, List.range, List.range.loop, Zq, Tryd.ntmps26, Tryd.results26, d4]
   refine gmk (ZG (b := true) rfl (fun _ => ?_) (fun hh => by cases hh))
   refine ZN hE ZE hl rfl (Nat.le_of_ble_eq_true rfl) ?_
   simp (config := {dsimp := false}) only [↓Zr, vz, vn, nq, Zo, Zi, Zd, Zb, Zg, Za, Zh, Ze, Zj, Zf, if_true, if_false, implies_true, forall_const, ne_eq, reduceIte, reduceCtorEq, Nat.reduceEqDiff, Nat.reduceAdd, Nat.reduceMul, Nat.reduceDiv, Nat.reduceLT, Nat.reduceSub, Nat.reduceLeDiff, Nat.reduceBNe, Nat.reduceBEq, Nat.reduceBeqDiff, List.range, List.range.loop, Zq, Tryd.ntmps26, Tryd.results26]
   refine gmk (Zao fun a w ha => ?_)
   subst hP
   refine ZP () ?_ (Zat (fun _ _ _ => trivial) (Zdi (sl := _) 9 rfl (Zdi (sl := _) 8 rfl ha)))
   rw [hres]
   exact ⟨[], [], [], ⟨rfl, rfl⟩, ⟨rfl, rfl⟩, ⟨by simp, by simp⟩, by simp, rfl, rfl, ⟨_, rfl, rfl⟩, ⟨_, rfl, rfl⟩, Zf3 _ _ _ ([], [], _)⟩
  subst he0
  obtain ⟨p1, p2, p3, p4, p5⟩ := hpok rfl
  have hidx : CoIdx G blk h p.mat r st0 (k + 1) g' := ⟨hkl, p1, hk.rest.trans (ZfG.trans (if_neg (fun q => q rfl))), by have := hsk.2; omega, by have := hsk.1; omega, p4, p5⟩
  refine ZN hE ZE hl rfl (Nat.le_of_ble_eq_true rfl) ?_
  simp (config := {dsimp := false}) only [↓Zr, vz, vn, nq, Zo, Zi, Zd, Zb, Zg, Za, Zh, Ze, Zj, Zf, if_true, if_false, implies_true, forall_const, ne_eq, reduceIte, reduceCtorEq, Nat.reduceEqDiff, Nat.reduceAdd, Nat.reduceMul, Nat.reduceDiv, Nat.reduceLT, Nat.reduceSub, Nat.reduceLeDiff, Nat.reduceBNe, Nat.reduceBEq, Nat.reduceBeqDiff, List.range, List.range.loop, Zq, Tryd.ntmps26, Tryd.results26, show decide ((0 : Int) = 0) = true from rfl]
  refine gmk (ZG (b := false) rfl (fun hh => by cases hh) (fun _ => Zbe fun a w ha => Zbs ?_ ha))
  refine Zij hE ZE hl rfl (Nat.le_of_ble_eq_true rfl) ?_
  simp (config := {dsimp := false}) only [↓Zr, vz, vn, nq, Zo, Zi, Zd, Zb, Zg, Za, Zh, Ze, Zj, Zf, if_true, if_false, implies_true, forall_const, ne_eq, reduceIte, reduceCtorEq, Nat.reduceEqDiff, Nat.reduceAdd, Nat.reduceMul, Nat.reduceDiv, Nat.reduceLT, Nat.reduceSub, Nat.reduceLeDiff, Nat.reduceBNe, Nat.reduceBEq, Nat.reduceBeqDiff, List.range, List.range.loop, Zq, Tryd.ntmps26, Tryd.results26]
  refine Zd0 fun a w ha => ⟨⟨(k + 1, lv2, g'), hidx⟩, Zcy ZE hl (Nat.le_of_ble_eq_true rfl) ?_ ha, by (try simp only); omega⟩
  have e : IntKind.wrap .i64 (((k : Nat) : Int) + 1) = ((k + 1 : Nat) : Int) := by rw [Zax (by omega) (by omega)]; omega
  rw [e]
  exact ⟨⟨Zc rfl, rfl, Zc rfl, rfl, Zc rfl, rfl, Zc rfl, rfl, Zc rfl, rfl, Zc rfl, rfl, Zc rfl, rfl, Zc rfl, rfl, Zc rfl, rfl, Zc rfl, rfl, trivial⟩, ⟨rfl, Nat.le_of_ble_eq_true rfl, rfl, rfl, Nat.le_of_ble_eq_true rfl, rfl, rfl, Nat.le_of_ble_eq_true rfl, rfl, rfl, Nat.le_of_ble_eq_true rfl, rfl, trivial⟩, ⟨rfl, Nat.le_of_ble_eq_true rfl, rfl, Nat.le_of_ble_eq_true rfl, trivial⟩⟩
end Go.Vi.CO
end

section
namespace Go.Vi.CO
open Go.Proofs
theorem ZwD {args args' : List D} {s : S} (h : ZeR args s = some (args', [], [])) (b : BF) (nm : Nat) : ZaS (fun _ _ _ => b) args s nm = b.toR [] [] nm := by
 unfold ZeR at h
 unfold ZaS
 cases hre : Zc6 s 4 (D.idsL [] args) with
 | none => simp [hre] at h
 | some ids =>
  simp only [hre] at h ⊢
  cases hds : ZB s.box ids with
  | none => simp [hds] at h
  | some ds =>
   simp only [hds] at h ⊢
   cases htv : ZB s.tok (D.tksL (D.tksL [] args) ds) with
   | none => simp [htv] at h
   | some tv =>
    simp only [htv, Option.some.injEq, Prod.mk.injEq, List.map_eq_nil_iff] at h ⊢
    obtain ⟨_, rfl, rfl⟩ := h
    have h1 := (Zaa hds).1
    have h2 := (Zaa htv).1
    rw [List.length_eq_zero_iff.1 h1.symm]
    simp only [List.length_nil] at h2
    rw [List.length_eq_zero_iff.1 h2.symm]
theorem Zxt (r : List CoinP × List CoinP × Int) (nm : Nat) : ((ZoI r).toR [] [] nm).vc ∧ ((ZoI r).toR [] [] nm).val = Zi0 r ∧ ((ZoI r).toR [] [] nm).ups = [] ∧ ((ZoI r).toR [] [] nm).tups = [] := by
 refine ⟨⟨trivial, ⟨rfl, rfl⟩, ⟨by decide, by decide⟩, ⟨rfl, rfl⟩, Nat.zero_le _, Nat.zero_le _⟩, ?_, rfl, rfl⟩
 simp only [BF.toR, ZoI, Zi0, D.ren, D.rens, ZH, Zft]
def ZxM : List NT := [.id, .st [.id, .sl 4 (.st [.id, .sl 36 (.st [.id, .ints .u8, .id, .sl 1 (.ints .u8)]), .sl 2 (.st [.id, .ints .u8])])]]
theorem ZxD (s : S) (r : R) (h1 : r.ups = []) (h2 : r.tups = []) : s.upd r = s := by simp [S.upd, h1, h2]
theorem Zrk {gv : Value} {G : PtP → Option CoinP} (p : ParP) (a0 : Int) (a1 a2 : List Int) (a3 a4 a5 : Int) (txs : List TxP) (htx : ∀ t ∈ txs, t.Ok) (hlen : txs.length ≤ 100) (hsm : ∀ t ∈ txs, t.ins.length ≤ 1000 ∧ t.outs.length ≤ 1000) {blk : List Int} (hb : blk.length = 32 ∧ bytes blk) (h med : Int) (hsub : Zap p.sub)
  {N : Nat} {g0 : Gh} {w0 : World} {Post : Exit → Act → World → Prop} {sl : List (Nat × D)} {s : S} {ops : Array Oper} {i nm : Nat} {o : Oper} {args : Array Operand} {Zo : Array TypeId} (ho : ops[i]? = some o) (hgd : o.guard = none) (dst : Option Tmp) (hdd : o.dst = dst) (hdst : ZbQ N dst) (hop : o.op = .call { callee := .value (.func 26), args := args, argTypes := Zo })
  (hin : ZeR (ZI ZxM (args.toList.map (ev E sl))) s = some ([Zfr p, .agg [Ziq a0 a1 a2 a3 a4 a5, .sl .no 4 (ZaX txs)], Zdl blk h med, .raw gv], [], [])) (hnt0 : ∀ d ∈ args.toList.map (ev E sl), ∀ l, d ≠ .tup l)
  (hk : GOM (fun _ => False) (fun _ _ => True) E N g0 w0 Post ops (i + 1) (nm + 4) (ZaM dst (Zi0 (ZaD p.sub p.halv p.mat blk h txs G)) sl) s) :
  GOM (fun _ => False) (Zcq gF (fun _ => False) gv G) E N g0 w0 Post ops i nm sl s := by
 subst hdd
 refine Zkm (p := Zy (.raw gv) = true ∧ ∀ o c, G o = some c → c.pt = o ∧ c.Ok) (fun g w hh => ⟨?_, fun o c hc => Zoe hh hc⟩) fun hp => ?_
 ·exact (Zh5 hh).1
 obtain ⟨hgv, hG⟩ := hp
 refine Zku (fun _ : Unit => Zi0 (ZaD p.sub p.halv p.mat blk h txs G)) (fun _ _ _ => True) (fun _ => s) ho hgd hdst hop ⟨_, Tryd.func26, rfl, rfl⟩ ?_ fun _ => hk
 intro g w a hsz hs hg hi hkm hh
 have hr := Zc1 (ts := ZxM) (Zec hs hg args.toList (fun x hx l => hnt0 _ (List.mem_map_of_mem hx) l))
 have hbf := ZwD hin (ZoI (ZaD p.sub p.halv p.mat blk h txs G)) nm
 obtain ⟨c1, c2, c3, c4⟩ := Zxt (ZaD p.sub p.halv p.mat blk h txs G) nm
 rw [← hbf] at c1 c2 c3 c4
 have hc := ZgM hE hgl (show E.P.funcs[26]? = some Tryd.f26 from Tryd.func26) (show Tryd.f26.body = some ZqC from rfl) (fun _ : Unit => ZoI (ZaD p.sub p.halv p.mat blk h txs G)) ⟨()⟩ (nm := nm) (F := after nm) hin (fun _ => c1) hg hi (Zc4 nm) hr
  (fun d hd l => by simp [Zfr, Zdl] at hd; rcases hd with rfl | rfl | rfl | rfl <;> simp) (by simp [Tryd.f26]) (fun _ => False) (fun b hb => hb.elim) (Zcq gF (ZaA (fun _ => False) w) gv G) (fun _ _ _ => True)
  (fun g1 h1 h2 => Zoi (Zkn hh (fun b => by rw [h2]; exact Nat.le_refl _) (fun b _ _ q => ⟨h1 b q.1, by rw [h2]; exact q.2⟩)) fun b hb q => q.elim id fun q => absurd hb (Nat.not_lt_of_le q)) (fun _ _ _ _ _ _ _ _ _ => trivial)
  (fun g1 h1 _ => Znc p a0 a1 a2 a3 a4 a5 txs htx hlen hsm hb h med hsub gv hgv G hG g1 w h1)
 rw [show (args.toList.map a.eval).toArray = args.map a.eval by apply Array.ext'; simp] at hc
 refine hc.mono ?_
 rintro e w' ⟨x, v, g', h1, h2, h3, h4, h5⟩
 rw [c2] at h2
 rw [ZxD _ _ c3 c4] at h3
 exact ⟨(), v, g', _, h1, h2, h4, fun b hb hm => hm, h3.less fun j hj => ⟨by unfold after at *; omega, by unfold after at hj; omega⟩, trivial⟩
theorem Zur {H : Gh → World → Prop} {M : Nat → Prop} {N : Nat} {g0 : Gh} {w0 : World} {Post : Exit → Act → World → Prop} {sl : List (Nat × D)} {s : S} {ops : Array Oper} {i nm : Nat} {o : Oper} (t : Nat) (ho : ops[i]? = some o) (hgd : o.guard = none) (dst : Option Tmp) (hdd : o.dst = dst) (hdst : ZbQ N dst) (hop : o.op = .makeFunc (.func 27) #[.tmp t] #[])
  {d : D} (hl : Zm sl t = some d) (hnt : ∀ l, d ≠ .tup l) (l : List CoinP) (hd : D.strip false (Zai (.st [.sl 69 (.st [.id, .id, .id, .id, .st [.id, .ints .u8]])]) d) = .agg [.sl .no 69 (ZK l)]) (hok : ∀ c ∈ l, c.Ok) (hlen : l.length < 1000000000)
  (h : ∀ gv, Zy (.raw gv) = true → GOM M (Zcq gF (fun _ => False) gv (Zae l)) E N g0 w0 Post ops (i + 1) nm (ZaM dst (.raw gv) sl) s) : GOM M H E N g0 w0 Post ops i nm sl s := by
 subst hdd
 refine ZhM (fun gv : Value => D.raw gv) (fun gv => Zcq gF (fun _ => False) gv (Zae l)) ho hgd (fun c => by rw [hop]; simp) _ rfl hdst ?_ fun gv => ?_
 ·intro g w a hsz hs hg hi hk _
  refine ⟨.func (.func 27) #[a.tmps.getD t undef] #[], _, w, fun _ => False, .inl (by rw [show execOp a.eval o = (do pure (.value (← Instr.makeFunc (.func 27) #[a.eval (.tmp t)] #[]))) by simp [execOp, hop]]; rfl), rfl, (Keeps.refl g w).m, fun _ _ h => h.elim, hi, .inr (.inl ⟨a.tmps.getD t undef, l, rfl, ?_, hok, hlen, rfl⟩)⟩
  have hr := (hs.2 _ _ hl).2
  have h1 : Zn g w d (a.tmps.getD t undef) := Zf5 hr hnt
  have h2 := Zll (t := .st [.sl 69 (.st [.id, .id, .id, .id, .st [.id, .ints .u8]])]) h1
  have h3 := Zn.strip (keep := false) (g1 := g) (fun _ => Nat.le_refl _) h2
  rw [hd] at h3
  exact ZbZ h3 (by simp [ZlW])
 ·refine Zkm (p := Zy (.raw gv) = true) (fun g w hh => ?_) fun hgv => h gv hgv
  exact (Zh5 hh).1
end Go.Vi.CO
end

section
namespace Go.Vi.CO
open Go.Proofs
theorem Zad : HOk (fun _ _ => True) := ⟨fun _ _ _ _ _ _ => trivial, fun _ _ _ _ _ _ => trivial⟩
def z32 : List Int := List.replicate 32 0
def z9 : List Int := 9 :: List.replicate 31 0
def ZdK : CoinP := ⟨z9, 1, z32, 1, false, 7, []⟩
def Zda : TxP := ⟨0, [⟨z32, 4294967295, [1, 2], 0, []⟩], [⟨50, []⟩], 0⟩
def txW : TxP := ⟨0, [⟨z9, 1, [], 0, []⟩], [⟨5, []⟩, ⟨1, []⟩], 0⟩
theorem ZAn (ib it : List Int) (hne : ib ≠ it) (hb : idP Zda = ib) (ht : idP txW = it) : ZaD 50 9 0 z32 2 [Zda, txW] (Zae [ZdK]) = ([ZdK], [⟨ib, 0, z32, 2, true, 50, []⟩, ⟨it, 0, z32, 2, false, 5, []⟩, ⟨it, 1, z32, 2, false, 1, []⟩], 0) := by
 unfold ZaD
 rw [if_neg (by decide)]
 simp only [Zcg, ZcC, hb, ht]
 rw [show Zda.outs = [⟨50, []⟩] from rfl, show txW.outs = [⟨5, []⟩, ⟨1, []⟩] from rfl, show txW.ins = [⟨z9, 1, [], 0, []⟩] from rfl]
 have h1 : Zam ib z32 2 true 0 [⟨50, []⟩] Zdg = ⟨[⟨ib, 0, z32, 2, true, 50, []⟩], [true], [], 0⟩ := rfl
 rw [h1]
 have h2 : Z3 (Zae [ZdK]) 2 0 [⟨z9, 1, [], 0, []⟩] 0 ⟨[⟨ib, 0, z32, 2, true, 50, []⟩], [true], [], 0⟩ = (⟨[⟨ib, 0, z32, 2, true, 50, []⟩], [true], [ZdK], 0⟩, 7, 0) := by
  have hl : ZbK [⟨ib, 0, z32, 2, true, 50, []⟩] [true] (z9, 1) = none := by simp [ZbK, CoinP.pt, List.range_succ]
  have hf : Zae [ZdK] (z9, 1) = some ZdK := by simp [Zae, ZdK, CoinP.pt]
  have hf2 : Zae [] (z9, 1) = none := rfl
  simp only [Z3, Zau, hl, hf, hf2, Option.isSome_none, Bool.false_eq_true, if_false]
  simp [ZdK, Zb3, Zbm]
 rw [h2]
 have h3 : Zam it z32 2 false 0 [⟨5, []⟩, ⟨1, []⟩] ⟨[⟨ib, 0, z32, 2, true, 50, []⟩], [true], [ZdK], 1⟩ = ⟨[⟨ib, 0, z32, 2, true, 50, []⟩, ⟨it, 0, z32, 2, false, 5, []⟩, ⟨it, 1, z32, 2, false, 1, []⟩], [true, true, true], [ZdK], 1⟩ := by
  simp [Zam, ZiY, ZbN, ZbK, ZfI, mkC, CoinP.pt, List.range_succ, hne]
 have h4 : Zb9 0 [⟨5, []⟩, ⟨1, []⟩] = some 6 := by simp [Zb9]
 have h5 : Zb9 0 [⟨50, []⟩] = some 50 := by simp [Zb9]
 simp only [ne_eq, not_true_eq_false, if_false, h4]
 rw [if_neg (show ¬((7 : Int) < 6 ∨ Zbm < 0 + 7 - 6) by unfold Zbm; omega)]
 simp only [show (0 : Int) + (7 - 6) = 1 from rfl, h3, not_true_eq_false, if_false, h5]
 rw [if_neg (show ¬ Zar 50 9 2 < 50 - 1 by decide)]
 rfl
theorem ZAt (ib it : List Int) (hb : idP Zda = ib) (ht : idP txW = it) : (ZaD 50 9 0 z32 2 [Zda, txW] (fun _ => none)).2.2 = 30 := by
 unfold ZaD
 rw [if_neg (by decide)]
 simp only [Zcg, ZcC, hb, ht]
 rw [show Zda.outs = [⟨50, []⟩] from rfl, show txW.outs = [⟨5, []⟩, ⟨1, []⟩] from rfl, show txW.ins = [⟨z9, 1, [], 0, []⟩] from rfl]
 have h1 : Zam ib z32 2 true 0 [⟨50, []⟩] Zdg = ⟨[⟨ib, 0, z32, 2, true, 50, []⟩], [true], [], 0⟩ := rfl
 rw [h1]
 have h2 : Z3 (fun _ => none) 2 0 [⟨z9, 1, [], 0, []⟩] 0 ⟨[⟨ib, 0, z32, 2, true, 50, []⟩], [true], [], 0⟩ = (⟨[⟨ib, 0, z32, 2, true, 50, []⟩], [true], [], 0⟩, 0, 30) := by
  have hl : ZbK [⟨ib, 0, z32, 2, true, 50, []⟩] [true] (z9, 1) = none := by simp [ZbK, CoinP.pt, List.range_succ]
  have hf2 : Zae [] (z9, 1) = none := rfl
  simp only [Z3, Zau, hl, hf2, Option.isSome_none, Bool.false_eq_true, if_false]
 rw [h2]
 rfl
theorem okC : ZdK.Ok := ⟨⟨rfl, by unfold bytes; decide, by constructor <;> decide⟩, rfl, by unfold bytes; decide, by constructor <;> decide, by constructor <;> decide, by unfold Zt9 bytes; decide⟩
theorem okB : Zda.Ok := ⟨by constructor <;> decide, by intro x hx; simp [Zda] at hx; subst hx; exact ⟨rfl, by unfold bytes; decide, by constructor <;> decide, by unfold scr bytes; decide, by constructor <;> decide, (by intro w hw; cases hw), by decide⟩, by intro x hx; simp [Zda] at hx; subst hx; exact ⟨by decide, by unfold scr bytes; decide⟩, by constructor <;> decide, by decide, by decide⟩
theorem okX : txW.Ok := ⟨by constructor <;> decide, by intro x hx; simp [txW] at hx; subst hx; exact ⟨rfl, by unfold bytes; decide, by constructor <;> decide, by unfold scr bytes; decide, by constructor <;> decide, (by intro w hw; cases hw), by decide⟩, by intro x hx; simp [txW] at hx; rcases hx with rfl | rfl <;> exact ⟨by decide, by unfold scr bytes; decide⟩, by constructor <;> decide, by decide, by decide⟩
theorem Zzt : decide (idP Zda = idP txW) = false := by kernel_rfl
theorem Zzm {M : Nat → Prop} {H : Gh → World → Prop} {N : Nat} {g0 : Gh} {w0 : World} {Post : Exit → Act → World → Prop} {sl : List (Nat × D)} {s : S} {c : Code} (i : Nat) (t : NT) {d d' : D} (hbx : s.box i = some d) (hd : D.strip false (Zai t d) = d')
  (h : GM M H E N g0 w0 Post c sl { s with bs := ZaV s.bs i d' }) : GM M H E N g0 w0 Post c sl s := fun g w a hk hp => by
 obtain ⟨b, cs, ty, q1, q2, q3, q4, q5⟩ := hk.inv.box i _ hbx
 refine h g w a ⟨hk.size, hk.slots, hk.globs, ⟨fun j dj hj => ?_, hk.inv.tok, hk.inv.fresh, hk.inv.lim, hk.inv.own⟩⟩ hp
 simp only [S.box, ZbD] at hj
 split at hj
 ·rename_i e
  subst e
  cases hj
  refine ⟨b, cs, ty, q1, q2, q3, q4, ?_⟩
  rw [← hd]
  exact Zl.strip (fun _ => Nat.le_refl _) _ (Zf6 t _ q5)
 ·exact hk.inv.box j dj hj
noncomputable def Zqt : Code := (Tryd.f23.body).getD .skip
def opW : D := .agg [.arr .u8 32 ((List.replicate 32 0).set 0 9), .int .u32 1]
def cW : D := .agg [opW, .arr .u8 32 (List.replicate 32 0), .int .i64 1, .bool false, .agg [.int .i64 7, .sl .full 0 []]]
def tW : D := .agg [.int .u32 0, .sl .fresh 36 [(D.agg [opW, .sl .full 0 [], .int .u32 0, .sl .full 0 []]).bare], .sl .fresh 2 [(D.agg [.int .i64 5, .sl .full 0 []]).bare, (D.agg [.int .i64 1, .sl .full 0 []]).bare], .int .u32 0]
def baW : D := .agg [.int .u32 0, .sl .fresh 36 [(D.agg [.agg [.arr .u8 32 (List.replicate 32 0), .int .u32 4294967295], .sli .fresh .u8 [1, 2], .int .u32 0, .sl .full 0 []]).bare], .sl .fresh 2 [(D.agg [.int .i64 50, .sl .full 0 []]).bare], .int .u32 0]
def hdW : D := .agg [.int .u32 0, .arr .u8 32 (List.replicate 32 0), .arr .u8 32 (List.replicate 32 0), .int .u32 0, .int .u32 0, .int .u32 0]
def bW : D := .agg [hdW, .sl .fresh 4 [baW.bare, tW.bare]]
def pW : D := .agg [hdW, .int .u32 0, .int .i64 0, .int .i64 0, .int .i64 0, .int .i64 9, .int .i64 50, .int .i64 0, .int .i64 0, .int .u64 0, .int .i64 0]
def Zna : ParP := ⟨0, z32, z32, 0, 0, 0, 0, 0, 0, 0, 9, 50, 0, 0, 0, 0⟩
theorem ZzV : D.sub .st 78 pW 0 = some pW := rfl
theorem ZzQ : D.sub .st 69 bW 0 = some bW := rfl
theorem ZAB : D.sub .st 69 cW 0 = some cW := rfl
def stW (n : Nat) : S := ⟨[(20, opW), (40, cW), (112, tW), (136, bW), (148, pW)], [], n⟩
theorem ZAG : D.strip false (Zai (.st [.sl 69 (.st [.id, .id, .id, .id, .st [.id, .ints .u8]])]) (.agg [.sl .fresh 69 [cW.bare]])) = .agg [.sl .no 69 (ZK [ZdK])] := by
 simp only [ZI, Zai, Zdp, Zde, Zbp, Zdm, D.bare, Zlf, List.map_cons, List.map_nil, D.strip, D.strips, Zbw, Own.bare, List.isEmpty_cons, List.isEmpty_nil, Bool.false_eq_true, if_false, if_true, reduceIte, ite_self, if_pos, if_neg, cW, opW]
 rfl
def txN : NT := .st [.id, .sl 36 (.st [.id, .ints .u8, .id, .sl 1 (.ints .u8)]), .sl 2 (.st [.id, .ints .u8])]
theorem ZAF : D.strip false (Zai txN tW) = txD txW := by
 simp only [ZI, Zai, Zdp, Zde, Zbp, Zdm, D.bare, Zlf, List.map_cons, List.map_nil, D.strip, D.strips, Zbw, Own.bare, List.isEmpty_cons, List.isEmpty_nil, Bool.false_eq_true, if_false, if_true, reduceIte, ite_self, if_pos, if_neg, txN, tW, opW]
 rfl
def bW' : D := .agg [hdW, .sl .fresh 4 [.agg [.int .u32 0, .sl .fresh 36 [.agg [.agg [.arr .u8 32 (List.replicate 32 0), .int .u32 4294967295], .sli .fresh .u8 [1, 2], .int .u32 0, .sl .full 1 []]], .sl .fresh 2 [.agg [.int .i64 50, .sli .full .u8 []]], .int .u32 0],
 .agg [.int .u32 0, .sl .fresh 36 [.agg [.agg [.arr .u8 32 ((List.replicate 32 0).set 0 9), .int .u32 1], .sli .full .u8 [], .int .u32 0, .sl .full 1 []]], .sl .fresh 2 [.agg [.int .i64 5, .sli .full .u8 []], .agg [.int .i64 1, .sli .full .u8 []]], .int .u32 0]]]
theorem ZzT (x y : D) : ZI ZxM [pW, bW, x, y] = [pW, bW', x, y] := by
 simp only [ZI, Zai, Zdp, Zde, Zbp, Zdm, D.bare, Zlf, List.map_cons, List.map_nil, D.strip, D.strips, Zbw, Own.bare, List.isEmpty_cons, List.isEmpty_nil, Bool.false_eq_true, if_false, if_true, reduceIte, ite_self, if_pos, if_neg, ZxM, bW, baW, tW, opW, hdW]
 rfl
theorem inW (n : Nat) (x : Value) : ZeR [pW, bW', .agg [.arr .u8 32 (List.replicate 32 0), .int .i64 2, .int .u32 0], .raw x] (stW n) = some ([Zfr Zna, .agg [Ziq 0 z32 z32 0 0 0, .sl .no 4 (ZaX [Zda, txW])], Zdl z32 2 0, .raw x], [], []) := by
 rfl
theorem Zq2 (g1 : Gh) (w0 : World) (hl : Low 8 g1) :
  GM (fun _ => False) (fun _ _ => True) E Tryd.f23.ntmps g1 w0 (Zcb (fun _ => False) E Tryd.f23 g1 w0 0 0 (fun _ : Unit => ZaB [] [] []) (fun _ _ _ => True))
   Zqt [] ⟨[], [], 8⟩ := by
 generalize hP : Zcb (fun _ => False) E Tryd.f23 g1 w0 0 0 _ _ = Post
 unfold Zqt
 simp only [Tryd.f23, Option.getD_some]
 refine ZN hE Zad hl rfl (Nat.le_refl _) ?_
 simp (config := {dsimp := false}) only [↓Zr, vz, vn, nq, Zo, Zi, Zd, Zb, Zg, Za, Zh, Ze, Zj, Zf, if_true, if_false, implies_true, forall_const, ne_eq, reduceIte, reduceCtorEq, Nat.reduceEqDiff, Nat.reduceAdd, Nat.reduceMul, Nat.reduceDiv, Nat.reduceLT, Nat.reduceSub, Nat.reduceLeDiff, Nat.reduceBNe, Nat.reduceBEq, Nat.reduceBeqDiff, List.range, List.range.loop, Zq, Tryd.ntmps23, Tryd.results23]
 refine gmk (ZN hE Zad hl rfl (Nat.le_of_ble_eq_true rfl) ?_)
 simp (config := {dsimp := false}) only [↓Zr, vz, vn, nq, Zo, Zi, Zd, Zb, Zg, Za, Zh, Ze, Zj, Zf, if_true, if_false, implies_true, forall_const, ne_eq, reduceIte, reduceCtorEq, Nat.reduceEqDiff, Nat.reduceAdd, Nat.reduceMul, Nat.reduceDiv, Nat.reduceLT, Nat.reduceSub, Nat.reduceLeDiff, Nat.reduceBNe, Nat.reduceBEq, Nat.reduceBeqDiff, List.range, List.range.loop, Zq, Tryd.ntmps23, Tryd.results23]
 refine gmk (ZN hE Zad hl rfl (Nat.le_of_ble_eq_true rfl) ?_)
 simp (config := {dsimp := false}) only [↓Zr, vz, vn, nq, Zo, Zi, Zd, Zb, Zg, Za, Zh, Ze, Zj, Zf, if_true, if_false, implies_true, forall_const, ne_eq, reduceIte, reduceCtorEq, Nat.reduceEqDiff, Nat.reduceAdd, Nat.reduceMul, Nat.reduceDiv, Nat.reduceLT, Nat.reduceSub, Nat.reduceLeDiff, Nat.reduceBNe, Nat.reduceBEq, Nat.reduceBeqDiff, List.range, List.range.loop, Zq, Tryd.ntmps23, Tryd.results23]
 refine gmk (ZN hE Zad hl rfl (Nat.le_of_ble_eq_true rfl) ?_)
 simp (config := {dsimp := false}) only [↓Zr, vz, vn, nq, Zo, Zi, Zd, Zb, Zg, Za, Zh, Ze, Zj, Zf, if_true, if_false, implies_true, forall_const, ne_eq, reduceIte, reduceCtorEq, Nat.reduceEqDiff, Nat.reduceAdd, Nat.reduceMul, Nat.reduceDiv, Nat.reduceLT, Nat.reduceSub, Nat.reduceLeDiff, Nat.reduceBNe, Nat.reduceBEq, Nat.reduceBeqDiff, List.range, List.range.loop, Zq, Tryd.ntmps23, Tryd.results23]
 refine gmk (ZN hE Zad hl rfl (Nat.le_of_ble_eq_true rfl) ?_)
 simp (config := {dsimp := false}) only [↓Zr, vz, vn, nq, Zo, Zi, Zd, Zb, Zg, Za, Zh, Ze, Zj, Zf, if_true, if_false, implies_true, forall_const, ne_eq, reduceIte, reduceCtorEq, Nat.reduceEqDiff, Nat.reduceAdd, Nat.reduceMul, Nat.reduceDiv, Nat.reduceLT, Nat.reduceSub, Nat.reduceLeDiff, Nat.reduceBNe, Nat.reduceBEq, Nat.reduceBeqDiff, List.range, List.range.loop, Zq, Tryd.ntmps23, Tryd.results23]
 refine gmk (ZN hE Zad hl rfl (Nat.le_of_ble_eq_true rfl) ?_)
 simp (config := {dsimp := false}) only [↓Zr, vz, vn, nq, Zo, Zi, Zd, Zb, Zg, Za, Zh, Ze, Zj, Zf, if_true, if_false, implies_true, forall_const, ne_eq, reduceIte, reduceCtorEq, Nat.reduceEqDiff, Nat.reduceAdd, Nat.reduceMul, Nat.reduceDiv, Nat.reduceLT, Nat.reduceSub, Nat.reduceLeDiff, Nat.reduceBNe, Nat.reduceBEq, Nat.reduceBeqDiff, List.range, List.range.loop, Zq, Tryd.ntmps23, Tryd.results23]
 refine gmk (ZN hE Zad hl rfl (Nat.le_of_ble_eq_true rfl) ?_)
 simp (config := {dsimp := false}) only [↓Zr, vz, vn, nq, Zo, Zi, Zd, Zb, Zg, Za, Zh, Ze, Zj, Zf, if_true, if_false, implies_true, forall_const, ne_eq, reduceIte, reduceCtorEq, Nat.reduceEqDiff, Nat.reduceAdd, Nat.reduceMul, Nat.reduceDiv, Nat.reduceLT, Nat.reduceSub, Nat.reduceLeDiff, Nat.reduceBNe, Nat.reduceBEq, Nat.reduceBeqDiff, List.range, List.range.loop, Zq, Tryd.ntmps23, Tryd.results23]
 refine gmk (Zhu Zad hl (sl' := [(1, .bp 20 0), (2, .bp 40 0), (4, .bp 112 0), (5, .bp 136 0), (6, .bp 148 0)]) (s' := stW 156) (Nat.le_of_ble_eq_true rfl) ⟨⟨Zc rfl, rfl, Zc rfl, rfl, Zc rfl, rfl, Zc rfl, rfl, Zc rfl, rfl, trivial⟩, ⟨rfl, Nat.le_of_ble_eq_true rfl, rfl, rfl, Nat.le_of_ble_eq_true rfl, rfl, rfl, Nat.le_of_ble_eq_true rfl, rfl, rfl, Nat.le_of_ble_eq_true rfl, rfl, rfl, Nat.le_of_ble_eq_true rfl, rfl, trivial⟩, trivial⟩ ?_)
 refine ZbL (Zaf hE Zad 6 rfl rfl rfl ?_)
 simp (config := {dsimp := false}) only [↓Zr, vz, vn, nq, Zo, Zi, Zd, Zb, Zg, Za, Zh, Ze, Zj, Zf, if_true, if_false, implies_true, forall_const, ne_eq, reduceIte, reduceCtorEq, Nat.reduceEqDiff, Nat.reduceAdd, Nat.reduceMul, Nat.reduceDiv, Nat.reduceLT, Nat.reduceSub, Nat.reduceLeDiff, Nat.reduceBNe, Nat.reduceBEq, Nat.reduceBeqDiff, List.range, List.range.loop, Zq, Tryd.ntmps23, Tryd.results23, stW, ZzV, ZzQ, ZAB, List.drop_zero, List.take_succ_cons, List.take_zero]
 refine ⟨rfl, rfl, ?_⟩
 refine Ze8 (Zur 43 rfl rfl (some 44) rfl (show (44 : Nat) < 104 by decide) rfl (d := .agg [.sl .fresh 69 [cW.bare]]) rfl (fun l h => by cases h) [ZdK] ZAG (by intro c hc; simp at hc; subst hc; exact okC) (by decide) fun gv hgv => ?_)
 refine Zrk Zna 0 z32 z32 0 0 0 [Zda, txW] (by intro c hc; simp at hc; rcases hc with rfl | rfl; exact okB; exact okX) (by decide) (by decide) (blk := z32) ⟨rfl, by unfold bytes; decide⟩ 2 0 (by constructor <;> decide) rfl rfl (some 45) rfl (show (45 : Nat) < 104 by decide) rfl ?_ ?_ ?_
 ·rw [show (#[Operand.tmp 38, .tmp 39, .tmp 40, .tmp 44] : Array Operand).toList.map _ = [pW, bW, _, _] from rfl, ZzT]
  exact inW _ _
 ·rw [show (#[Operand.tmp 38, .tmp 39, .tmp 40, .tmp 44] : Array Operand).toList.map _ = [pW, bW, .agg [.arr .u8 32 (List.replicate 32 0), .int .i64 2, .int .u32 0], .raw gv] from rfl]
  intro d hd l
  simp only [List.mem_cons, List.not_mem_nil, or_false] at hd
  rcases hd with rfl | rfl | rfl | rfl <;> (intro h; first | cases h | (simp [pW, bW] at h))
 refine Zav hE Zad (nx := 212) _ rfl rfl ?_
 generalize hr1 : ZaD Zna.sub Zna.halv Zna.mat z32 2 [Zda, txW] (Zae [ZdK]) = r1
 simp (config := {dsimp := false}) only [↓Zr, vz, vn, nq, Zo, Zi, Zd, Zb, Zg, Za, Zh, Ze, Zj, Zf, if_true, if_false, implies_true, forall_const, ne_eq, reduceIte, reduceCtorEq, Nat.reduceEqDiff, Nat.reduceAdd, Nat.reduceMul, Nat.reduceDiv, Nat.reduceLT, Nat.reduceSub, Nat.reduceLeDiff, Nat.reduceBNe, Nat.reduceBEq, Nat.reduceBeqDiff, List.range, List.range.loop, Zq, Tryd.ntmps23, Tryd.results23, stW, ZaM, Zi0, List.drop_zero, List.drop_succ_cons]
 refine ZQ (Zhu Zad hl (sl' := [(1, .bp 20 0), (4, .bp 112 0), (5, .bp 136 0), (6, .bp 148 0), (7, .sl .no 69 (ZK r1.1)), (8, .sl .no 69 (ZK r1.2.1)), (9, .int .i64 r1.2.2)]) (s' := stW 212) (Nat.le_of_ble_eq_true rfl) ⟨⟨Zc rfl, rfl, Zc rfl, rfl, Zc rfl, rfl, Zc rfl, rfl, Zc rfl, rfl, Zc rfl, rfl, Zc rfl, rfl, trivial⟩, ⟨rfl, Nat.le_of_ble_eq_true rfl, rfl, rfl, Nat.le_of_ble_eq_true rfl, rfl, rfl, Nat.le_of_ble_eq_true rfl, rfl, rfl, Nat.le_of_ble_eq_true rfl, rfl, rfl, Nat.le_of_ble_eq_true rfl, rfl, trivial⟩, trivial⟩ ?_)
 refine Ze6 (H' := Zcq gF (fun _ => False) .nilFunc (fun _ => none)) (fun _ _ _ => .inl ⟨rfl, rfl⟩) ?_
 refine ZbL (Zaf hE ZaF 3 rfl rfl rfl ?_)
 simp (config := {dsimp := false}) only [↓Zr, vz, vn, nq, Zo, Zi, Zd, Zb, Zg, Za, Zh, Ze, Zj, Zf, if_true, if_false, implies_true, forall_const, ne_eq, reduceIte, reduceCtorEq, Nat.reduceEqDiff, Nat.reduceAdd, Nat.reduceMul, Nat.reduceDiv, Nat.reduceLT, Nat.reduceSub, Nat.reduceLeDiff, Nat.reduceBNe, Nat.reduceBEq, Nat.reduceBeqDiff, List.range, List.range.loop, Zq, Tryd.ntmps23, Tryd.results23, stW, ZzV, ZzQ, List.drop_zero, List.take_succ_cons, List.take_zero]
 refine Ze8 (Zrk Zna 0 z32 z32 0 0 0 [Zda, txW] (by intro c hc; simp at hc; rcases hc with rfl | rfl; exact okB; exact okX) (by decide) (by decide) (blk := z32) ⟨rfl, by unfold bytes; decide⟩ 2 0 (by constructor <;> decide) rfl rfl (some 53) rfl (show (53 : Nat) < 104 by decide) rfl ?_ ?_ ?_)
 ·rw [show (#[Operand.tmp 50, .tmp 51, .tmp 52, .const .nilFunc] : Array Operand).toList.map _ = [pW, bW, _, _] from rfl, ZzT]
  exact inW _ _
 ·rw [show (#[Operand.tmp 50, .tmp 51, .tmp 52, .const .nilFunc] : Array Operand).toList.map _ = [pW, bW, .agg [.arr .u8 32 (List.replicate 32 0), .int .i64 2, .int .u32 0], .raw .nilFunc] from rfl]
  intro d hd l
  simp only [List.mem_cons, List.not_mem_nil, or_false] at hd
  rcases hd with rfl | rfl | rfl | rfl <;> (intro h; first | cases h | (simp [pW, bW] at h))
 refine Zav hE Zad (nx := 256) _ rfl rfl ?_
 generalize hr2 : ZaD Zna.sub Zna.halv Zna.mat z32 2 [Zda, txW] (fun _ => none) = r2
 simp (config := {dsimp := false}) only [↓Zr, vz, vn, nq, Zo, Zi, Zd, Zb, Zg, Za, Zh, Ze, Zj, Zf, if_true, if_false, implies_true, forall_const, ne_eq, reduceIte, reduceCtorEq, Nat.reduceEqDiff, Nat.reduceAdd, Nat.reduceMul, Nat.reduceDiv, Nat.reduceLT, Nat.reduceSub, Nat.reduceLeDiff, Nat.reduceBNe, Nat.reduceBEq, Nat.reduceBeqDiff, List.range, List.range.loop, Zq, Tryd.ntmps23, Tryd.results23, stW, ZaM, Zi0, List.drop_zero, List.drop_succ_cons]
 refine ZQ (Zhu Zad hl (sl' := [(1, .bp 20 0), (4, .bp 112 0), (7, .sl .no 69 (ZK r1.1)), (8, .sl .no 69 (ZK r1.2.1)), (9, .int .i64 r1.2.2), (12, .int .i64 r2.2.2)]) (s' := stW 256) (Nat.le_of_ble_eq_true rfl) ⟨⟨Zc rfl, rfl, Zc rfl, rfl, Zc rfl, rfl, Zc rfl, rfl, Zc rfl, rfl, Zc rfl, rfl, trivial⟩, ⟨rfl, Nat.le_of_ble_eq_true rfl, rfl, rfl, Nat.le_of_ble_eq_true rfl, rfl, rfl, Nat.le_of_ble_eq_true rfl, rfl, rfl, Nat.le_of_ble_eq_true rfl, rfl, rfl, Nat.le_of_ble_eq_true rfl, rfl, trivial⟩, trivial⟩ ?_)
 refine Zzm 112 (.st [.id, .sl 36 (.st [.id, .ints .u8, .id, .sl 1 (.ints .u8)]), .sl 2 (.st [.id, .ints .u8])]) (d' := txD txW) rfl ZAF ?_
 refine Zhu Zad hl (sl' := [(1, .bp 20 0), (4, .bp 112 0), (7, .sl .no 69 (ZK r1.1)), (8, .sl .no 69 (ZK r1.2.1)), (9, .int .i64 r1.2.2), (12, .int .i64 r2.2.2)]) (s' := ⟨[(20, .agg [.arr .u8 32 z9, .int .u32 1]), (112, .agg [.int .u32 0, .sl .no 36 (Zbi txW.ins), .sl .no 2 (ZaJ txW.outs), .int .u32 0])], [], 256⟩) (Nat.le_of_ble_eq_true rfl) ⟨⟨Zc rfl, rfl, Zc rfl, rfl, Zc rfl, rfl, Zc rfl, rfl, Zc rfl, rfl, Zc rfl, rfl, trivial⟩, ⟨rfl, Nat.le_of_ble_eq_true rfl, rfl, rfl, Nat.le_of_ble_eq_true rfl, rfl, trivial⟩, trivial⟩ ?_
 refine ZN hE Zad hl rfl (Nat.le_of_ble_eq_true rfl) ?_
 simp (config := {dsimp := false}) only [↓Zr, vz, vn, nq, Zo, Zi, Zd, Zb, Zg, Za, Zh, Ze, Zj, Zf, if_true, if_false, implies_true, forall_const, ne_eq, reduceIte, reduceCtorEq, Nat.reduceEqDiff, Nat.reduceAdd, Nat.reduceMul, Nat.reduceDiv, Nat.reduceLT, Nat.reduceSub, Nat.reduceLeDiff, Nat.reduceBNe, Nat.reduceBEq, Nat.reduceBeqDiff, List.range, List.range.loop, Zq, Tryd.ntmps23, Tryd.results23]
 refine ZcA [1, 4, 7, 8, 9, 12] (by kernel_rfl) ?_
 have hr1 := hr1.symm.trans (ZAn _ _ (of_decide_eq_false Zzt) rfl rfl)
 have hr2 : r2.2.2 = 30 := by rw [← hr2]; exact ZAt _ _ rfl rfl
 subst hr1
 rw [hr2]
 have e1 : ZK [ZdK] = [.agg [.agg [.arr .u8 32 z9, .int .u32 1], .arr .u8 32 z32, .int .i64 1, .bool false, .agg [.int .i64 7, .sli .no .u8 []]]] := rfl
 have e3 : ZK [⟨idP Zda, 0, z32, 2, true, 50, []⟩, ⟨idP txW, 0, z32, 2, false, 5, []⟩, ⟨idP txW, 1, z32, 2, false, 1, []⟩] = [.agg [.agg [.arr .u8 32 (idP Zda), .int .u32 0], .arr .u8 32 z32, .int .i64 2, .bool true, .agg [.int .i64 50, .sli .no .u8 []]],
  .agg [.agg [.arr .u8 32 (idP txW), .int .u32 0], .arr .u8 32 z32, .int .i64 2, .bool false, .agg [.int .i64 5, .sli .no .u8 []]], .agg [.agg [.arr .u8 32 (idP txW), .int .u32 1], .arr .u8 32 z32, .int .i64 2, .bool false, .agg [.int .i64 1, .sli .no .u8 []]]] := rfl
 have he1 := Zu2 z9 z9 1 1
 have he2 := Zu2 (idP txW) (idP txW) 1 1
 have hid : idP ⟨0, txW.ins, txW.outs, 0⟩ = idP txW := rfl
 have hok := ZuY okX
 simp only [decide_true, Bool.and_self] at he1 he2
 simp (config := {dsimp := false}) only [↓Zr, vz, vn, nq, Zo, Zi, Zd, Zb, Zg, Za, Zh, Ze, Zj, Zf, if_true, if_false, implies_true, forall_const, ne_eq, reduceIte, reduceCtorEq, Nat.reduceEqDiff, Nat.reduceAdd, Nat.reduceMul, Nat.reduceDiv, Nat.reduceLT, Nat.reduceSub, Nat.reduceLeDiff, Nat.reduceBNe, Nat.reduceBEq, Nat.reduceBeqDiff, List.range, List.range.loop, Zq, Tryd.ntmps23, Tryd.results23, e1, e3, he1, he2, hid, decide_true, forall_const, List.length_cons, List.length_nil, List.getD_cons_zero, List.getD_cons_succ, show Int.toNat 0 = 0 from rfl, show Int.toNat 1 = 1 from rfl, show Int.toNat 2 = 2 from rfl, show decide (((0 + 1 : Nat) : Int) = 1) = true from rfl, show decide (((0 + 1 + 1 + 1 : Nat) : Int) = 3) = true from rfl, PF.toR, Zk, ZnM, Zg0, ZyQ, ZyF]
 refine ⟨by omega, by omega, by omega, by omega, hok, by omega, by omega, by omega, by omega, ?_⟩
 refine gmk (Zao fun a w ha => ?_)
 subst hP
 refine ZP () ?_ ha
 exact ⟨[], [], [], ⟨rfl, rfl⟩, ⟨rfl, rfl⟩, ⟨by simp, by simp⟩, by simp, rfl, rfl, ⟨_, rfl, rfl⟩, ⟨_, rfl, rfl⟩, rfl⟩
end Go.Vi.CO
end

section
namespace Go.Vi.CO
open Go.Proofs
theorem Zsm : Zs E 23 := by
 refine ZfF hE hgl (show E.P.funcs[23]? = some Tryd.f23 from Tryd.func23) (show Tryd.f23.body = some Zqt from rfl) (p := ZaB) (ts := []) (fun args s nm => Zg1 args s nm) fun args ds tv hv h8 h9 => ?_
 cases args with
 | cons x l => simp [ZaB, Zdv] at hv
 | nil =>
  cases ds with
  | cons x l => simp [ZaB, Zdv] at hv
  | nil =>
   cases tv with
   | cons x l => simp [ZaB, Zdv] at hv
   | nil => exact ⟨by simp, Nat.zero_le _, fun g1 w0 hl _ => Zq2 g1 w0 hl⟩
end Go.Vi.CO
end

section
namespace Go.Vi.CO
open Go.Proofs
theorem Zt8 {f n : Nat} (h : n ≠ 0) : ZeE (f + 1) n = ((n % 256 : Nat) : Int) :: ZeE f (n / 256) := if_neg h
theorem ZlT (f : Nat) : ZeE f 0 = [] := by cases f <;> rfl
theorem ZjT : ∀ (f n : Nat), (ZeE f n).length ≤ f
 | 0, n => Nat.le_refl _
 | f + 1, n => by
  simp only [ZeE]
  split
  ·exact Nat.zero_le _
  ·simpa using ZjT f (n / 256)
structure DigI (n : Nat) (k : Nat) (xs : List Int) (r : Nat) : Prop where
 le : k ≤ 8
 eq : ZeE 8 n = xs ++ ZeE (8 - k) r
 lt : r < 256 ^ (8 - k)
 len : xs.length = k
theorem ZoD {n k r : Nat} {xs : List Int} (h : DigI n k xs r) (hr : r ≠ 0) : DigI n (k + 1) (xs ++ [((r % 256 : Nat) : Int)]) (r / 256) := by
 obtain ⟨h1, h2, h3, h4⟩ := h
 have hk : k < 8 := by
  rcases Nat.lt_or_ge k 8 with q | q
  ·exact q
  ·have : 8 - k = 0 := by omega
   rw [this] at h3
   omega
 have e : 8 - k = (8 - (k + 1)) + 1 := by omega
 refine ⟨hk, ?_, ?_, by simp [h4]⟩
 ·rw [h2, e, Zt8 hr]; simp
 ·rw [e, Nat.pow_succ] at h3
  exact Nat.div_lt_of_lt_mul (by omega)
theorem Zsk {M : Nat → Prop} {H : Gh → World → Prop} {N : Nat} {g0 : Gh} {w0 : World} {sl : List (Nat × D)} {s : S} {a : Act} {w : World} (t : Nat) (k : IntKind) {o : Own} {z : Nat} (ht : Zm sl t = some (.sl o z [])) (h : AtM M H E N g0 w0 sl s a w) : AtM M H E N g0 w0 ((t, .sli .no k []) :: sl) s a w := by
 obtain ⟨g, hk, hp⟩ := h
 refine ⟨g, ⟨hk.size, ⟨trivial, fun t' d hl => ?_⟩, hk.globs, hk.inv⟩, hp⟩
 simp only [Zm] at hl
 split at hl
 ·rename_i e
  subst e
  cases hl
  obtain ⟨q1, q2⟩ := hk.slots.2 _ _ ht
  refine ⟨q1, ?_⟩
  obtain ⟨ad, c', vs, e1, e2, e3, e4, e5⟩ := q2
  have e3 : vs = [] := e3
  subst e3
  exact ⟨ad, c', by simpa using e1, by simpa using e2, fun hne => absurd rfl hne, trivial⟩
 ·exact hk.slots.2 _ _ hl
noncomputable def ZqZ : Code := (Tryd.f24.body).getD .skip
theorem Ztt (h : Int) (hh : Zap h) (g1 : Gh) (w0 : World) (hl : Low 8 g1) :
  GM (fun _ => False) (fun _ _ => True) E Tryd.f24.ntmps g1 w0 (Zcb (fun _ => False) E Tryd.f24 g1 w0 0 0 (fun _ : Unit => (⟨Zap h, .sli .no .u8 (Za4 h), [], [], [], []⟩ : BF)) (fun _ _ _ => True))
   ZqZ [(0, .int .i64 h)] ⟨[], [], 8⟩ := by
 generalize hP : Zcb (fun _ => False) E Tryd.f24 g1 w0 0 0 _ _ = Post
 unfold ZqZ
 simp only [Tryd.f24, Option.getD_some]
 refine ZN hE Zad hl rfl (Nat.le_refl _) ?_
 simp (config := {dsimp := false}) only [↓Zr, vz, vn, nq, Zo, Zi, Zd, Zb, Zg, Za, Zh, Ze, Zj, Zf, if_true, if_false, implies_true, forall_const, ne_eq, reduceIte, reduceCtorEq, Nat.reduceEqDiff, Nat.reduceAdd, Nat.reduceMul, Nat.reduceDiv, Nat.reduceLT, Nat.reduceSub, Nat.reduceLeDiff, Nat.reduceBNe, Nat.reduceBEq, Nat.reduceBeqDiff, List.range, List.range.loop, Zq, Tryd.ntmps24, Tryd.results24]
 refine gmk (Z1 (ZN hE Zad hl rfl (Nat.le_of_ble_eq_true rfl) ?_))
 simp (config := {dsimp := false}) only [↓Zr, vz, vn, nq, Zo, Zi, Zd, Zb, Zg, Za, Zh, Ze, Zj, Zf, if_true, if_false, implies_true, forall_const, ne_eq, reduceIte, reduceCtorEq, Nat.reduceEqDiff, Nat.reduceAdd, Nat.reduceMul, Nat.reduceDiv, Nat.reduceLT, Nat.reduceSub, Nat.reduceLeDiff, Nat.reduceBNe, Nat.reduceBEq, Nat.reduceBeqDiff, List.range, List.range.loop, Zq, Tryd.ntmps24, Tryd.results24]
 by_cases h0 : h < 0
 ·have d0 : decide (h < 0) = true := decide_eq_true h0
  refine gmk (ZG (b := decide (h < 0)) rfl (fun _ => ?_) (fun e => by rw [d0] at e; cases e))
  refine ZN hE Zad hl rfl (Nat.le_of_ble_eq_true rfl) ?_
  simp (config := {dsimp := false}) only [↓Zr, vz, vn, nq, Zo, Zi, Zd, Zb, Zg, Za, Zh, Ze, Zj, Zf, if_true, if_false, implies_true, forall_const, ne_eq, reduceIte, reduceCtorEq, Nat.reduceEqDiff, Nat.reduceAdd, Nat.reduceMul, Nat.reduceDiv, Nat.reduceLT, Nat.reduceSub, Nat.reduceLeDiff, Nat.reduceBNe, Nat.reduceBEq, Nat.reduceBeqDiff, List.range, List.range.loop, Zq, Tryd.ntmps24, Tryd.results24]
  refine gmk (Zao fun a w ha => ?_)
  subst hP
  refine ZP () ?_ (Zsk 2 .u8 rfl ha)
  have hres : Za4 h = [] := if_pos h0
  rw [hres]
  exact ⟨[], [], [], ⟨rfl, rfl⟩, ⟨rfl, rfl⟩, ⟨by simp, by simp⟩, by simp, rfl, rfl, ⟨_, rfl, rfl⟩, ⟨_, rfl, rfl⟩, rfl⟩
 have d0 : decide (h < 0) = false := decide_eq_false h0
 have hres : Za4 h = ((Zd2 (ZeE 8 h.toNat)).length : Int) :: Zd2 (ZeE 8 h.toNat) := if_neg h0
 obtain ⟨n, rfl⟩ : ∃ n : Nat, h = (n : Nat) := ⟨h.toNat, by omega⟩
 rw [Int.toNat_natCast] at hres
 have hn : n < 256 ^ 8 := by have := hh.2; omega
 refine gmk (ZG (b := decide (((n : Nat) : Int) < 0)) rfl (fun e => by rw [d0] at e; cases e) (fun _ => Zbe fun a w ha => Zbs ?_ ha))
 refine ZbL (Zvx hE ZxT rfl ty5 rfl (k := .u8) (c := 0) rfl rfl rfl rfl (by decide) fun v0 => ?_)
 refine Zav hE ZcH (nx := 24) _ rfl rfl ?_
 simp (config := {dsimp := false}) only [↓Zr, vz, vn, nq, Zo, Zi, Zd, Zb, Zg, Za, Zh, Ze, Zj, Zf, if_true, if_false, implies_true, forall_const, ne_eq, reduceIte, reduceCtorEq, Nat.reduceEqDiff, Nat.reduceAdd, Nat.reduceMul, Nat.reduceDiv, Nat.reduceLT, Nat.reduceSub, Nat.reduceLeDiff, Nat.reduceBNe, Nat.reduceBEq, Nat.reduceBeqDiff, List.range, List.range.loop, Zq, Tryd.ntmps24, Tryd.results24, List.drop_zero, List.drop_succ_cons]
 refine ZQ (Z1 (ZN hE ZcH hl rfl (Nat.le_of_ble_eq_true rfl) ?_))
 simp (config := {dsimp := false}) only [↓Zr, vz, vn, nq, Zo, Zi, Zd, Zb, Zg, Za, Zh, Ze, Zj, Zf, if_true, if_false, implies_true, forall_const, ne_eq, reduceIte, reduceCtorEq, Nat.reduceEqDiff, Nat.reduceAdd, Nat.reduceMul, Nat.reduceDiv, Nat.reduceLT, Nat.reduceSub, Nat.reduceLeDiff, Nat.reduceBNe, Nat.reduceBEq, Nat.reduceBeqDiff, List.range, List.range.loop, Zq, Tryd.ntmps24, Tryd.results24]
 refine gmk (Zbo ?_)
 refine ZfV hl (ι := {q : Nat × Value × List Int × Nat // DigI n q.1 q.2.2.1 q.2.2.2})
  (fun q => [(3, .raw q.1.2.1), (4, .int .i64 (q.1.2.2.2 : Nat))]) (fun _ => ⟨[], [], 32⟩) (fun q => HV w0.heap.size .u8 q.1.2.1 (0 :: q.1.2.2.1)) (fun _ => ZcH) (fun q => 8 - q.1.1) ⟨(0, v0, [], n), ⟨Nat.zero_le _, rfl, hn, rfl⟩⟩ (Nat.le_of_ble_eq_true rfl) (fun _ _ h => h) ⟨⟨Zc rfl, rfl, Zc rfl, rfl, trivial⟩, trivial, trivial⟩ ?_
 rintro ⟨⟨k, v, xs, r⟩, hk⟩
 simp only at hk ⊢
 refine Z1 (ZN hE ZcH hl rfl (Nat.le_of_ble_eq_true rfl) ?_)
 simp (config := {dsimp := false}) only [↓Zr, vz, vn, nq, Zo, Zi, Zd, Zb, Zg, Za, Zh, Ze, Zj, Zf, if_true, if_false, implies_true, forall_const, ne_eq, reduceIte, reduceCtorEq, Nat.reduceEqDiff, Nat.reduceAdd, Nat.reduceMul, Nat.reduceDiv, Nat.reduceLT, Nat.reduceSub, Nat.reduceLeDiff, Nat.reduceBNe, Nat.reduceBEq, Nat.reduceBeqDiff, List.range, List.range.loop, Zq, Tryd.ntmps24, Tryd.results24]
 have hlen := hk.len
 have hle := hk.le
 by_cases hr : r = 0
 case neg =>
  have d1 : decide ((0 : Int) < ((r : Nat) : Int)) = true := decide_eq_true (by omega)
  refine gmk (ZG (b := decide ((0 : Int) < ((r : Nat) : Int))) rfl (fun _ => Zbe fun a w ha => Zbs ?_ ha) (fun e => by rw [d1] at e; cases e))
  have hnx := ZoD hk hr
  have hkb := hnx.le
  have hrb : r < 256 ^ 8 := Nat.lt_of_lt_of_le hk.lt (Nat.pow_le_pow_right (by decide) (by omega))
  refine Z1 (Zbo ?_)
  refine Zno (Zaf hE ZcH 4 rfl rfl rfl ?_)
  simp (config := {dsimp := false}) only [↓Zr, vz, vn, nq, Zo, Zi, Zd, Zb, Zg, Za, Zh, Ze, Zj, Zf, if_true, if_false, implies_true, forall_const, ne_eq, reduceIte, reduceCtorEq, Nat.reduceEqDiff, Nat.reduceAdd, Nat.reduceMul, Nat.reduceDiv, Nat.reduceLT, Nat.reduceSub, Nat.reduceLeDiff, Nat.reduceBNe, Nat.reduceBEq, Nat.reduceBeqDiff, List.range, List.range.loop, Zq, Tryd.ntmps24, Tryd.results24, List.drop_zero, List.take_succ_cons, List.take_zero]
  refine Ze8 (Zmg hE (dst := 17) (ta := 13) (tb := 16) (t1 := 44) (t2 := 44) (e := 5) (ys := [((r % 256 : Nat) : Int)]) rfl rfl rfl (by decide) rfl rfl rfl rfl rfl rfl rfl (by decide) rfl rfl ?_ (by simp; omega) fun v' => ?_)
  ·have hw : IntKind.wrap .u8 ((r : Nat) : Int) = ((r % 256 : Nat) : Int) := by rw [IntKind.wrap_u8]; omega
   rw [← hw]
   rfl
  refine Zav hE ZcH (nx := 60) _ rfl rfl ?_
  simp (config := {dsimp := false}) only [↓Zr, vz, vn, nq, Zo, Zi, Zd, Zb, Zg, Za, Zh, Ze, Zj, Zf, if_true, if_false, implies_true, forall_const, ne_eq, reduceIte, reduceCtorEq, Nat.reduceEqDiff, Nat.reduceAdd, Nat.reduceMul, Nat.reduceDiv, Nat.reduceLT, Nat.reduceSub, Nat.reduceLeDiff, Nat.reduceBNe, Nat.reduceBEq, Nat.reduceBeqDiff, List.range, List.range.loop, Zq, Tryd.ntmps24, Tryd.results24, List.drop_zero, List.drop_succ_cons]
  intro a w ha
  refine Zbs ?_ ha
  refine Zij hE ZcH hl rfl (Nat.le_of_ble_eq_true rfl) ?_
  simp (config := {dsimp := false}) only [↓Zr, vz, vn, nq, Zo, Zi, Zd, Zb, Zg, Za, Zh, Ze, Zj, Zf, if_true, if_false, implies_true, forall_const, ne_eq, reduceIte, reduceCtorEq, Nat.reduceEqDiff, Nat.reduceAdd, Nat.reduceMul, Nat.reduceDiv, Nat.reduceLT, Nat.reduceSub, Nat.reduceLeDiff, Nat.reduceBNe, Nat.reduceBEq, Nat.reduceBeqDiff, List.range, List.range.loop, Zq, Tryd.ntmps24, Tryd.results24]
  have hsh : Ze5 .i64 ((r : Nat) : Int) 8 = ((r / 256 : Nat) : Int) := by
   unfold Ze5
   rw [show (2 : Int) ^ min (8 : Int).toNat (IntKind.bits .i64) = 256 from rfl, Int.fdiv_eq_ediv_of_nonneg _ (by decide)]
   omega
  rw [hsh]
  refine ⟨by decide, Zd0 fun a w ha => ⟨⟨(k + 1, v', xs ++ [((r % 256 : Nat) : Int)], r / 256), hnx⟩, Zcy ZcH hl (Nat.le_of_ble_eq_true rfl) ?_ ha, by (try simp only); omega⟩⟩
  exact ⟨⟨Zc rfl, rfl, Zc rfl, rfl, trivial⟩, trivial, trivial⟩
 subst hr
 have d1 : decide ((0 : Int) < (((0 : Nat) : Nat) : Int)) = false := rfl
 refine gmk (ZG (b := decide ((0 : Int) < (((0 : Nat) : Nat) : Int))) rfl (fun e => by rw [d1] at e; cases e) (fun _ => Zi5 fun a w ha => Zbs ?_ ha))
 have hdg : ZeE 8 n = xs := by rw [hk.eq, ZlT, List.append_nil]
 rw [hdg] at hres
 refine ZsM (α := Value) (fun v' => [(3, .raw v')]) (fun _ => ⟨[], [], 108⟩) (fun v' => HV w0.heap.size .u8 v' (0 :: Zd2 xs)) ?_ fun v2 => ?_
 ·by_cases hx : xs = []
  ·subst hx
   have ht : Zd2 [] = [] := rfl
   refine ZbL (Zaf hE ZcH 1 rfl rfl rfl ?_)
   simp (config := {dsimp := false}) only [↓Zr, vz, vn, nq, Zo, Zi, Zd, Zb, Zg, Za, Zh, Ze, Zj, Zf, if_true, if_false, implies_true, forall_const, ne_eq, reduceIte, reduceCtorEq, Nat.reduceEqDiff, Nat.reduceAdd, Nat.reduceMul, Nat.reduceDiv, Nat.reduceLT, Nat.reduceSub, Nat.reduceLeDiff, Nat.reduceBNe, Nat.reduceBEq, Nat.reduceBeqDiff, List.range, List.range.loop, Zq, Tryd.ntmps24, Tryd.results24, List.drop_zero, List.take_succ_cons, List.take_zero]
   refine Ze8 (Zin hE (te := 5) rfl (.inl rfl) rfl (by decide) rfl rfl rfl ?_)
   refine Zav hE ZcH (nx := 84) _ rfl rfl ?_
   simp (config := {dsimp := false}) only [↓Zr, vz, vn, nq, Zo, Zi, Zd, Zb, Zg, Za, Zh, Ze, Zj, Zf, if_true, if_false, implies_true, forall_const, ne_eq, reduceIte, reduceCtorEq, Nat.reduceEqDiff, Nat.reduceAdd, Nat.reduceMul, Nat.reduceDiv, Nat.reduceLT, Nat.reduceSub, Nat.reduceLeDiff, Nat.reduceBNe, Nat.reduceBEq, Nat.reduceBeqDiff, List.range, List.range.loop, Zq, Tryd.ntmps24, Tryd.results24, List.drop_zero, List.drop_succ_cons]
   have d3 : decide ((1 : Int) < ((1 : Nat) : Int)) = false := rfl
   refine ⟨fun e => absurd (d3.symm.trans e) (by decide), fun _ => ZQ ?_⟩
   refine ZG (b := false) rfl (fun e => by cases e) (fun _ => Zbe fun a w ha => ⟨v, Zcy ZcH hl (Nat.le_of_ble_eq_true rfl) ?_ ha⟩)
   exact ⟨⟨Zc rfl, rfl, trivial⟩, trivial, trivial⟩
  obtain ⟨m, hm⟩ : ∃ m, xs.length = m + 1 := ⟨xs.length - 1, by have := List.length_pos_iff.2 hx; omega⟩
  have d2 : decide ((1 : Int) < ((xs.length + 1 : Nat) : Int)) = true := decide_eq_true (by omega)
  have hw1 : IntKind.wrap .i64 (((xs.length + 1 : Nat) : Int) - 1) = ((m + 1 : Nat) : Int) := by rw [Zax (by omega) (by omega)]; omega
  have hla : (0 :: xs).getD (m + 1) 0 = xs.getD m 0 := rfl
  refine ZbL (Zaf hE ZcH 1 rfl rfl rfl ?_)
  simp (config := {dsimp := false}) only [↓Zr, vz, vn, nq, Zo, Zi, Zd, Zb, Zg, Za, Zh, Ze, Zj, Zf, if_true, if_false, implies_true, forall_const, ne_eq, reduceIte, reduceCtorEq, Nat.reduceEqDiff, Nat.reduceAdd, Nat.reduceMul, Nat.reduceDiv, Nat.reduceLT, Nat.reduceSub, Nat.reduceLeDiff, Nat.reduceBNe, Nat.reduceBEq, Nat.reduceBeqDiff, List.range, List.range.loop, Zq, Tryd.ntmps24, Tryd.results24, List.drop_zero, List.take_succ_cons, List.take_zero]
  refine Ze8 (Zin hE (te := 5) rfl (.inl rfl) rfl (by decide) rfl rfl rfl ?_)
  refine Zaf hE ZcH 4 rfl rfl rfl ?_
  simp (config := {dsimp := false}) only [↓Zr, vz, vn, nq, Zo, Zi, Zd, Zb, Zg, Za, Zh, Ze, Zj, Zf, if_true, if_false, implies_true, forall_const, ne_eq, reduceIte, reduceCtorEq, Nat.reduceEqDiff, Nat.reduceAdd, Nat.reduceMul, Nat.reduceDiv, Nat.reduceLT, Nat.reduceSub, Nat.reduceLeDiff, Nat.reduceBNe, Nat.reduceBEq, Nat.reduceBeqDiff, List.range, List.range.loop, Zq, Tryd.ntmps24, Tryd.results24, List.drop_zero, List.drop_succ_cons, List.take_succ_cons, List.take_zero]
  refine ⟨fun _ => ?_, fun e => absurd (d2.symm.trans e) (by decide)⟩
  refine Ze8 (Zin hE (te := 5) rfl (.inr ⟨3, 21, true, rfl, rfl⟩) rfl (by decide) rfl rfl rfl ?_)
  refine Zaf hE ZcH 1 rfl rfl rfl ?_
  simp (config := {dsimp := false}) only [↓Zr, vz, vn, nq, Zo, Zi, Zd, Zb, Zg, Za, Zh, Ze, Zj, Zf, if_true, if_false, implies_true, forall_const, ne_eq, reduceIte, reduceCtorEq, Nat.reduceEqDiff, Nat.reduceAdd, Nat.reduceMul, Nat.reduceDiv, Nat.reduceLT, Nat.reduceSub, Nat.reduceLeDiff, Nat.reduceBNe, Nat.reduceBEq, Nat.reduceBeqDiff, List.range, List.range.loop, Zq, Tryd.ntmps24, Tryd.results24, List.drop_zero, List.drop_succ_cons, List.take_succ_cons, List.take_zero, hw1]
  refine Ze8 (Zvc hE ZxT rfl ty5 rfl rfl (n := m + 1) rfl (.inr ⟨3, 21, true, rfl, rfl⟩) rfl rfl (by decide) rfl (fun b => .inr ⟨3, 21, true, rfl, rfl⟩) rfl rfl (by decide) rfl rfl (by simp [hm]) fun b => ?_)
  rw [hla]
  refine Zav hE ZcH (nx := 72) _ rfl rfl ?_
  simp (config := {dsimp := false}) only [↓Zr, vz, vn, nq, Zo, Zi, Zd, Zb, Zg, Za, Zh, Ze, Zj, Zf, if_true, if_false, implies_true, forall_const, ne_eq, reduceIte, reduceCtorEq, Nat.reduceEqDiff, Nat.reduceAdd, Nat.reduceMul, Nat.reduceDiv, Nat.reduceLT, Nat.reduceSub, Nat.reduceLeDiff, Nat.reduceBNe, Nat.reduceBEq, Nat.reduceBeqDiff, List.range, List.range.loop, Zq, Tryd.ntmps24, Tryd.results24, List.drop_zero, List.drop_succ_cons]
  have hm1 : xs.length - 1 = m := by omega
  by_cases hb : 127 < xs.getD m 0
  ·have ht : Zd2 xs = xs ++ [0] := by unfold Zd2; rw [hm1, if_pos ⟨by omega, hb⟩]
   have d4 : decide ((128 : Int) ≤ xs.getD m 0) = true := decide_eq_true (by omega)
   refine ZQ (ZG (b := decide ((128 : Int) ≤ xs.getD m 0)) rfl (fun _ => ?_) (fun e => by rw [d4] at e; cases e))
   refine Zno (Zaf hE ZcH 2 rfl rfl rfl ?_)
   simp (config := {dsimp := false}) only [↓Zr, vz, vn, nq, Zo, Zi, Zd, Zb, Zg, Za, Zh, Ze, Zj, Zf, if_true, if_false, implies_true, forall_const, ne_eq, reduceIte, reduceCtorEq, Nat.reduceEqDiff, Nat.reduceAdd, Nat.reduceMul, Nat.reduceDiv, Nat.reduceLT, Nat.reduceSub, Nat.reduceLeDiff, Nat.reduceBNe, Nat.reduceBEq, Nat.reduceBeqDiff, List.range, List.range.loop, Zq, Tryd.ntmps24, Tryd.results24, List.drop_zero, List.take_succ_cons, List.take_zero]
   refine Ze8 (Zmg hE (dst := 32) (ta := 30) (tb := 31) (t1 := 44) (t2 := 44) (e := 5) (ys := [0]) rfl rfl rfl (by decide) rfl rfl rfl rfl rfl rfl rfl (by decide) rfl rfl rfl (by simp; omega) fun v' => ?_)
   refine Zav hE ZcH (nx := 84) _ rfl rfl ?_
   simp (config := {dsimp := false}) only [↓Zr, vz, vn, nq, Zo, Zi, Zd, Zb, Zg, Za, Zh, Ze, Zj, Zf, if_true, if_false, implies_true, forall_const, ne_eq, reduceIte, reduceCtorEq, Nat.reduceEqDiff, Nat.reduceAdd, Nat.reduceMul, Nat.reduceDiv, Nat.reduceLT, Nat.reduceSub, Nat.reduceLeDiff, Nat.reduceBNe, Nat.reduceBEq, Nat.reduceBeqDiff, List.range, List.range.loop, Zq, Tryd.ntmps24, Tryd.results24, List.drop_zero, List.drop_succ_cons]
   refine Zd0 fun a w ha => ⟨v', ?_⟩
   rw [ht]
   refine Zcy ZcH hl (Nat.le_of_ble_eq_true rfl) ?_ ha
   exact ⟨⟨Zc rfl, rfl, trivial⟩, trivial, trivial⟩
  ·have ht : Zd2 xs = xs := by unfold Zd2; rw [hm1, if_neg (by omega)]
   have d4 : decide ((128 : Int) ≤ xs.getD m 0) = false := decide_eq_false (by omega)
   refine ZQ (ZG (b := decide ((128 : Int) ≤ xs.getD m 0)) rfl (fun e => by rw [d4] at e; cases e) (fun _ => Zbe fun a w ha => ⟨v, ?_⟩))
   rw [ht]
   refine Zcy ZcH hl (Nat.le_of_ble_eq_true rfl) ?_ ha
   exact ⟨⟨Zc rfl, rfl, trivial⟩, trivial, trivial⟩
 have hlt : (Zd2 xs).length ≤ 9 := by
  unfold Zd2
  split
  ·simp; omega
  ·omega
 generalize Zd2 xs = d at *
 refine ZxJ 3 (by simp) rfl fun zs => ?_
 simp only [ZaV]
 refine ZN hE Zad hl rfl (Nat.le_of_ble_eq_true rfl) ?_
 simp (config := {dsimp := false}) only [↓Zr, vz, vn, nq, Zo, Zi, Zd, Zb, Zg, Za, Zh, Ze, Zj, Zf, if_true, if_false, implies_true, forall_const, ne_eq, reduceIte, reduceCtorEq, Nat.reduceEqDiff, Nat.reduceAdd, Nat.reduceMul, Nat.reduceDiv, Nat.reduceLT, Nat.reduceSub, Nat.reduceLeDiff, Nat.reduceBNe, Nat.reduceBEq, Nat.reduceBeqDiff, List.range, List.range.loop, Zq, Tryd.ntmps24, Tryd.results24]
 have hwd : IntKind.wrap .u8 (IntKind.wrap .i64 (((d.length + 1 : Nat) : Int) - 1)) = (d.length : Int) := by rw [Zax (by omega) (by omega), IntKind.wrap_u8]; omega
 rw [hwd]
 refine ⟨by omega, by omega, gmk (ZN hE Zad hl rfl (Nat.le_of_ble_eq_true rfl) ?_)⟩
 simp (config := {dsimp := false}) only [↓Zr, vz, vn, nq, Zo, Zi, Zd, Zb, Zg, Za, Zh, Ze, Zj, Zf, if_true, if_false, implies_true, forall_const, ne_eq, reduceIte, reduceCtorEq, Nat.reduceEqDiff, Nat.reduceAdd, Nat.reduceMul, Nat.reduceDiv, Nat.reduceLT, Nat.reduceSub, Nat.reduceLeDiff, Nat.reduceBNe, Nat.reduceBEq, Nat.reduceBeqDiff, List.range, List.range.loop, Zq, Tryd.ntmps24, Tryd.results24]
 refine gmk (Zao fun a w ha => ?_)
 subst hP
 refine ZP () ?_ ha
 have hfin : ∀ (q : Nat), Zg7 ⟨[(108, .arr .u8 ((d ++ zs).length + 1) ((0 :: (d ++ zs)).set (0 + 0 : Int).toNat (d.length : Int)))], [], q⟩ 0 0 [] [] [108] (.bsl 108 0 ((d ++ zs).length + 1) 0 ((d.length + 1 : Nat) : Int)) = .sli .no .u8 ((d.length : Int) :: d) := by
  intro q
  simp [Zg7, D.frz, S.box, Zm, D.ren, Zft]
 rw [hres]
 exact ⟨[], [], [108], ⟨rfl, rfl⟩, ⟨rfl, rfl⟩, ⟨by simp, by simp⟩, by intro i hi; simp at hi; subst hi; exact ⟨by decide, by simp, rfl⟩, rfl, rfl, ⟨_, rfl, rfl⟩, ⟨_, rfl, rfl⟩, hfin _⟩
theorem ZvO : Zs E 24 := by
 refine ZfF hE hgl (show E.P.funcs[24]? = some Tryd.f24 from Tryd.func24) (show Tryd.f24.body = some ZqZ from rfl) (p := ZbV) (ts := []) (fun args s nm => ZhU args s nm) fun args ds tv hv h8 h9 => ?_
 unfold ZbV at hv ⊢
 split at hv
 ·rename_i h
  exact ⟨by simp, Nat.le_of_ble_eq_true rfl, fun g1 w0 hl _ => Ztt h hv g1 w0 hl⟩
 ·exact hv.elim
end Go.Vi.CO
end

section
namespace Go.Vi.CO
open Go.Proofs
noncomputable def Zp6 : Code := (Tryd.f36.body).getD .skip
theorem ZqD (h : Int) (hh : Zap h) (g1 : Gh) (w0 : World) (hl : Low 8 g1) :
  GM (fun _ => False) (fun _ _ => True) E Tryd.f36.ntmps g1 w0 (Zcb (fun _ => False) E Tryd.f36 g1 w0 0 0 (fun _ : Unit => (⟨Zap h, .sli .no .u8 (Za4 h), [], [], [], []⟩ : BF)) (fun _ _ _ => True))
   Zp6 [(0, .int .i64 h)] ⟨[], [], 8⟩ := by
 generalize hP : Zcb (fun _ => False) E Tryd.f36 g1 w0 0 0 _ _ = Post
 unfold Zp6
 simp only [Tryd.f36, Option.getD_some]
 refine ZN hE Zad hl rfl (Nat.le_refl _) ?_
 simp (config := {dsimp := false}) only [↓Zr, vz, vn, nq, Zo, Zi, Zd, Zb, Zg, Za, Zh, Ze, Zj, Zf, if_true, if_false, implies_true, forall_const, ne_eq, reduceIte, reduceCtorEq, Nat.reduceEqDiff, Nat.reduceAdd, Nat.reduceMul, Nat.reduceDiv, Nat.reduceLT, Nat.reduceSub, Nat.reduceLeDiff, Nat.reduceBNe, Nat.reduceBEq, Nat.reduceBeqDiff, List.range, List.range.loop, Zq, Tryd.ntmps36, Tryd.results36]
 refine gmk (Z1 (ZN hE Zad hl rfl (Nat.le_of_ble_eq_true rfl) ?_))
 simp (config := {dsimp := false}) only [↓Zr, vz, vn, nq, Zo, Zi, Zd, Zb, Zg, Za, Zh, Ze, Zj, Zf, if_true, if_false, implies_true, forall_const, ne_eq, reduceIte, reduceCtorEq, Nat.reduceEqDiff, Nat.reduceAdd, Nat.reduceMul, Nat.reduceDiv, Nat.reduceLT, Nat.reduceSub, Nat.reduceLeDiff, Nat.reduceBNe, Nat.reduceBEq, Nat.reduceBeqDiff, List.range, List.range.loop, Zq, Tryd.ntmps36, Tryd.results36]
 by_cases h0 : h < 0
 ·have d0 : decide (h < 0) = true := decide_eq_true h0
  refine gmk (ZG (b := decide (h < 0)) rfl (fun _ => ?_) (fun e => by rw [d0] at e; cases e))
  refine ZN hE Zad hl rfl (Nat.le_of_ble_eq_true rfl) ?_
  simp (config := {dsimp := false}) only [↓Zr, vz, vn, nq, Zo, Zi, Zd, Zb, Zg, Za, Zh, Ze, Zj, Zf, if_true, if_false, implies_true, forall_const, ne_eq, reduceIte, reduceCtorEq, Nat.reduceEqDiff, Nat.reduceAdd, Nat.reduceMul, Nat.reduceDiv, Nat.reduceLT, Nat.reduceSub, Nat.reduceLeDiff, Nat.reduceBNe, Nat.reduceBEq, Nat.reduceBeqDiff, List.range, List.range.loop, Zq, Tryd.ntmps36, Tryd.results36]
  refine gmk (Zao fun a w ha => ?_)
  subst hP
  refine ZP () ?_ (Zsk 2 .u8 rfl ha)
  have hres : Za4 h = [] := if_pos h0
  rw [hres]
  exact ⟨[], [], [], ⟨rfl, rfl⟩, ⟨rfl, rfl⟩, ⟨by simp, by simp⟩, by simp, rfl, rfl, ⟨_, rfl, rfl⟩, ⟨_, rfl, rfl⟩, rfl⟩
 have d0 : decide (h < 0) = false := decide_eq_false h0
 have hres : Za4 h = ((Zd2 (ZeE 8 h.toNat)).length : Int) :: Zd2 (ZeE 8 h.toNat) := if_neg h0
 obtain ⟨n, rfl⟩ : ∃ n : Nat, h = (n : Nat) := ⟨h.toNat, by omega⟩
 rw [Int.toNat_natCast] at hres
 have hn : n < 256 ^ 8 := by have := hh.2; omega
 refine gmk (ZG (b := decide (((n : Nat) : Int) < 0)) rfl (fun e => by rw [d0] at e; cases e) (fun _ => Zbe fun a w ha => Zbs ?_ ha))
 refine ZqJ hE Zad hl (Za5 E Tryd.f36 0 0 (⟨Zap (n : Int), .sli .no .u8 (Za4 (n : Int)), [], [], [], []⟩ : BF)) rfl (Nat.le_of_ble_eq_true rfl) (fun e sl' s' a w hq ha => by subst hP; exact ZP () hq ha) ?_
 simp (config := {dsimp := false}) only [↓Zr, vz, vn, nq, Zo, Zi, Zd, Zb, Zg, Za, Zh, Ze, Zj, Zf, if_true, if_false, implies_true, forall_const, ne_eq, reduceIte, reduceCtorEq, Nat.reduceEqDiff, Nat.reduceAdd, Nat.reduceMul, Nat.reduceDiv, Nat.reduceLT, Nat.reduceSub, Nat.reduceLeDiff, Nat.reduceBNe, Nat.reduceBEq, Nat.reduceBeqDiff, List.range, List.range.loop, Zq, Tryd.ntmps36, Tryd.results36]
 refine Zz7 [(3, some .u8, 0)] ?_
 simp (config := {dsimp := false}) only [↓Zr, vz, vn, nq, Zo, Zi, Zd, Zb, Zg, Za, Zh, Ze, Zj, Zf, if_true, if_false, implies_true, forall_const, ne_eq, reduceIte, reduceCtorEq, Nat.reduceEqDiff, Nat.reduceAdd, Nat.reduceMul, Nat.reduceDiv, Nat.reduceLT, Nat.reduceSub, Nat.reduceLeDiff, Nat.reduceBNe, Nat.reduceBEq, Nat.reduceBeqDiff, List.range, List.range.loop, Zq, Tryd.ntmps36, Tryd.results36, Za0]
 refine ⟨{q : Nat × List Int × Nat // DigI n q.1 q.2.1 q.2.2}, (fun q => [(0, .int .i64 (q.1.2.2 : Nat)), (3, .sli (.tok 24) .u8 q.1.2.1)]), (fun q => ⟨[], [(24, (q.1.2.1.length, 1))], 28⟩), (fun q => 8 - q.1.1), ⟨(0, [], n), ⟨Nat.zero_le _, rfl, hn, rfl⟩⟩, fun _ => rfl, ⟨⟨Zc rfl, rfl, Zc rfl, rfl, trivial⟩, trivial, ⟨rfl, Nat.le_of_ble_eq_true rfl, trivial⟩⟩, ?_⟩
 rintro ⟨⟨k, xs, r⟩, hk⟩
 simp only at hk ⊢
 have hlen := hk.len
 have hle := hk.le
 simp (config := {dsimp := false}) only [↓Zr, vz, vn, nq, Zo, Zi, Zd, Zb, Zg, Za, Zh, Ze, Zj, Zf, if_true, if_false, implies_true, forall_const, ne_eq, reduceIte, reduceCtorEq, Nat.reduceEqDiff, Nat.reduceAdd, Nat.reduceMul, Nat.reduceDiv, Nat.reduceLT, Nat.reduceSub, Nat.reduceLeDiff, Nat.reduceBNe, Nat.reduceBEq, Nat.reduceBeqDiff, List.range, List.range.loop, Zq, Tryd.ntmps36, Tryd.results36]
 refine ⟨fun hr => ?_, fun hr => ?_⟩
 ·have hr := of_decide_eq_true hr
  have hr0 : r ≠ 0 := by omega
  have hnx := ZoD hk hr0
  have hkb := hnx.le
  have hrb : r < 256 ^ 8 := Nat.lt_of_lt_of_le hk.lt (Nat.pow_le_pow_right (by decide) (by omega))
  have e1 : IntKind.wrap .u8 (((r : Nat) : Int).tmod 256) = ((r % 256 : Nat) : Int) := by
   rw [Int.tmod_eq_emod_of_nonneg (by omega), IntKind.wrap_u8]; omega
  have e2 : IntKind.wrap .i64 (((r : Nat) : Int).tdiv 256) = ((r / 256 : Nat) : Int) := by
   rw [Int.tdiv_eq_ediv_of_nonneg (by omega), Zax (by omega) (by omega)]; omega
  simp (config := {dsimp := false}) only [↓Zr, vz, vn, nq, Zo, Zi, Zd, Zb, Zg, Za, Zh, Ze, Zj, Zf, if_true, if_false, implies_true, forall_const, ne_eq, reduceIte, reduceCtorEq, Nat.reduceEqDiff, Nat.reduceAdd, Nat.reduceMul, Nat.reduceDiv, Nat.reduceLT, Nat.reduceSub, Nat.reduceLeDiff, Nat.reduceBNe, Nat.reduceBEq, Nat.reduceBeqDiff, List.range, List.range.loop, Zq, Tryd.ntmps36, Tryd.results36, e1, e2]
  refine ⟨by decide, by omega, by decide, ⟨(k + 1, xs ++ [((r % 256 : Nat) : Int)], r / 256), hnx⟩, ⟨⟨Zc rfl, rfl, Zc rfl, rfl, trivial⟩, trivial, ⟨?_, Nat.le_of_ble_eq_true rfl, trivial⟩⟩, by (try simp only); omega⟩
  exact Z5 (by simp)
 ·have hr := of_decide_eq_false hr
  obtain rfl : r = 0 := by omega
  have hdg : ZeE 8 n = xs := by rw [hk.eq, ZlT, List.append_nil]
  rw [hdg] at hres
  have hwb : ∀ d : List Int, d.length ≤ 9 → IntKind.wrap .u8 ((d.length : Nat) : Int) = (d.length : Int) := fun d hd => by rw [IntKind.wrap_u8]; omega
  refine ⟨fun h1 => ?_, fun h1 => ?_⟩
  ·have h1 := of_decide_eq_true h1
   have hw1 : IntKind.wrap .i64 (((xs.length : Nat) : Int) - 1) = ((xs.length - 1 : Nat) : Int) := by rw [Zax (by omega) (by omega)]; omega
   simp (config := {dsimp := false}) only [hw1, Int.toNat_natCast]
   refine ⟨by omega, by omega, fun h2 => ?_, fun h2 => ?_⟩
   ·have h2 := of_decide_eq_true h2
    have ht : Zd2 xs = xs ++ [0] := if_pos ⟨by omega, h2⟩
    refine ⟨by omega, by simp; omega, ?_⟩
    rw [hwb (xs ++ [0]) (by simp; omega), hres, ht]
    exact ⟨[], [], [], ⟨rfl, rfl⟩, ⟨rfl, rfl⟩, ⟨by simp, by simp⟩, by simp, rfl, rfl, ⟨_, rfl, rfl⟩, ⟨_, rfl, rfl⟩, rfl⟩
   ·have h2 := of_decide_eq_false h2
    have ht : Zd2 xs = xs := if_neg (by omega)
    refine ⟨by omega, ?_⟩
    rw [hwb xs (by omega), hres, ht]
    exact ⟨[], [], [], ⟨rfl, rfl⟩, ⟨rfl, rfl⟩, ⟨by simp, by simp⟩, by simp, rfl, rfl, ⟨_, rfl, rfl⟩, ⟨_, rfl, rfl⟩, rfl⟩
  ·have h1 := of_decide_eq_false h1
   have ht : Zd2 xs = xs := if_neg (by omega)
   refine ⟨by omega, ?_⟩
   rw [hwb xs (by omega), hres, ht]
   exact ⟨[], [], [], ⟨rfl, rfl⟩, ⟨rfl, rfl⟩, ⟨by simp, by simp⟩, by simp, rfl, rfl, ⟨_, rfl, rfl⟩, ⟨_, rfl, rfl⟩, rfl⟩
theorem Znv : Zs E 36 := by
 refine ZfF hE hgl (show E.P.funcs[36]? = some Tryd.f36 from Tryd.func36) (show Tryd.f36.body = some Zp6 from rfl) (p := ZbV) (ts := []) (fun args s nm => Zfh args s nm) fun args ds tv hv h8 h9 => ?_
 unfold ZbV at hv ⊢
 split at hv
 ·rename_i h
  exact ⟨by simp, Nat.le_of_ble_eq_true rfl, fun g1 w0 hl _ => ZqD h hv g1 w0 hl⟩
 ·exact hv.elim
theorem ZsG {sub halv h : Int} (c1 : ¬ h < 0) (c2 : ¬ halv < 1) (c3 : ¬ sub < 1) {q k : Nat} (hq : h / halv = (q : Nat)) (hk : k ≤ q) (hsub : sub ≤ 9223372036854775807) (he : k = q ∨ sub / 2 ^ k ≤ 0) : sub / 2 ^ k = Zar sub halv h := by
 have hp : ∀ n : Nat, (0 : Int) < 2 ^ n := fun n => Int.pow_pos (by decide)
 have hpos : 0 ≤ sub / 2 ^ k := Int.ediv_nonneg (by omega) (Int.le_of_lt (hp k))
 have mono : ∀ a b : Nat, a ≤ b → (2 : Int) ^ a ≤ 2 ^ b := fun a b hab => by
  have := Nat.pow_le_pow_right (n := 2) (by decide) hab
  exact_mod_cast this
 have hz : sub / 2 ^ k ≤ 0 → sub < 2 ^ k := fun h0 => by
  have h1 := Int.emod_lt_of_pos sub (hp k)
  have h2 := Int.mul_ediv_add_emod sub (2 ^ k)
  have h3 : sub / 2 ^ k = 0 := by omega
  rw [h3, Int.mul_zero] at h2
  omega
 unfold Zar
 by_cases h6 : 63 ≤ h / halv
 ·rw [if_pos (.inr (.inr (.inr h6)))]
  rcases he with rfl | he
  ·refine Int.ediv_eq_zero_of_lt (by omega) ?_
   have := mono 63 k (by omega)
   have e : (2 : Int) ^ 63 = 9223372036854775808 := by decide
   omega
  ·omega
 ·rw [if_neg (by omega), hq, Int.toNat_natCast]
  rcases he with rfl | he
  ·rfl
  ·have h1 := hz he
   have h2 := mono k q hk
   rw [Int.ediv_eq_zero_of_lt (by omega) (show sub < 2 ^ q by omega)]
   omega
theorem Zp3 : Zs E 39 := by
 refine Zp hE hgl (show E.P.funcs[39]? = some Tryd.f39 from Tryd.func39) rfl (p := ZaQ) (fun _ _ _ => rfl) ?_
 intro args hv
 unfold ZaQ at hv ⊢
 split at hv
 case h_2 => exact hv.elim
 rename_i a0 a1 a2 a3 a4 a5 b0 b1 b2 b3 halv sub b4 b5 b6 b7 h
 refine ⟨by simp, Nat.le_of_ble_eq_true rfl, ?_⟩
 simp only [Zk] at hv
 by_cases c1 : h < 0
 ·have d1 : decide (h < 0) = true := decide_eq_true c1
  have e : Zar sub halv h = 0 := if_pos (.inl c1)
  simp (config := {dsimp := false}) only [↓Zr, vz, vn, nq, Zo, Zi, Zd, Zb, Zg, Za, Zh, Ze, Zj, Zf, if_true, if_false, implies_true, forall_const, ne_eq, reduceIte, reduceCtorEq, Nat.reduceEqDiff, Nat.reduceAdd, Nat.reduceMul, Nat.reduceDiv, Nat.reduceLT, Nat.reduceSub, Nat.reduceLeDiff, Nat.reduceBNe, Nat.reduceBEq, Nat.reduceBeqDiff, List.range, List.range.loop, Zq, Tryd.ntmps39, Tryd.results39, d1, e, Zk]
  all_goals rfl
 have d1 : decide (h < 0) = false := decide_eq_false c1
 by_cases c2 : halv < 1
 ·have d2 : decide (halv < 1) = true := decide_eq_true c2
  have e : Zar sub halv h = 0 := if_pos (.inr (.inl c2))
  simp (config := {dsimp := false}) only [↓Zr, vz, vn, nq, Zo, Zi, Zd, Zb, Zg, Za, Zh, Ze, Zj, Zf, if_true, if_false, implies_true, forall_const, ne_eq, reduceIte, reduceCtorEq, Nat.reduceEqDiff, Nat.reduceAdd, Nat.reduceMul, Nat.reduceDiv, Nat.reduceLT, Nat.reduceSub, Nat.reduceLeDiff, Nat.reduceBNe, Nat.reduceBEq, Nat.reduceBeqDiff, List.range, List.range.loop, Zq, Tryd.ntmps39, Tryd.results39, d1, d2, e, Zk]
  all_goals rfl
 have d2 : decide (halv < 1) = false := decide_eq_false c2
 by_cases c3 : sub < 1
 ·have d3 : decide (sub < 1) = true := decide_eq_true c3
  have e : Zar sub halv h = 0 := if_pos (.inr (.inr (.inl c3)))
  simp (config := {dsimp := false}) only [↓Zr, vz, vn, nq, Zo, Zi, Zd, Zb, Zg, Za, Zh, Ze, Zj, Zf, if_true, if_false, implies_true, forall_const, ne_eq, reduceIte, reduceCtorEq, Nat.reduceEqDiff, Nat.reduceAdd, Nat.reduceMul, Nat.reduceDiv, Nat.reduceLT, Nat.reduceSub, Nat.reduceLeDiff, Nat.reduceBNe, Nat.reduceBEq, Nat.reduceBeqDiff, List.range, List.range.loop, Zq, Tryd.ntmps39, Tryd.results39, d1, d2, d3, e, Zk]
  all_goals rfl
 have d3 : decide (sub < 1) = false := decide_eq_false c3
 have h0 : 0 ≤ h := by omega
 have hq : h.tdiv halv = h / halv := Int.tdiv_eq_ediv_of_nonneg h0
 have hn : 0 ≤ h / halv := Int.ediv_nonneg h0 (by omega)
 have hle : h / halv ≤ h := Int.ediv_le_self _ h0
 have hw : IntKind.wrap .i64 (h.tdiv halv) = h / halv := by
  rw [hq]
  have := hv.2.2
  exact Zax (by omega) (by omega)
 simp (config := {dsimp := false}) only [↓Zr, vz, vn, nq, Zo, Zi, Zd, Zb, Zg, Za, Zh, Ze, Zj, Zf, if_true, if_false, implies_true, forall_const, ne_eq, reduceIte, reduceCtorEq, Nat.reduceEqDiff, Nat.reduceAdd, Nat.reduceMul, Nat.reduceDiv, Nat.reduceLT, Nat.reduceSub, Nat.reduceLeDiff, Nat.reduceBNe, Nat.reduceBEq, Nat.reduceBeqDiff, List.range, List.range.loop, Zq, Tryd.ntmps39, Tryd.results39, d1, d2, d3]
 obtain ⟨q, hqn⟩ : ∃ q : Nat, h / halv = (q : Nat) := ⟨(h / halv).toNat, by omega⟩
 have hqb : q ≤ 9223372036854775807 := by have := hv.2.2; omega
 rw [hqn] at hw
 refine ZaO {k : Nat // k ≤ q} (fun k => [(1, .int .i64 h), (2, .bp 0 0), (5, .int .i64 (sub / 2 ^ k.1)), (6, .int .i64 (k.1 : Nat))]) (fun _ => ⟨[(0, .agg [.agg [.int .u32 a0, .arr .u8 32 a1, .arr .u8 32 a2, .int .u32 a3, .int .u32 a4, .int .u32 a5], .int .u32 b0, .int .i64 b1, .int .i64 b2, .int .i64 b3, .int .i64 halv, .int .i64 sub, .int .i64 b4, .int .i64 b5, .int .u64 b6, .int .i64 b7])], [], 72⟩) (fun k => q - k.1) ⟨0, Nat.zero_le _⟩ (fun _ => rfl) ?_ ?_
 ·have e0 : sub / 2 ^ 0 = sub := by simp
  simp only [e0]
  exact ⟨⟨Zc rfl, rfl, Zc rfl, rfl, Zc rfl, rfl, Zc rfl, rfl, trivial⟩, ⟨rfl, Nat.le_of_ble_eq_true rfl, rfl, trivial⟩, trivial⟩
 rintro ⟨k, hk⟩
 have hpos : 0 ≤ sub / 2 ^ k := Int.ediv_nonneg (by omega) (Int.le_of_lt (Int.pow_pos (by decide)))
 simp (config := {dsimp := false}) only [↓Zr, vz, vn, nq, Zo, Zi, Zd, Zb, Zg, Za, Zh, Ze, Zj, Zf, if_true, if_false, implies_true, forall_const, ne_eq, reduceIte, reduceCtorEq, Nat.reduceEqDiff, Nat.reduceAdd, Nat.reduceMul, Nat.reduceDiv, Nat.reduceLT, Nat.reduceSub, Nat.reduceLeDiff, Nat.reduceBNe, Nat.reduceBEq, Nat.reduceBeqDiff, List.range, List.range.loop, Zq, Tryd.ntmps39, Tryd.results39, hw]
 have hsub : sub ≤ 9223372036854775807 := hv.1.2
 have hle2 : sub / 2 ^ k ≤ sub := Int.ediv_le_self _ (by omega)
 have e1 : IntKind.wrap .i64 ((sub / 2 ^ k).tdiv 2) = sub / 2 ^ (k + 1) := by
  rw [Int.tdiv_eq_ediv_of_nonneg hpos, Int.ediv_ediv_of_nonneg (Int.le_of_lt (Int.pow_pos (by decide))), show (2 : Int) ^ k * 2 = 2 ^ (k + 1) from (Int.pow_succ 2 k).symm]
  have h7 := Int.ediv_le_self (2 ^ (k + 1)) (show (0 : Int) ≤ sub by omega)
  have h8 := Int.ediv_nonneg (show (0 : Int) ≤ sub by omega) (Int.le_of_lt (show (0 : Int) < 2 ^ (k + 1) from Int.pow_pos (by decide)))
  exact Zax (by omega) (by omega)
 have e2 : k < q → IntKind.wrap .i64 (((k : Nat) : Int) + 1) = ((k + 1 : Nat) : Int) := fun h => by rw [Zax (by omega) (by omega)]; omega
 refine ⟨by omega, fun h1 => ⟨fun h2 => ⟨by decide, ⟨k + 1, by have := of_decide_eq_true h1; omega⟩, ?_, by have := of_decide_eq_true h1; simp only; omega⟩, fun h2 => ?_⟩, fun h1 => ?_⟩
 ·have h1 := of_decide_eq_true h1
  rw [e1, e2 (by omega)]
  exact ⟨⟨Zc rfl, rfl, Zc rfl, rfl, Zc rfl, rfl, Zc rfl, rfl, trivial⟩, ⟨rfl, Nat.le_of_ble_eq_true rfl, rfl, trivial⟩, trivial⟩
 ·have h2 := of_decide_eq_false h2
  show D.int IntKind.i64 (sub / 2 ^ k) = D.int IntKind.i64 (Zar sub halv h)
  rw [ZsG c1 c2 c3 hqn hk hsub (.inr (by omega))]
 ·have h1 := of_decide_eq_false h1
  show D.int IntKind.i64 (sub / 2 ^ k) = D.int IntKind.i64 (Zar sub halv h)
  rw [ZsG c1 c2 c3 hqn hk hsub (.inl (by omega))]
end Go.Vi.CO
end

section
namespace Go.Vi.CO
open Go.Proofs
theorem Zvd {l : List TxP} {t : TxP} (h : t ∈ l) (hb : ZcD t = false) : ZdW l = false := by
 unfold ZdW
 rw [List.all_eq_false.2 ⟨t, h, by rw [hb]; decide⟩, Bool.and_false]
theorem ZtZ {l : List TxP} (h8 : l.length ≤ 8) (h : ∀ j, j < l.length → ZcD (l.getD j default) = true) : ZdW l = true := by
 unfold ZdW
 rw [decide_eq_true h8, Bool.true_and, List.all_eq_true]
 intro x hx
 obtain ⟨i, h1, rfl⟩ := List.getElem_of_mem hx
 have := h i h1
 simpa [List.getD, h1] using this
theorem Zja {α : Type} [Inhabited α] {p : α → Bool} {l : List α} (h : ∀ j, j < l.length → p (l.getD j default) = true) : l.all p = true := by
 rw [List.all_eq_true]
 intro x hx
 obtain ⟨i, h1, rfl⟩ := List.getElem_of_mem hx
 have := h i h1
 simpa [List.getD, h1] using this
theorem Zql {α : Type} {p : α → Bool} {l : List α} {x : α} (hx : x ∈ l) (h : p x = false) : l.all p = false := List.all_eq_false.2 ⟨x, hx, by rw [h]; decide⟩
def ZwM (w : List Int) : Bool := decide (w.length ≤ 200)
theorem Zjq (x : InP) : Zfe x = ((decide (x.script.length ≤ 200) && decide (x.wit.length ≤ 6)) && x.wit.all ZwM) := rfl
theorem Zsz : Zs E 30 := by
 refine Zp hE hgl (show E.P.funcs[30]? = some Tryd.f30 from Tryd.func30) rfl (p := ZeC) (fun _ _ _ => rfl) ?_
 intro args hv
 unfold ZeC at hv ⊢
 split at hv
 case h_2 => exact hv.elim
 rename_i h0 hp hr h1 h2 h3 es
 refine ⟨by simp, Nat.le_of_ble_eq_true rfl, ?_⟩
 simp only [Zk] at hv
 obtain ⟨hhd, l, rfl, hok, hl⟩ := hv
 simp only [Zht]
 by_cases h8 : l.length ≤ 8
 case neg =>
  have d0 : decide ((8 : Int) < ((l.length : Nat) : Int)) = true := decide_eq_true (by omega)
  have hs : ZdW l = false := by unfold ZdW; rw [decide_eq_false h8, Bool.false_and]
  simp (config := {dsimp := false}) only [↓Zr, vz, vn, nq, Zo, Zi, Zd, Zb, Zg, Za, Zh, Ze, Zj, Zf, if_true, if_false, implies_true, forall_const, ne_eq, reduceIte, reduceCtorEq, Nat.reduceEqDiff, Nat.reduceAdd, Nat.reduceMul, Nat.reduceDiv, Nat.reduceLT, Nat.reduceSub, Nat.reduceLeDiff, Nat.reduceBNe, Nat.reduceBEq, Nat.reduceBeqDiff, List.range, List.range.loop, Zq, Tryd.ntmps30, Tryd.results30, d0, hs, Zk]
  all_goals rfl
 have d0 : decide ((8 : Int) < ((l.length : Nat) : Int)) = false := decide_eq_false (by omega)
 simp (config := {dsimp := false}) only [↓Zr, vz, vn, nq, Zo, Zi, Zd, Zb, Zg, Za, Zh, Ze, Zj, Zf, if_true, if_false, implies_true, forall_const, ne_eq, reduceIte, reduceCtorEq, Nat.reduceEqDiff, Nat.reduceAdd, Nat.reduceMul, Nat.reduceDiv, Nat.reduceLT, Nat.reduceSub, Nat.reduceLeDiff, Nat.reduceBNe, Nat.reduceBEq, Nat.reduceBeqDiff, List.range, List.range.loop, Zq, Tryd.ntmps30, Tryd.results30, d0]
 refine ZaO {k : Nat // k ≤ l.length ∧ ∀ j, j < k → ZcD (l.getD j default) = true} (fun k => [(3, .int .i64 (k.1 : Nat)), (1, .bp 0 0)]) (fun _ => ⟨[(0, .agg [.agg [.int .u32 h0, .arr .u8 32 hp, .arr .u8 32 hr, .int .u32 h1, .int .u32 h2, .int .u32 h3], .sl .no 4 (ZaX l)])], [], 28⟩) (fun k => l.length - k.1) ⟨0, by simp⟩ (fun _ => rfl) ?_ ?_
 ·exact ⟨⟨Zc rfl, rfl, Zc rfl, rfl, trivial⟩, ⟨rfl, Nat.le_of_ble_eq_true rfl, rfl, trivial⟩, trivial⟩
 rintro ⟨k, hk, hb⟩
 simp (config := {dsimp := false}) only [↓Zr, vz, vn, nq, Zo, Zi, Zd, Zb, Zg, Za, Zh, Ze, Zj, Zf, if_true, if_false, implies_true, forall_const, ne_eq, reduceIte, reduceCtorEq, Nat.reduceEqDiff, Nat.reduceAdd, Nat.reduceMul, Nat.reduceDiv, Nat.reduceLT, Nat.reduceSub, Nat.reduceLeDiff, Nat.reduceBNe, Nat.reduceBEq, Nat.reduceBeqDiff, List.range, List.range.loop, Zq, Tryd.ntmps30, Tryd.results30]
 refine ⟨fun hh => ?_, fun hh => ?_⟩
 case refine_2 =>
  have hh := of_decide_eq_false hh
  obtain rfl : k = l.length := by omega
  simp (config := {dsimp := false}) only [↓Zr, vz, vn, nq, Zo, Zi, Zd, Zb, Zg, Za, Zh, Ze, Zj, Zf, if_true, if_false, implies_true, forall_const, ne_eq, reduceIte, reduceCtorEq, Nat.reduceEqDiff, Nat.reduceAdd, Nat.reduceMul, Nat.reduceDiv, Nat.reduceLT, Nat.reduceSub, Nat.reduceLeDiff, Nat.reduceBNe, Nat.reduceBEq, Nat.reduceBeqDiff, List.range, List.range.loop, Zq, Tryd.ntmps30, Tryd.results30, ZtZ h8 hb, Zk]
  all_goals rfl
 have hh := of_decide_eq_true hh
 have hk' : k < l.length := by omega
 have g0 := Zho l k hk'
 have ht := hok _ (ZS hk')
 have hmi := ht.mi
 have hmo := ht.mo
 have no : ZcD (l.getD k default) = false → ZdW l = false := Zvd (ZS hk')
 by_cases c1 : (l.getD k default).ins.length ≤ 6
 case neg =>
  have hs := no (by unfold ZcD; rw [decide_eq_false c1, Bool.false_and, Bool.false_and])
  have d1 : decide ((6 : Int) < (((l.getD k default).ins.length : Nat) : Int)) = true := decide_eq_true (by omega)
  simp (config := {dsimp := false}) only [↓Zr, vz, vn, nq, Zo, Zi, Zd, Zb, Zg, Za, Zh, Ze, Zj, Zf, if_true, if_false, implies_true, forall_const, ne_eq, reduceIte, reduceCtorEq, Nat.reduceEqDiff, Nat.reduceAdd, Nat.reduceMul, Nat.reduceDiv, Nat.reduceLT, Nat.reduceSub, Nat.reduceLeDiff, Nat.reduceBNe, Nat.reduceBEq, Nat.reduceBeqDiff, List.range, List.range.loop, Zq, Tryd.ntmps30, Tryd.results30, Int.toNat_natCast, g0, txD, d1, hs, Zk]
  exact ⟨by omega, by omega⟩
 have d1 : decide ((6 : Int) < (((l.getD k default).ins.length : Nat) : Int)) = false := decide_eq_false (by omega)
 by_cases c2 : (l.getD k default).outs.length ≤ 6
 case neg =>
  have hs := no (by unfold ZcD; rw [decide_eq_false c2, Bool.and_false, Bool.false_and])
  have d2 : decide ((6 : Int) < (((l.getD k default).outs.length : Nat) : Int)) = true := decide_eq_true (by omega)
  simp (config := {dsimp := false}) only [↓Zr, vz, vn, nq, Zo, Zi, Zd, Zb, Zg, Za, Zh, Ze, Zj, Zf, if_true, if_false, implies_true, forall_const, ne_eq, reduceIte, reduceCtorEq, Nat.reduceEqDiff, Nat.reduceAdd, Nat.reduceMul, Nat.reduceDiv, Nat.reduceLT, Nat.reduceSub, Nat.reduceLeDiff, Nat.reduceBNe, Nat.reduceBEq, Nat.reduceBeqDiff, List.range, List.range.loop, Zq, Tryd.ntmps30, Tryd.results30, Int.toNat_natCast, g0, txD, d1, d2, hs, Zk]
  exact ⟨by omega, by omega⟩
 have d2 : decide ((6 : Int) < (((l.getD k default).outs.length : Nat) : Int)) = false := decide_eq_false (by omega)
 simp (config := {dsimp := false}) only [↓Zr, vz, vn, nq, Zo, Zi, Zd, Zb, Zg, Za, Zh, Ze, Zj, Zf, if_true, if_false, implies_true, forall_const, ne_eq, reduceIte, reduceCtorEq, Nat.reduceEqDiff, Nat.reduceAdd, Nat.reduceMul, Nat.reduceDiv, Nat.reduceLT, Nat.reduceSub, Nat.reduceLeDiff, Nat.reduceBNe, Nat.reduceBEq, Nat.reduceBeqDiff, List.range, List.range.loop, Zq, Tryd.ntmps30, Tryd.results30, Int.toNat_natCast, g0, txD, d1, d2]
 refine ⟨by omega, by omega, ?_⟩
 refine ZaO {m : Nat // m ≤ (l.getD k default).ins.length ∧ ∀ j, j < m → Zfe ((l.getD k default).ins.getD j default) = true} (fun m => [(5, .int .i64 (m.1 : Nat)), (4, .bp 68 0), (3, .int .i64 (k : Nat)), (1, .bp 0 0)]) (fun _ => ⟨[(0, .agg [.agg [.int .u32 h0, .arr .u8 32 hp, .arr .u8 32 hr, .int .u32 h1, .int .u32 h2, .int .u32 h3], .sl .no 4 (ZaX l)]), (68, txD (l.getD k default))], [], 120⟩) (fun m => (l.getD k default).ins.length - m.1) ⟨0, by simp⟩ (fun _ => rfl) ?_ ?_
 ·exact ⟨⟨Zc rfl, rfl, Zc rfl, rfl, Zc rfl, rfl, Zc rfl, rfl, trivial⟩, ⟨rfl, Nat.le_of_ble_eq_true rfl, rfl, rfl, Nat.le_of_ble_eq_true rfl, rfl, trivial⟩, trivial⟩
 rintro ⟨m, hm, hbm⟩
 simp (config := {dsimp := false}) only [↓Zr, vz, vn, nq, Zo, Zi, Zd, Zb, Zg, Za, Zh, Ze, Zj, Zf, if_true, if_false, implies_true, forall_const, ne_eq, reduceIte, reduceCtorEq, Nat.reduceEqDiff, Nat.reduceAdd, Nat.reduceMul, Nat.reduceDiv, Nat.reduceLT, Nat.reduceSub, Nat.reduceLeDiff, Nat.reduceBNe, Nat.reduceBEq, Nat.reduceBeqDiff, List.range, List.range.loop, Zq, Tryd.ntmps30, Tryd.results30, txD]
 refine ⟨fun hh2 => ?_, fun hh2 => ?_⟩
 ·have hh2 := of_decide_eq_true hh2
  have hm' : m < (l.getD k default).ins.length := by omega
  have g1 := ZcM (l.getD k default).ins m hm'
  have hx := ht.ins _ (ZS hm')
  have hmw := hx.many
  have hms := hx.script.2
  have no2 : Zfe ((l.getD k default).ins.getD m default) = false → ZdW l = false := fun h => no (by unfold ZcD; rw [Zql (ZS hm') h, Bool.false_and, Bool.and_false])
  by_cases c3 : ((l.getD k default).ins.getD m default).script.length ≤ 200
  case neg =>
   have hs := no2 (by unfold Zfe; rw [decide_eq_false c3, Bool.false_and, Bool.false_and])
   have d3 : decide ((200 : Int) < ((((l.getD k default).ins.getD m default).script.length : Nat) : Int)) = true := decide_eq_true (by omega)
   simp (config := {dsimp := false}) only [↓Zr, vz, vn, nq, Zo, Zi, Zd, Zb, Zg, Za, Zh, Ze, Zj, Zf, if_true, if_false, implies_true, forall_const, ne_eq, reduceIte, reduceCtorEq, Nat.reduceEqDiff, Nat.reduceAdd, Nat.reduceMul, Nat.reduceDiv, Nat.reduceLT, Nat.reduceSub, Nat.reduceLeDiff, Nat.reduceBNe, Nat.reduceBEq, Nat.reduceBeqDiff, List.range, List.range.loop, Zq, Tryd.ntmps30, Tryd.results30, Int.toNat_natCast, g1, txD, inD, d3, hs, Zk]
   exact ⟨by omega, by omega⟩
  have d3 : decide ((200 : Int) < ((((l.getD k default).ins.getD m default).script.length : Nat) : Int)) = false := decide_eq_false (by omega)
  by_cases c4 : ((l.getD k default).ins.getD m default).wit.length ≤ 6
  case neg =>
   have hs := no2 (by unfold Zfe; rw [decide_eq_false c4, Bool.and_false, Bool.false_and])
   have d4 : decide ((6 : Int) < ((((l.getD k default).ins.getD m default).wit.length : Nat) : Int)) = true := decide_eq_true (by omega)
   simp (config := {dsimp := false}) only [↓Zr, vz, vn, nq, Zo, Zi, Zd, Zb, Zg, Za, Zh, Ze, Zj, Zf, if_true, if_false, implies_true, forall_const, ne_eq, reduceIte, reduceCtorEq, Nat.reduceEqDiff, Nat.reduceAdd, Nat.reduceMul, Nat.reduceDiv, Nat.reduceLT, Nat.reduceSub, Nat.reduceLeDiff, Nat.reduceBNe, Nat.reduceBEq, Nat.reduceBeqDiff, List.range, List.range.loop, Zq, Tryd.ntmps30, Tryd.results30, Int.toNat_natCast, g1, txD, inD, d3, d4, hs, Zk]
   exact ⟨by omega, by omega, by omega, by omega⟩
  have d4 : decide ((6 : Int) < ((((l.getD k default).ins.getD m default).wit.length : Nat) : Int)) = false := decide_eq_false (by omega)
  simp (config := {dsimp := false}) only [↓Zr, vz, vn, nq, Zo, Zi, Zd, Zb, Zg, Za, Zh, Ze, Zj, Zf, if_true, if_false, implies_true, forall_const, ne_eq, reduceIte, reduceCtorEq, Nat.reduceEqDiff, Nat.reduceAdd, Nat.reduceMul, Nat.reduceDiv, Nat.reduceLT, Nat.reduceSub, Nat.reduceLeDiff, Nat.reduceBNe, Nat.reduceBEq, Nat.reduceBeqDiff, List.range, List.range.loop, Zq, Tryd.ntmps30, Tryd.results30, Int.toNat_natCast, g1, txD, inD, d3, d4]
  refine ⟨by omega, by omega, by omega, by omega, ?_⟩
  refine ZaO {q : Nat // q ≤ ((l.getD k default).ins.getD m default).wit.length ∧ ∀ j, j < q → ZwM (((l.getD k default).ins.getD m default).wit.getD j default) = true} (fun q => [(6, .int .i64 (q.1 : Nat)), (5, .int .i64 (m : Nat)), (4, .bp 68 0), (3, .int .i64 (k : Nat)), (1, .bp 0 0)]) (fun _ => ⟨[(0, .agg [.agg [.int .u32 h0, .arr .u8 32 hp, .arr .u8 32 hr, .int .u32 h1, .int .u32 h2, .int .u32 h3], .sl .no 4 (ZaX l)]), (68, txD (l.getD k default))], [], 216⟩) (fun q => ((l.getD k default).ins.getD m default).wit.length - q.1) ⟨0, by simp⟩ (fun _ => rfl) ?_ ?_
  ·exact ⟨⟨Zc rfl, rfl, Zc rfl, rfl, Zc rfl, rfl, Zc rfl, rfl, Zc rfl, rfl, trivial⟩, ⟨rfl, Nat.le_of_ble_eq_true rfl, rfl, rfl, Nat.le_of_ble_eq_true rfl, rfl, trivial⟩, trivial⟩
  rintro ⟨q, hq, hbq⟩
  simp (config := {dsimp := false}) only [↓Zr, vz, vn, nq, Zo, Zi, Zd, Zb, Zg, Za, Zh, Ze, Zj, Zf, if_true, if_false, implies_true, forall_const, ne_eq, reduceIte, reduceCtorEq, Nat.reduceEqDiff, Nat.reduceAdd, Nat.reduceMul, Nat.reduceDiv, Nat.reduceLT, Nat.reduceSub, Nat.reduceLeDiff, Nat.reduceBNe, Nat.reduceBEq, Nat.reduceBeqDiff, List.range, List.range.loop, Zq, Tryd.ntmps30, Tryd.results30, Int.toNat_natCast, g1, txD, inD]
  refine ⟨by omega, by omega, fun hh3 => ?_, fun hh3 => ?_⟩
  ·have hh3 := of_decide_eq_true hh3
   have hq' : q < ((l.getD k default).ins.getD m default).wit.length := by omega
   have g2 : (ZeG ((l.getD k default).ins.getD m default).wit).getD q .any = .sli .no .u8 (((l.getD k default).ins.getD m default).wit.getD q default) := ZjA _ q hq'
   have hwm := (hx.wit _ (ZS hq')).2
   cases hp : ZwM (((l.getD k default).ins.getD m default).wit.getD q default)
   ·have hs := no2 (by rw [Zjq, Zql (p := ZwM) (ZS hq') hp, Bool.and_false])
    have d5 : decide ((200 : Int) < (((((l.getD k default).ins.getD m default).wit.getD q default).length : Nat) : Int)) = true := decide_eq_true (by have := of_decide_eq_false hp; omega)
    simp (config := {dsimp := false}) only [↓Zr, vz, vn, nq, Zo, Zi, Zd, Zb, Zg, Za, Zh, Ze, Zj, Zf, if_true, if_false, implies_true, forall_const, ne_eq, reduceIte, reduceCtorEq, Nat.reduceEqDiff, Nat.reduceAdd, Nat.reduceMul, Nat.reduceDiv, Nat.reduceLT, Nat.reduceSub, Nat.reduceLeDiff, Nat.reduceBNe, Nat.reduceBEq, Nat.reduceBeqDiff, List.range, List.range.loop, Zq, Tryd.ntmps30, Tryd.results30, Int.toNat_natCast, g1, g2, txD, inD, d5, hs, Zk]
    exact ⟨by omega, by omega, by omega, by omega⟩
   ·have d5 : decide ((200 : Int) < (((((l.getD k default).ins.getD m default).wit.getD q default).length : Nat) : Int)) = false := decide_eq_false (by have := of_decide_eq_true hp; omega)
    simp (config := {dsimp := false}) only [↓Zr, vz, vn, nq, Zo, Zi, Zd, Zb, Zg, Za, Zh, Ze, Zj, Zf, if_true, if_false, implies_true, forall_const, ne_eq, reduceIte, reduceCtorEq, Nat.reduceEqDiff, Nat.reduceAdd, Nat.reduceMul, Nat.reduceDiv, Nat.reduceLT, Nat.reduceSub, Nat.reduceLeDiff, Nat.reduceBNe, Nat.reduceBEq, Nat.reduceBeqDiff, List.range, List.range.loop, Zq, Tryd.ntmps30, Tryd.results30, Int.toNat_natCast, g1, g2, txD, inD, d5]
    refine ⟨by omega, by omega, by omega, by omega, ⟨q + 1, by omega, fun j hj => ?_⟩, ⟨⟨Zc ?_, rfl, Zc rfl, rfl, Zc rfl, rfl, Zc rfl, rfl, Zc rfl, rfl, trivial⟩, ⟨rfl, Nat.le_of_ble_eq_true rfl, rfl, rfl, Nat.le_of_ble_eq_true rfl, rfl, trivial⟩, trivial⟩, by (try simp only); omega⟩
    ·rcases Nat.lt_or_ge j q with h7 | h7
     ·exact hbq j h7
     ·obtain rfl : j = q := by omega
      exact hp
    ·exact ZX (by (try simp only); omega)
  ·have hh3 := of_decide_eq_false hh3
   obtain rfl : q = ((l.getD k default).ins.getD m default).wit.length := by omega
   have hp : Zfe ((l.getD k default).ins.getD m default) = true := by
    rw [Zjq, decide_eq_true c3, decide_eq_true c4, Zja (p := ZwM) hbq]; rfl
   refine ⟨⟨m + 1, by omega, fun j hj => ?_⟩, ⟨⟨Zc ?_, rfl, Zc rfl, rfl, Zc rfl, rfl, Zc rfl, rfl, trivial⟩, ⟨rfl, Nat.le_of_ble_eq_true rfl, rfl, rfl, Nat.le_of_ble_eq_true rfl, rfl, trivial⟩, trivial⟩, by (try simp only); omega⟩
   ·rcases Nat.lt_or_ge j m with h7 | h7
    ·exact hbm j h7
    ·obtain rfl : j = m := by omega
     exact hp
   ·exact ZX (by (try simp only); omega)
 have hh2 := of_decide_eq_false hh2
 obtain rfl : m = (l.getD k default).ins.length := by omega
 refine ZaO {m : Nat // m ≤ (l.getD k default).outs.length ∧ ∀ j, j < m → ZjS ((l.getD k default).outs.getD j default) = true} (fun m => [(7, .int .i64 (m.1 : Nat)), (4, .bp 68 0), (3, .int .i64 (k : Nat)), (1, .bp 0 0)]) (fun _ => ⟨[(0, .agg [.agg [.int .u32 h0, .arr .u8 32 hp, .arr .u8 32 hr, .int .u32 h1, .int .u32 h2, .int .u32 h3], .sl .no 4 (ZaX l)]), (68, txD (l.getD k default))], [], 144⟩) (fun m => (l.getD k default).outs.length - m.1) ⟨0, by simp⟩ (fun _ => rfl) ?_ ?_
 ·exact ⟨⟨Zc rfl, rfl, Zc rfl, rfl, Zc rfl, rfl, Zc rfl, rfl, trivial⟩, ⟨rfl, Nat.le_of_ble_eq_true rfl, rfl, rfl, Nat.le_of_ble_eq_true rfl, rfl, trivial⟩, trivial⟩
 rintro ⟨m, hm, hbo⟩
 simp (config := {dsimp := false}) only [↓Zr, vz, vn, nq, Zo, Zi, Zd, Zb, Zg, Za, Zh, Ze, Zj, Zf, if_true, if_false, implies_true, forall_const, ne_eq, reduceIte, reduceCtorEq, Nat.reduceEqDiff, Nat.reduceAdd, Nat.reduceMul, Nat.reduceDiv, Nat.reduceLT, Nat.reduceSub, Nat.reduceLeDiff, Nat.reduceBNe, Nat.reduceBEq, Nat.reduceBeqDiff, List.range, List.range.loop, Zq, Tryd.ntmps30, Tryd.results30, txD]
 refine ⟨fun hh2 => ?_, fun hh2 => ?_⟩
 ·have hh2 := of_decide_eq_true hh2
  have hm' : m < (l.getD k default).outs.length := by omega
  have g1 := ZeN (l.getD k default).outs m hm'
  have hx := ht.outs _ (ZS hm')
  have hms := hx.script.2
  cases hp : ZjS ((l.getD k default).outs.getD m default)
  ·have hs := no (by unfold ZcD; rw [Zql (ZS hm') hp, Bool.and_false, Bool.and_false])
   have d5 : decide ((200 : Int) < ((((l.getD k default).outs.getD m default).script.length : Nat) : Int)) = true := decide_eq_true (by have := of_decide_eq_false hp; omega)
   simp (config := {dsimp := false}) only [↓Zr, vz, vn, nq, Zo, Zi, Zd, Zb, Zg, Za, Zh, Ze, Zj, Zf, if_true, if_false, implies_true, forall_const, ne_eq, reduceIte, reduceCtorEq, Nat.reduceEqDiff, Nat.reduceAdd, Nat.reduceMul, Nat.reduceDiv, Nat.reduceLT, Nat.reduceSub, Nat.reduceLeDiff, Nat.reduceBNe, Nat.reduceBEq, Nat.reduceBeqDiff, List.range, List.range.loop, Zq, Tryd.ntmps30, Tryd.results30, Int.toNat_natCast, g1, txD, ZdT, d5, hs, Zk]
   exact ⟨by omega, by omega⟩
  ·have d5 : decide ((200 : Int) < ((((l.getD k default).outs.getD m default).script.length : Nat) : Int)) = false := decide_eq_false (by have := of_decide_eq_true hp; omega)
   simp (config := {dsimp := false}) only [↓Zr, vz, vn, nq, Zo, Zi, Zd, Zb, Zg, Za, Zh, Ze, Zj, Zf, if_true, if_false, implies_true, forall_const, ne_eq, reduceIte, reduceCtorEq, Nat.reduceEqDiff, Nat.reduceAdd, Nat.reduceMul, Nat.reduceDiv, Nat.reduceLT, Nat.reduceSub, Nat.reduceLeDiff, Nat.reduceBNe, Nat.reduceBEq, Nat.reduceBeqDiff, List.range, List.range.loop, Zq, Tryd.ntmps30, Tryd.results30, Int.toNat_natCast, g1, txD, ZdT, d5]
   refine ⟨by omega, by omega, ⟨m + 1, by omega, fun j hj => ?_⟩, ⟨⟨Zc ?_, rfl, Zc rfl, rfl, Zc rfl, rfl, Zc rfl, rfl, trivial⟩, ⟨rfl, Nat.le_of_ble_eq_true rfl, rfl, rfl, Nat.le_of_ble_eq_true rfl, rfl, trivial⟩, trivial⟩, by (try simp only); omega⟩
   ·rcases Nat.lt_or_ge j m with h7 | h7
    ·exact hbo j h7
    ·obtain rfl : j = m := by omega
     exact hp
   ·exact ZX (by (try simp only); omega)
 have hh2 := of_decide_eq_false hh2
 obtain rfl : m = (l.getD k default).outs.length := by omega
 have hp : ZcD (l.getD k default) = true := by
  unfold ZcD
  rw [decide_eq_true c1, decide_eq_true c2, Zja hbm, Zja hbo]; rfl
 refine ⟨⟨k + 1, by omega, fun j hj => ?_⟩, ⟨⟨Zc ?_, rfl, Zc rfl, rfl, trivial⟩, ⟨rfl, Nat.le_of_ble_eq_true rfl, rfl, trivial⟩, trivial⟩, by (try simp only); omega⟩
 ·rcases Nat.lt_or_ge j k with h7 | h7
  ·exact hb j h7
  ·obtain rfl : j = k := by omega
   exact hp
 ·exact ZX (by (try simp only); omega)
end Go.Vi.CO
end

section
namespace Go.Vi.CO
open Go.Proofs
theorem ZuP : Zs E 60 := by
 refine Zp hE hgl (show E.P.funcs[60]? = some Tryd.f60 from Tryd.func60) rfl (p := Zf9) (fun _ _ _ => rfl) ?_
 intro args hv
 unfold Zf9 at hv ⊢
 split at hv
 case h_2 => exact hv.elim
 rename_i p i s q w
 refine ⟨by simp, Nat.le_of_ble_eq_true rfl, ?_⟩
 simp (config := {dsimp := false}) only [↓Zr, vz, vn, nq, Zo, Zi, Zd, Zb, Zg, Za, Zh, Ze, Zj, Zf, if_true, if_false, implies_true, forall_const, ne_eq, reduceIte, reduceCtorEq, Nat.reduceEqDiff, Nat.reduceAdd, Nat.reduceMul, Nat.reduceDiv, Nat.reduceLT, Nat.reduceSub, Nat.reduceLeDiff, Nat.reduceBNe, Nat.reduceBEq, Nat.reduceBeqDiff, List.range, List.range.loop, Zq, Tryd.ntmps60, Tryd.results60]
 simp only [gives]
theorem Zvs : Zs E 75 := by
 refine Zp hE hgl (show E.P.funcs[75]? = some Tryd.f75 from Tryd.func75) rfl (p := (Zer 60)) (fun _ _ _ => rfl) ?_
 intro args hv
 unfold Zer at hv ⊢
 split at hv
 case h_2 => exact hv.elim
 rename_i es h
 refine ⟨by simp, Nat.le_of_ble_eq_true rfl, ?_⟩
 simp only [Zk] at hv
 obtain ⟨rfl, l, rfl, hok, hl⟩ := hv
 obtain ⟨hI1, hI2⟩ := ZwB Zfj l
 simp (config := {dsimp := false}) only [↓Zr, vz, vn, nq, Zo, Zi, Zd, Zb, Zg, Za, Zh, Ze, Zj, Zf, if_true, if_false, implies_true, forall_const, ne_eq, reduceIte, reduceCtorEq, Nat.reduceEqDiff, Nat.reduceAdd, Nat.reduceMul, Nat.reduceDiv, Nat.reduceLT, Nat.reduceSub, Nat.reduceLeDiff, Nat.reduceBNe, Nat.reduceBEq, Nat.reduceBeqDiff, List.range, List.range.loop, Zq, Tryd.ntmps75, Tryd.results75]
 refine ZaO {k : Nat // k ≤ l.length ∧ ∀ j, j < k → Zfj (l.getD j default) = false} (fun k => [(8, .int .i64 (k.1 : Nat)), (7, .int .i64 (l.length : Nat)), (0, .sl .no 36 (Zbi l)), (1, .fn 60 [])]) (fun _ => ⟨[], [], 16⟩) (fun k => l.length - k.1) ⟨0, by simp⟩ (fun _ => rfl) ?_ ?_
 ·exact ⟨⟨Zc rfl, rfl, Zc rfl, rfl, Zc rfl, rfl, Zc rfl, rfl, trivial⟩, trivial, trivial⟩
 rintro ⟨k, hk, hb⟩
 simp (config := {dsimp := false}) only [↓Zr, vz, vn, nq, Zo, Zi, Zd, Zb, Zg, Za, Zh, Ze, Zj, Zf, if_true, if_false, implies_true, forall_const, ne_eq, reduceIte, reduceCtorEq, Nat.reduceEqDiff, Nat.reduceAdd, Nat.reduceMul, Nat.reduceDiv, Nat.reduceLT, Nat.reduceSub, Nat.reduceLeDiff, Nat.reduceBNe, Nat.reduceBEq, Nat.reduceBeqDiff, List.range, List.range.loop, Zq, Tryd.ntmps75, Tryd.results75]
 refine ⟨fun hh => ?_, fun hh => ?_⟩
 ·have hh := of_decide_eq_true hh
  have hk' : k < l.length := by omega
  have g1 := ZcM l k hk'
  cases hp : Zfj (l.getD k default)
  ·have hq : (!decide ((l.getD k default).seq = 4294967295)) = false := hp
   simp (config := {dsimp := false}) only [↓Zr, vz, vn, nq, Zo, Zi, Zd, Zb, Zg, Za, Zh, Ze, Zj, Zf, if_true, if_false, implies_true, forall_const, ne_eq, reduceIte, reduceCtorEq, Nat.reduceEqDiff, Nat.reduceAdd, Nat.reduceMul, Nat.reduceDiv, Nat.reduceLT, Nat.reduceSub, Nat.reduceLeDiff, Nat.reduceBNe, Nat.reduceBEq, Nat.reduceBeqDiff, List.range, List.range.loop, Zq, Tryd.ntmps75, Tryd.results75, PF.toR, gives, Zk, Int.toNat_natCast, g1, inD, hq, Zmn, Zf9, ZuP, ZuT]
   refine ⟨by omega, by omega, ⟨k + 1, by omega, fun j hj => ?_⟩, ⟨⟨Zc ?_, rfl, Zc rfl, rfl, Zc rfl, rfl, Zc rfl, rfl, trivial⟩, trivial, trivial⟩, by (try simp only); omega⟩
   ·rcases Nat.lt_or_ge j k with h7 | h7
    ·exact hb j h7
    ·obtain rfl : j = k := by omega
     exact hp
   ·exact ZX (by (try simp only); omega)
  ·have hq : (!decide ((l.getD k default).seq = 4294967295)) = true := hp
   simp (config := {dsimp := false}) only [↓Zr, vz, vn, nq, Zo, Zi, Zd, Zb, Zg, Za, Zh, Ze, Zj, Zf, if_true, if_false, implies_true, forall_const, ne_eq, reduceIte, reduceCtorEq, Nat.reduceEqDiff, Nat.reduceAdd, Nat.reduceMul, Nat.reduceDiv, Nat.reduceLT, Nat.reduceSub, Nat.reduceLeDiff, Nat.reduceBNe, Nat.reduceBEq, Nat.reduceBeqDiff, List.range, List.range.loop, Zq, Tryd.ntmps75, Tryd.results75, PF.toR, gives, Zk, Int.toNat_natCast, g1, inD, hq, ZcJ, hI1 k hk' hb hp, Zmn, Zf9, ZuP, ZuT]
   exact ⟨by omega, by omega⟩
 ·have hh := of_decide_eq_false hh
  obtain rfl : k = l.length := by omega
  simp (config := {dsimp := false}) only [↓Zr, vz, vn, nq, Zo, Zi, Zd, Zb, Zg, Za, Zh, Ze, Zj, Zf, if_true, if_false, implies_true, forall_const, ne_eq, reduceIte, reduceCtorEq, Nat.reduceEqDiff, Nat.reduceAdd, Nat.reduceMul, Nat.reduceDiv, Nat.reduceLT, Nat.reduceSub, Nat.reduceLeDiff, Nat.reduceBNe, Nat.reduceBEq, Nat.reduceBeqDiff, List.range, List.range.loop, Zq, Tryd.ntmps75, Tryd.results75, Zk, ZcJ, hI2 hb]
  all_goals rfl
theorem Zsq : Zs E 59 := by
 refine Zp hE hgl (show E.P.funcs[59]? = some Tryd.f59 from Tryd.func59) rfl (p := (Zeq 60)) (fun _ _ _ => rfl) ?_
 intro args hv
 unfold Zeq at hv ⊢
 split at hv
 case h_2 => exact hv.elim
 rename_i es h
 refine ⟨by simp, Nat.le_of_ble_eq_true rfl, ?_⟩
 simp only [Zk] at hv
 obtain ⟨rfl, l, rfl, hok, hl⟩ := hv
 simp (config := {dsimp := false}) only [↓Zr, vz, vn, nq, Zo, Zi, Zd, Zb, Zg, Za, Zh, Ze, Zj, Zf, if_true, if_false, implies_true, forall_const, ne_eq, reduceIte, reduceCtorEq, Nat.reduceEqDiff, Nat.reduceAdd, Nat.reduceMul, Nat.reduceDiv, Nat.reduceLT, Nat.reduceSub, Nat.reduceLeDiff, Nat.reduceBNe, Nat.reduceBEq, Nat.reduceBeqDiff, List.range, List.range.loop, Zq, Tryd.ntmps59, Tryd.results59, PF.toR, Zk, ZcJ, ZrV, Zoq, Zer, Zvs, ZuZ]
 exact ⟨_, rfl, hok, hl⟩
theorem ZjY {t : TxP} {h med : Int} (c1 : t.lock ≠ 0) (c2 : ¬ (t.lock < 500000000 ∧ t.lock < h)) (c3 : ¬ (500000000 ≤ t.lock ∧ t.lock < med)) : ZbU t h med = !t.ins.any Zfj := by
 unfold ZbU
 rw [decide_eq_false c1, ← Bool.decide_and, ← Bool.decide_and, decide_eq_false c2, decide_eq_false c3]
 rfl
theorem ZeF {t : TxP} {h med : Int} (c : t.lock = 0 ∨ (t.lock < 500000000 ∧ t.lock < h) ∨ (500000000 ≤ t.lock ∧ t.lock < med)) : ZbU t h med = true := by
 unfold ZbU
 rw [← Bool.decide_and, ← Bool.decide_and]
 rcases c with c | c | c <;> simp [c]
theorem ZmI : Zs E 37 := by
 refine Zp hE hgl (show E.P.funcs[37]? = some Tryd.f37 from Tryd.func37) rfl (p := Zba) (fun _ _ _ => rfl) ?_
 intro args hv
 unfold Zba at hv ⊢
 split at hv
 case h_2 => exact hv.elim
 rename_i v is os l blk h med
 refine ⟨by simp, Nat.le_of_ble_eq_true rfl, ?_⟩
 simp only [Zk] at hv
 obtain ⟨t, rfl, rfl, rfl, rfl, ht⟩ := hv
 rw [ZfJ]
 have hlk := ht.lock
 have hw : IntKind.wrap .i64 t.lock = t.lock := Zax (by have := hlk.1; omega) (by have := hlk.2; omega)
 by_cases c1 : t.lock = 0
 ·have d1 : decide (t.lock = 0) = true := decide_eq_true c1
  have hf := ZeF (h := h) (med := med) (.inl c1)
  simp (config := {dsimp := false}) only [↓Zr, vz, vn, nq, Zo, Zi, Zd, Zb, Zg, Za, Zh, Ze, Zj, Zf, if_true, if_false, implies_true, forall_const, ne_eq, reduceIte, reduceCtorEq, Nat.reduceEqDiff, Nat.reduceAdd, Nat.reduceMul, Nat.reduceDiv, Nat.reduceLT, Nat.reduceSub, Nat.reduceLeDiff, Nat.reduceBNe, Nat.reduceBEq, Nat.reduceBeqDiff, List.range, List.range.loop, Zq, Tryd.ntmps37, Tryd.results37, d1, hf, Zk]
  all_goals rfl
 have d1 : decide (t.lock = 0) = false := decide_eq_false c1
 have hIn : Zwd (Zbi t.ins) := ⟨_, rfl, ht.ins, ht.mi⟩
 by_cases c2 : t.lock < 500000000
 ·have d2 : decide (t.lock < 500000000) = true := decide_eq_true c2
  have d4 : decide ((500000000 : Int) ≤ t.lock) = false := decide_eq_false (by omega)
  by_cases c3 : t.lock < h
  ·have d3 : decide (t.lock < h) = true := decide_eq_true c3
   have hf := ZeF (med := med) (.inr (.inl ⟨c2, c3⟩))
   simp (config := {dsimp := false}) only [↓Zr, vz, vn, nq, Zo, Zi, Zd, Zb, Zg, Za, Zh, Ze, Zj, Zf, if_true, if_false, implies_true, forall_const, ne_eq, reduceIte, reduceCtorEq, Nat.reduceEqDiff, Nat.reduceAdd, Nat.reduceMul, Nat.reduceDiv, Nat.reduceLT, Nat.reduceSub, Nat.reduceLeDiff, Nat.reduceBNe, Nat.reduceBEq, Nat.reduceBeqDiff, List.range, List.range.loop, Zq, Tryd.ntmps37, Tryd.results37, d1, d2, hw, d3, hf, Zk]
   all_goals rfl
  ·have d3 : decide (t.lock < h) = false := decide_eq_false c3
   have hf := ZjY (h := h) (med := med) c1 (by omega) (by omega)
   simp (config := {dsimp := false}) only [↓Zr, vz, vn, nq, Zo, Zi, Zd, Zb, Zg, Za, Zh, Ze, Zj, Zf, if_true, if_false, implies_true, forall_const, ne_eq, reduceIte, reduceCtorEq, Nat.reduceEqDiff, Nat.reduceAdd, Nat.reduceMul, Nat.reduceDiv, Nat.reduceLT, Nat.reduceSub, Nat.reduceLeDiff, Nat.reduceBNe, Nat.reduceBEq, Nat.reduceBeqDiff, List.range, List.range.loop, Zq, Tryd.ntmps37, Tryd.results37, d1, d2, hw, d3, d4, hf, PF.toR, Zk, ZcJ, Zjx, Zeq, Zsq, ZsV]
   exact hIn
 ·have d2 : decide (t.lock < 500000000) = false := decide_eq_false c2
  have d4 : decide ((500000000 : Int) ≤ t.lock) = true := decide_eq_true (by omega)
  by_cases c3 : t.lock < med
  ·have d3 : decide (t.lock < med) = true := decide_eq_true c3
   have hf := ZeF (h := h) (.inr (.inr ⟨by omega, c3⟩))
   simp (config := {dsimp := false}) only [↓Zr, vz, vn, nq, Zo, Zi, Zd, Zb, Zg, Za, Zh, Ze, Zj, Zf, if_true, if_false, implies_true, forall_const, ne_eq, reduceIte, reduceCtorEq, Nat.reduceEqDiff, Nat.reduceAdd, Nat.reduceMul, Nat.reduceDiv, Nat.reduceLT, Nat.reduceSub, Nat.reduceLeDiff, Nat.reduceBNe, Nat.reduceBEq, Nat.reduceBeqDiff, List.range, List.range.loop, Zq, Tryd.ntmps37, Tryd.results37, d1, d2, hw, d4, d3, hf, Zk]
   all_goals rfl
  ·have d3 : decide (t.lock < med) = false := decide_eq_false c3
   have hf := ZjY (h := h) (med := med) c1 (by omega) (by omega)
   simp (config := {dsimp := false}) only [↓Zr, vz, vn, nq, Zo, Zi, Zd, Zb, Zg, Za, Zh, Ze, Zj, Zf, if_true, if_false, implies_true, forall_const, ne_eq, reduceIte, reduceCtorEq, Nat.reduceEqDiff, Nat.reduceAdd, Nat.reduceMul, Nat.reduceDiv, Nat.reduceLT, Nat.reduceSub, Nat.reduceLeDiff, Nat.reduceBNe, Nat.reduceBEq, Nat.reduceBeqDiff, List.range, List.range.loop, Zq, Tryd.ntmps37, Tryd.results37, d1, d2, hw, d3, d4, hf, PF.toR, Zk, ZcJ, Zjx, Zeq, Zsq, ZsV]
   exact hIn
end Go.Vi.CO
end

section
namespace Go.Vi.CO
open Go.Proofs
theorem Zkv : Zs E 38 := by
 refine Zp hE hgl (show E.P.funcs[38]? = some Tryd.f38 from Tryd.func38) rfl (p := Zba) (fun _ _ _ => rfl) ?_
 intro args hv
 unfold Zba at hv ⊢
 split at hv
 case h_2 => exact hv.elim
 rename_i v is os l blk h med
 refine ⟨by simp, Nat.le_of_ble_eq_true rfl, ?_⟩
 simp only [Zk] at hv
 obtain ⟨t, rfl, rfl, rfl, rfl, ht⟩ := hv
 rw [ZfJ]
 have hlk := ht.lock
 have hmi := ht.mi
 have hw : IntKind.wrap .i64 t.lock = t.lock := Zax (by have := hlk.1; omega) (by have := hlk.2; omega)
 by_cases c1 : t.lock = 0
 ·have d1 : decide (t.lock = 0) = true := decide_eq_true c1
  have hf := ZeF (h := h) (med := med) (.inl c1)
  simp (config := {dsimp := false}) only [↓Zr, vz, vn, nq, Zo, Zi, Zd, Zb, Zg, Za, Zh, Ze, Zj, Zf, if_true, if_false, implies_true, forall_const, ne_eq, reduceIte, reduceCtorEq, Nat.reduceEqDiff, Nat.reduceAdd, Nat.reduceMul, Nat.reduceDiv, Nat.reduceLT, Nat.reduceSub, Nat.reduceLeDiff, Nat.reduceBNe, Nat.reduceBEq, Nat.reduceBeqDiff, List.range, List.range.loop, Zq, Tryd.ntmps38, Tryd.results38, d1, hf, Zk]
  all_goals rfl
 have d1 : decide (t.lock = 0) = false := decide_eq_false c1
 by_cases cy : (t.lock < 500000000 ∧ t.lock < h) ∨ (500000000 ≤ t.lock ∧ t.lock < med)
 ·have hf := ZeF (h := h) (med := med) (.inr cy)
  by_cases c2 : t.lock < 500000000
  ·have d2 : decide (t.lock < 500000000) = true := decide_eq_true c2
   have d3 : decide (t.lock < h) = true := decide_eq_true (by omega)
   simp (config := {dsimp := false}) only [↓Zr, vz, vn, nq, Zo, Zi, Zd, Zb, Zg, Za, Zh, Ze, Zj, Zf, if_true, if_false, implies_true, forall_const, ne_eq, reduceIte, reduceCtorEq, Nat.reduceEqDiff, Nat.reduceAdd, Nat.reduceMul, Nat.reduceDiv, Nat.reduceLT, Nat.reduceSub, Nat.reduceLeDiff, Nat.reduceBNe, Nat.reduceBEq, Nat.reduceBeqDiff, List.range, List.range.loop, Zq, Tryd.ntmps38, Tryd.results38, d1, d2, hw, d3, hf, Zk]
   all_goals rfl
  ·have d2 : decide (t.lock < 500000000) = false := decide_eq_false c2
   have d3 : decide (t.lock < med) = true := decide_eq_true (by omega)
   simp (config := {dsimp := false}) only [↓Zr, vz, vn, nq, Zo, Zi, Zd, Zb, Zg, Za, Zh, Ze, Zj, Zf, if_true, if_false, implies_true, forall_const, ne_eq, reduceIte, reduceCtorEq, Nat.reduceEqDiff, Nat.reduceAdd, Nat.reduceMul, Nat.reduceDiv, Nat.reduceLT, Nat.reduceSub, Nat.reduceLeDiff, Nat.reduceBNe, Nat.reduceBEq, Nat.reduceBeqDiff, List.range, List.range.loop, Zq, Tryd.ntmps38, Tryd.results38, d1, d2, d3, hf, Zk]
   all_goals rfl
 have hf := ZjY (h := h) (med := med) c1 (by omega) (by omega)
 rcases (show (t.lock < 500000000 ∧ ¬ t.lock < h) ∨ (¬ t.lock < 500000000 ∧ ¬ t.lock < med) by omega) with ⟨q1, q2⟩ | ⟨q1, q2⟩
 ·have d2 : decide (t.lock < 500000000) = true := decide_eq_true q1
  have d3 : decide (t.lock < h) = false := decide_eq_false q2
  simp (config := {dsimp := false}) only [↓Zr, vz, vn, nq, Zo, Zi, Zd, Zb, Zg, Za, Zh, Ze, Zj, Zf, if_true, if_false, implies_true, forall_const, ne_eq, reduceIte, reduceCtorEq, Nat.reduceEqDiff, Nat.reduceAdd, Nat.reduceMul, Nat.reduceDiv, Nat.reduceLT, Nat.reduceSub, Nat.reduceLeDiff, Nat.reduceBNe, Nat.reduceBEq, Nat.reduceBeqDiff, List.range, List.range.loop, Zq, Tryd.ntmps38, Tryd.results38, d1, d2, hw, d3]
  refine ZaO {k : Nat // k ≤ t.ins.length ∧ ∀ j, j < k → Zfj (t.ins.getD j default) = false} (fun k => [(5, .int .i64 (k.1 : Nat)), (2, .bp 0 0)]) (fun _ => ⟨[(0, .agg [.int .u32 t.ver, .sl .no 36 (Zbi t.ins), .sl .no 2 (ZaJ t.outs), .int .u32 t.lock])], [], 64⟩) (fun k => t.ins.length - k.1) ⟨0, by simp⟩ (fun _ => rfl) ?_ ?_
  ·exact ⟨⟨Zc rfl, rfl, Zc rfl, rfl, trivial⟩, ⟨rfl, Nat.le_of_ble_eq_true rfl, rfl, trivial⟩, trivial⟩
  rintro ⟨k, hk, hb⟩
  simp (config := {dsimp := false}) only [↓Zr, vz, vn, nq, Zo, Zi, Zd, Zb, Zg, Za, Zh, Ze, Zj, Zf, if_true, if_false, implies_true, forall_const, ne_eq, reduceIte, reduceCtorEq, Nat.reduceEqDiff, Nat.reduceAdd, Nat.reduceMul, Nat.reduceDiv, Nat.reduceLT, Nat.reduceSub, Nat.reduceLeDiff, Nat.reduceBNe, Nat.reduceBEq, Nat.reduceBeqDiff, List.range, List.range.loop, Zq, Tryd.ntmps38, Tryd.results38, Zbc]
  refine ⟨fun hh => ?_, fun hh => ?_⟩
  ·have hh := of_decide_eq_true hh
   have hk' : k < t.ins.length := by omega
   have g1 := ZcM t.ins k hk'
   cases hp : Zfj (t.ins.getD k default)
   ·have hq : decide ((t.ins.getD k default).seq = 4294967295) = true := by simpa [Zfj] using hp
    simp (config := {dsimp := false}) only [↓Zr, vz, vn, nq, Zo, Zi, Zd, Zb, Zg, Za, Zh, Ze, Zj, Zf, if_true, if_false, implies_true, forall_const, ne_eq, reduceIte, reduceCtorEq, Nat.reduceEqDiff, Nat.reduceAdd, Nat.reduceMul, Nat.reduceDiv, Nat.reduceLT, Nat.reduceSub, Nat.reduceLeDiff, Nat.reduceBNe, Nat.reduceBEq, Nat.reduceBeqDiff, List.range, List.range.loop, Zq, Tryd.ntmps38, Tryd.results38, Int.toNat_natCast, g1, inD, hq, Zbc]
    refine ⟨by omega, by omega, ⟨k + 1, by omega, fun j hj => ?_⟩, ⟨⟨Zc ?_, rfl, Zc rfl, rfl, trivial⟩, ⟨rfl, Nat.le_of_ble_eq_true rfl, rfl, trivial⟩, trivial⟩, by (try simp only); omega⟩
    ·rcases Nat.lt_or_ge j k with h7 | h7
     ·exact hb j h7
     ·obtain rfl : j = k := by omega
      exact hp
    ·exact ZX (by (try simp only); omega)
   ·have hq : decide ((t.ins.getD k default).seq = 4294967295) = false := by simpa [Zfj] using hp
    have ha : t.ins.any Zfj = true := List.any_eq_true.2 ⟨_, ZS hk', hp⟩
    rw [ha] at hf
    simp (config := {dsimp := false}) only [↓Zr, vz, vn, nq, Zo, Zi, Zd, Zb, Zg, Za, Zh, Ze, Zj, Zf, if_true, if_false, implies_true, forall_const, ne_eq, reduceIte, reduceCtorEq, Nat.reduceEqDiff, Nat.reduceAdd, Nat.reduceMul, Nat.reduceDiv, Nat.reduceLT, Nat.reduceSub, Nat.reduceLeDiff, Nat.reduceBNe, Nat.reduceBEq, Nat.reduceBeqDiff, List.range, List.range.loop, Zq, Tryd.ntmps38, Tryd.results38, Int.toNat_natCast, g1, inD, hq, Zbc, hf, Zk]
    exact ⟨by omega, by omega⟩
  ·have hh := of_decide_eq_false hh
   obtain rfl : k = t.ins.length := by omega
   have ha : t.ins.any Zfj = false := by
    rw [List.any_eq_false]
    intro x hx
    obtain ⟨i, h1, rfl⟩ := List.getElem_of_mem hx
    have := hb i h1
    simpa [List.getD, h1] using this
   rw [ha] at hf
   simp (config := {dsimp := false}) only [↓Zr, vz, vn, nq, Zo, Zi, Zd, Zb, Zg, Za, Zh, Ze, Zj, Zf, if_true, if_false, implies_true, forall_const, ne_eq, reduceIte, reduceCtorEq, Nat.reduceEqDiff, Nat.reduceAdd, Nat.reduceMul, Nat.reduceDiv, Nat.reduceLT, Nat.reduceSub, Nat.reduceLeDiff, Nat.reduceBNe, Nat.reduceBEq, Nat.reduceBeqDiff, List.range, List.range.loop, Zq, Tryd.ntmps38, Tryd.results38, hf, Zk]
   all_goals rfl
 ·have d2 : decide (t.lock < 500000000) = false := decide_eq_false q1
  have d3 : decide (t.lock < med) = false := decide_eq_false q2
  simp (config := {dsimp := false}) only [↓Zr, vz, vn, nq, Zo, Zi, Zd, Zb, Zg, Za, Zh, Ze, Zj, Zf, if_true, if_false, implies_true, forall_const, ne_eq, reduceIte, reduceCtorEq, Nat.reduceEqDiff, Nat.reduceAdd, Nat.reduceMul, Nat.reduceDiv, Nat.reduceLT, Nat.reduceSub, Nat.reduceLeDiff, Nat.reduceBNe, Nat.reduceBEq, Nat.reduceBeqDiff, List.range, List.range.loop, Zq, Tryd.ntmps38, Tryd.results38, d1, d2, hw, d3]
  refine ZaO {k : Nat // k ≤ t.ins.length ∧ ∀ j, j < k → Zfj (t.ins.getD j default) = false} (fun k => [(5, .int .i64 (k.1 : Nat)), (2, .bp 0 0)]) (fun _ => ⟨[(0, .agg [.int .u32 t.ver, .sl .no 36 (Zbi t.ins), .sl .no 2 (ZaJ t.outs), .int .u32 t.lock])], [], 60⟩) (fun k => t.ins.length - k.1) ⟨0, by simp⟩ (fun _ => rfl) ?_ ?_
  ·exact ⟨⟨Zc rfl, rfl, Zc rfl, rfl, trivial⟩, ⟨rfl, Nat.le_of_ble_eq_true rfl, rfl, trivial⟩, trivial⟩
  rintro ⟨k, hk, hb⟩
  simp (config := {dsimp := false}) only [↓Zr, vz, vn, nq, Zo, Zi, Zd, Zb, Zg, Za, Zh, Ze, Zj, Zf, if_true, if_false, implies_true, forall_const, ne_eq, reduceIte, reduceCtorEq, Nat.reduceEqDiff, Nat.reduceAdd, Nat.reduceMul, Nat.reduceDiv, Nat.reduceLT, Nat.reduceSub, Nat.reduceLeDiff, Nat.reduceBNe, Nat.reduceBEq, Nat.reduceBeqDiff, List.range, List.range.loop, Zq, Tryd.ntmps38, Tryd.results38, Zbc]
  refine ⟨fun hh => ?_, fun hh => ?_⟩
  ·have hh := of_decide_eq_true hh
   have hk' : k < t.ins.length := by omega
   have g1 := ZcM t.ins k hk'
   cases hp : Zfj (t.ins.getD k default)
   ·have hq : decide ((t.ins.getD k default).seq = 4294967295) = true := by simpa [Zfj] using hp
    simp (config := {dsimp := false}) only [↓Zr, vz, vn, nq, Zo, Zi, Zd, Zb, Zg, Za, Zh, Ze, Zj, Zf, if_true, if_false, implies_true, forall_const, ne_eq, reduceIte, reduceCtorEq, Nat.reduceEqDiff, Nat.reduceAdd, Nat.reduceMul, Nat.reduceDiv, Nat.reduceLT, Nat.reduceSub, Nat.reduceLeDiff, Nat.reduceBNe, Nat.reduceBEq, Nat.reduceBeqDiff, List.range, List.range.loop, Zq, Tryd.ntmps38, Tryd.results38, Int.toNat_natCast, g1, inD, hq, Zbc]
    refine ⟨by omega, by omega, ⟨k + 1, by omega, fun j hj => ?_⟩, ⟨⟨Zc ?_, rfl, Zc rfl, rfl, trivial⟩, ⟨rfl, Nat.le_of_ble_eq_true rfl, rfl, trivial⟩, trivial⟩, by (try simp only); omega⟩
    ·rcases Nat.lt_or_ge j k with h7 | h7
     ·exact hb j h7
     ·obtain rfl : j = k := by omega
      exact hp
    ·exact ZX (by (try simp only); omega)
   ·have hq : decide ((t.ins.getD k default).seq = 4294967295) = false := by simpa [Zfj] using hp
    have ha : t.ins.any Zfj = true := List.any_eq_true.2 ⟨_, ZS hk', hp⟩
    rw [ha] at hf
    simp (config := {dsimp := false}) only [↓Zr, vz, vn, nq, Zo, Zi, Zd, Zb, Zg, Za, Zh, Ze, Zj, Zf, if_true, if_false, implies_true, forall_const, ne_eq, reduceIte, reduceCtorEq, Nat.reduceEqDiff, Nat.reduceAdd, Nat.reduceMul, Nat.reduceDiv, Nat.reduceLT, Nat.reduceSub, Nat.reduceLeDiff, Nat.reduceBNe, Nat.reduceBEq, Nat.reduceBeqDiff, List.range, List.range.loop, Zq, Tryd.ntmps38, Tryd.results38, Int.toNat_natCast, g1, inD, hq, Zbc, hf, Zk]
    exact ⟨by omega, by omega⟩
  ·have hh := of_decide_eq_false hh
   obtain rfl : k = t.ins.length := by omega
   have ha : t.ins.any Zfj = false := by
    rw [List.any_eq_false]
    intro x hx
    obtain ⟨i, h1, rfl⟩ := List.getElem_of_mem hx
    have := hb i h1
    simpa [List.getD, h1] using this
   rw [ha] at hf
   simp (config := {dsimp := false}) only [↓Zr, vz, vn, nq, Zo, Zi, Zd, Zb, Zg, Za, Zh, Ze, Zj, Zf, if_true, if_false, implies_true, forall_const, ne_eq, reduceIte, reduceCtorEq, Nat.reduceEqDiff, Nat.reduceAdd, Nat.reduceMul, Nat.reduceDiv, Nat.reduceLT, Nat.reduceSub, Nat.reduceLeDiff, Nat.reduceBNe, Nat.reduceBEq, Nat.reduceBeqDiff, List.range, List.range.loop, Zq, Tryd.ntmps38, Tryd.results38, hf, Zk]
   all_goals rfl
theorem ZxH : Zs E 33 := by
 refine Zp hE hgl (show E.P.funcs[33]? = some Tryd.f33 from Tryd.func33) rfl (p := Zfv) (fun _ _ _ => rfl) ?_
 intro args hv
 unfold Zfv at hv ⊢
 split at hv
 case h_2 => exact hv.elim
 rename_i blk h med
 refine ⟨by simp, Nat.le_of_ble_eq_true rfl, ?_⟩
 simp only [Zk] at hv
 simp (config := {dsimp := false}) only [↓Zr, vz, vn, nq, Zo, Zi, Zd, Zb, Zg, Za, Zh, Ze, Zj, Zf, if_true, if_false, implies_true, forall_const, ne_eq, reduceIte, reduceCtorEq, Nat.reduceEqDiff, Nat.reduceAdd, Nat.reduceMul, Nat.reduceDiv, Nat.reduceLT, Nat.reduceSub, Nat.reduceLeDiff, Nat.reduceBNe, Nat.reduceBEq, Nat.reduceBeqDiff, List.range, List.range.loop, Zq, Tryd.ntmps33, Tryd.results33, Zk]
 all_goals rfl
end Go.Vi.CO
end

section
namespace Go.Vi.CO
open Go.Proofs
theorem Zul {xs : List Int} (h : bytes xs) : bytes (Zd2 xs) := by
 unfold Zd2
 split
 ·exact Zs8 h (ZtO (by decide))
 ·exact h
theorem Zmo : ∀ (f n : Nat), bytes (ZeE f n)
 | 0, n => Zii
 | f + 1, n => by
  simp only [ZeE]
  split
  ·exact Zii
  ·intro x hx
   rcases List.mem_cons.1 hx with rfl | hx
   ·omega
   ·exact Zmo f _ x hx
theorem Zsp (xs : List Int) : (Zd2 xs).length ≤ xs.length + 1 := by
 unfold Zd2
 split <;> simp
theorem Zky (h : Int) : bytes (Za4 h) := by
 have h2 := Zsp (ZeE 8 h.toNat)
 have h3 := ZjT 8 h.toNat
 unfold Za4
 split
 ·exact Zii
 ·intro x hx
  rcases List.mem_cons.1 hx with rfl | hx
  ·omega
  ·exact Zul (Zmo _ _) x hx
theorem ZoW (h : Int) : (Za4 h).length ≤ 10 := by
 have h2 := Zsp (ZeE 8 h.toNat)
 have h3 := ZjT 8 h.toNat
 unfold Za4
 split
 ·simp
 ·simp only [List.length_cons]; omega
theorem ZeM {a b : List Int} : a.isPrefixOf b = decide (a.length ≤ b.length ∧ b.take a.length = a) := by
 rw [Bool.eq_iff_iff, List.isPrefixOf_iff_prefix, decide_eq_true_eq]
 constructor
 ·rintro ⟨c, rfl⟩
  simp
 ·rintro ⟨_, h⟩
  exact ⟨b.drop a.length, by conv => rhs; rw [← List.take_append_drop a.length b, h]⟩
theorem ZjR {l : List TxP} {h med : Int} {k : Nat} (hk : k < l.length) (hn : ZbU (l.getD k default) h med = false) : l.all (fun t => ZbU t h med) = false := List.all_eq_false.2 ⟨_, ZS hk, by rw [hn]; decide⟩
theorem ZiK {l : List TxP} {h med : Int} (hb : ∀ j, j < l.length → ZbU (l.getD j default) h med = true) : l.all (fun t => ZbU t h med) = true := Zja (p := fun t => ZbU t h med) hb
theorem Ztc : Zs E 28 := by
 refine Zp hE hgl (show E.P.funcs[28]? = some Tryd.f28 from Tryd.func28) rfl (p := Zbf) (fun _ _ _ => rfl) ?_
 intro args hv
 unfold Zbf at hv ⊢
 split at hv
 case h_2 => exact hv.elim
 rename_i h0 hp hr h1 h2 h3 es blk h med
 refine ⟨by simp, Nat.le_of_ble_eq_true rfl, ?_⟩
 simp only [Zk] at hv
 obtain ⟨hhd, ⟨⟨l, rfl, hok, hl⟩, hl2⟩, hi⟩ := hv
 simp only [Zht, Za8] at hl2 ⊢
 cases l with
 | nil =>
  simp (config := {dsimp := false}) only [↓Zr, vz, vn, nq, Zo, Zi, Zd, Zb, Zg, Za, Zh, Ze, Zj, Zf, if_true, if_false, implies_true, forall_const, ne_eq, reduceIte, reduceCtorEq, Nat.reduceEqDiff, Nat.reduceAdd, Nat.reduceMul, Nat.reduceDiv, Nat.reduceLT, Nat.reduceSub, Nat.reduceLeDiff, Nat.reduceBNe, Nat.reduceBEq, Nat.reduceBeqDiff, List.range, List.range.loop, Zq, Tryd.ntmps28, Tryd.results28, show ZaX [] = [] from rfl, List.length_nil, show decide (((0 : Nat) : Int) = 0) = true from rfl, ZdN, Zk]
  all_goals rfl
 | cons t r =>
  have e0 : decide (((r.length + 1 : Nat) : Int) = 0) = false := decide_eq_false (by omega)
  have glen : (ZaX (t :: r)).length = r.length + 1 := by simp [ZaX]
  have g0 : (ZaX (t :: r)).getD 0 .any = txD t := rfl
  have ht := hok t (List.mem_cons_self ..)
  have hmi := ht.mi
  obtain ⟨tv, ti, to, tl⟩ := t
  cases ti with
  | nil =>
   simp (config := {dsimp := false}) only [↓Zr, vz, vn, nq, Zo, Zi, Zd, Zb, Zg, Za, Zh, Ze, Zj, Zf, if_true, if_false, implies_true, forall_const, ne_eq, reduceIte, reduceCtorEq, Nat.reduceEqDiff, Nat.reduceAdd, Nat.reduceMul, Nat.reduceDiv, Nat.reduceLT, Nat.reduceSub, Nat.reduceLeDiff, Nat.reduceBNe, Nat.reduceBEq, Nat.reduceBeqDiff, List.range, List.range.loop, Zq, Tryd.ntmps28, Tryd.results28, glen, g0, e0, show Int.toNat 0 = 0 from rfl, txD, show Zbi [] = [] from rfl, List.length_nil, show decide (((0 : Nat) : Int) = 0) = true from rfl, ZdN, Zk]
   exact ⟨by omega, by omega⟩
  | cons x ri =>
   have hx := ht.ins x (List.mem_cons_self ..)
   have hxs := hx.script
   have g1 : (Zbi (x :: ri)).getD 0 .any = inD x := rfl
   have gl1 : (Zbi (x :: ri)).length = ri.length + 1 := by simp [Zbi]
   have e1 : decide (((ri.length + 1 : Nat) : Int) = 0) = false := decide_eq_false (by omega)
   have hc : ZdN (⟨tv, x :: ri, to, tl⟩ :: r) h med = if h < 0 ∨ Zb3 < h then 25 else if (Za4 h).isPrefixOf x.script = false then 25 else if (⟨tv, x :: ri, to, tl⟩ :: r : List TxP).all (fun t => ZbU t h med) = true then 0 else 26 := rfl
   have hr1 : r.length + 1 < 1000 := by simpa using hl2
   simp only [List.length_cons] at hmi
   by_cases q1 : h < 0
   ·have d1 : decide (h < 0) = true := decide_eq_true q1
    rw [if_pos (.inl q1)] at hc
    simp (config := {dsimp := false}) only [↓Zr, vz, vn, nq, Zo, Zi, Zd, Zb, Zg, Za, Zh, Ze, Zj, Zf, if_true, if_false, implies_true, forall_const, ne_eq, reduceIte, reduceCtorEq, Nat.reduceEqDiff, Nat.reduceAdd, Nat.reduceMul, Nat.reduceDiv, Nat.reduceLT, Nat.reduceSub, Nat.reduceLeDiff, Nat.reduceBNe, Nat.reduceBEq, Nat.reduceBeqDiff, List.range, List.range.loop, Zq, Tryd.ntmps28, Tryd.results28, glen, g0, g1, gl1, e0, e1, d1, hc, show Int.toNat 0 = 0 from rfl, txD, Zk]
    exact ⟨by omega, by omega⟩
   have d1 : decide (h < 0) = false := decide_eq_false q1
   by_cases q2 : Zb3 < h
   ·have d2 : decide (2147483647 < h) = true := decide_eq_true q2
    rw [if_pos (.inr q2)] at hc
    simp (config := {dsimp := false}) only [↓Zr, vz, vn, nq, Zo, Zi, Zd, Zb, Zg, Za, Zh, Ze, Zj, Zf, if_true, if_false, implies_true, forall_const, ne_eq, reduceIte, reduceCtorEq, Nat.reduceEqDiff, Nat.reduceAdd, Nat.reduceMul, Nat.reduceDiv, Nat.reduceLT, Nat.reduceSub, Nat.reduceLeDiff, Nat.reduceBNe, Nat.reduceBEq, Nat.reduceBeqDiff, List.range, List.range.loop, Zq, Tryd.ntmps28, Tryd.results28, glen, g0, g1, gl1, e0, e1, d1, d2, hc, show Int.toNat 0 = 0 from rfl, txD, Zk]
    exact ⟨by omega, by omega⟩
   have d2 : decide (2147483647 < h) = false := decide_eq_false q2
   rw [if_neg (by omega)] at hc
   simp (config := {dsimp := false}) only [↓Zr, vz, vn, nq, Zo, Zi, Zd, Zb, Zg, Za, Zh, Ze, Zj, Zf, if_true, if_false, implies_true, forall_const, ne_eq, reduceIte, reduceCtorEq, Nat.reduceEqDiff, Nat.reduceAdd, Nat.reduceMul, Nat.reduceDiv, Nat.reduceLT, Nat.reduceSub, Nat.reduceLeDiff, Nat.reduceBNe, Nat.reduceBEq, Nat.reduceBeqDiff, List.range, List.range.loop, Zq, Tryd.ntmps28, Tryd.results28, glen, g0, g1, gl1, e0, e1, d1, d2, show Int.toNat 0 = 0 from rfl, txD]
   refine ⟨by omega, by omega, ?_⟩
   refine ZcA [2, 3] (by kernel_rfl) ?_
   have hpl := ZoW h
   have hpb := Zky h
   simp (config := {dsimp := false}) only [↓Zr, vz, vn, nq, Zo, Zi, Zd, Zb, Zg, Za, Zh, Ze, Zj, Zf, if_true, if_false, implies_true, forall_const, ne_eq, reduceIte, reduceCtorEq, Nat.reduceEqDiff, Nat.reduceAdd, Nat.reduceMul, Nat.reduceDiv, Nat.reduceLT, Nat.reduceSub, Nat.reduceLeDiff, Nat.reduceBNe, Nat.reduceBEq, Nat.reduceBeqDiff, List.range, List.range.loop, Zq, Tryd.ntmps28, Tryd.results28, glen, g0, g1, gl1, show Int.toNat 0 = 0 from rfl, txD, inD, vb, ZhU, ZbV, ZvO, ZwS]
   refine ⟨hi, by omega, by omega, by omega, by omega, ?_⟩
   refine ZcA [2, 3, 5, 6] (by kernel_rfl) ?_
   by_cases q3 : x.script.length < (Za4 h).length
   ·have d3 : decide (((x.script.length : Nat) : Int) < (((Za4 h).length : Nat) : Int)) = true := decide_eq_true (by omega)
    rw [ZeM, decide_eq_false (fun q => absurd q.1 (by omega)), if_pos rfl] at hc
    simp (config := {dsimp := false}) only [↓Zr, vz, vn, nq, Zo, Zi, Zd, Zb, Zg, Za, Zh, Ze, Zj, Zf, if_true, if_false, implies_true, forall_const, ne_eq, reduceIte, reduceCtorEq, Nat.reduceEqDiff, Nat.reduceAdd, Nat.reduceMul, Nat.reduceDiv, Nat.reduceLT, Nat.reduceSub, Nat.reduceLeDiff, Nat.reduceBNe, Nat.reduceBEq, Nat.reduceBeqDiff, List.range, List.range.loop, Zq, Tryd.ntmps28, Tryd.results28, d3, hc, Zk]
   have d3 : decide (((x.script.length : Nat) : Int) < (((Za4 h).length : Nat) : Int)) = false := decide_eq_false (by omega)
   simp (config := {dsimp := false}) only [↓Zr, vz, vn, nq, Zo, Zi, Zd, Zb, Zg, Za, Zh, Ze, Zj, Zf, if_true, if_false, implies_true, forall_const, ne_eq, reduceIte, reduceCtorEq, Nat.reduceEqDiff, Nat.reduceAdd, Nat.reduceMul, Nat.reduceDiv, Nat.reduceLT, Nat.reduceSub, Nat.reduceLeDiff, Nat.reduceBNe, Nat.reduceBEq, Nat.reduceBeqDiff, List.range, List.range.loop, Zq, Tryd.ntmps28, Tryd.results28, d3]
   have hsl : List.drop (Int.toNat 0) (List.take (((Za4 h).length : Nat) : Int).toNat x.script) = x.script.take (Za4 h).length := by rw [Int.toNat_natCast]; rfl
   rw [hsl]
   refine ⟨by omega, by omega, by omega, by omega, fun hb => ?_, fun hb => ?_⟩
   ·have hne : x.script.take (Za4 h).length ≠ Za4 h := fun e => by rw [e] at hb; simp at hb
    rw [ZeM, decide_eq_false (fun q => hne q.2), if_pos rfl] at hc
    show D.int .i64 25 = D.int .i64 _
    rw [hc]
   have heq : x.script.take (Za4 h).length = Za4 h := by
    have hb' : strOfNums (x.script.take (Za4 h).length) = strOfNums (Za4 h) := by simpa using hb
    exact (Zu5 (fun y hy => hxs.1 y (List.mem_of_mem_take hy)) hpb).1 hb'
   rw [ZeM, decide_eq_true ⟨by omega, heq⟩, if_neg (by decide)] at hc
   have hlen : (⟨tv, x :: ri, to, tl⟩ :: r : List TxP).length = r.length + 1 := rfl
   generalize (⟨tv, x :: ri, to, tl⟩ :: r : List TxP) = l at *
   refine ZaO {k : Nat // k ≤ l.length ∧ ∀ j, j < k → ZbU (l.getD j default) h med = true} (fun k => [(61, .int .i64 (k.1 : Nat)), (60, .int .i64 (l.length : Nat)), (59, .sl .no 4 (ZaX l)), (3, .bp 4 0)]) (fun _ => ⟨[(4, .agg [.arr .u8 32 blk, .int .i64 h, .int .u32 med])], [], 232⟩) (fun k => l.length - k.1) ⟨0, by simp⟩ (fun _ => rfl) ?_ ?_
   ·refine ⟨⟨Zc rfl, rfl, Zc ?_, rfl, Zc rfl, rfl, Zc rfl, rfl, trivial⟩, ⟨rfl, Nat.le_of_ble_eq_true rfl, rfl, trivial⟩, trivial⟩
    rw [hlen]
    rfl
   rintro ⟨k, hk, hb2⟩
   simp (config := {dsimp := false}) only [↓Zr, vz, vn, nq, Zo, Zi, Zd, Zb, Zg, Za, Zh, Ze, Zj, Zf, if_true, if_false, implies_true, forall_const, ne_eq, reduceIte, reduceCtorEq, Nat.reduceEqDiff, Nat.reduceAdd, Nat.reduceMul, Nat.reduceDiv, Nat.reduceLT, Nat.reduceSub, Nat.reduceLeDiff, Nat.reduceBNe, Nat.reduceBEq, Nat.reduceBeqDiff, List.range, List.range.loop, Zq, Tryd.ntmps28, Tryd.results28]
   refine ⟨fun hh => ?_, fun hh => ?_⟩
   ·have hh := of_decide_eq_true hh
    have hk' : k < l.length := by omega
    have gk := Zho l k hk'
    have htk := hok _ (ZS hk')
    have hany := Zfg htk.any
    cases hp : ZbU (l.getD k default) h med
    ·rw [ZjR hk' hp, if_neg (by decide)] at hc
     simp (config := {dsimp := false}) only [↓Zr, vz, vn, nq, Zo, Zi, Zd, Zb, Zg, Za, Zh, Ze, Zj, Zf, if_true, if_false, implies_true, forall_const, ne_eq, reduceIte, reduceCtorEq, Nat.reduceEqDiff, Nat.reduceAdd, Nat.reduceMul, Nat.reduceDiv, Nat.reduceLT, Nat.reduceSub, Nat.reduceLeDiff, Nat.reduceBNe, Nat.reduceBEq, Nat.reduceBeqDiff, List.range, List.range.loop, Zq, Tryd.ntmps28, Tryd.results28, Int.toNat_natCast, gk, txD, PF.toR, Zk, ZfJ, ZcJ, Zbx, hp, hc, ZgW, Zba, ZmI, ZnB]
     exact ⟨by omega, by omega, hany⟩
    ·simp (config := {dsimp := false}) only [↓Zr, vz, vn, nq, Zo, Zi, Zd, Zb, Zg, Za, Zh, Ze, Zj, Zf, if_true, if_false, implies_true, forall_const, ne_eq, reduceIte, reduceCtorEq, Nat.reduceEqDiff, Nat.reduceAdd, Nat.reduceMul, Nat.reduceDiv, Nat.reduceLT, Nat.reduceSub, Nat.reduceLeDiff, Nat.reduceBNe, Nat.reduceBEq, Nat.reduceBeqDiff, List.range, List.range.loop, Zq, Tryd.ntmps28, Tryd.results28, Int.toNat_natCast, gk, txD, PF.toR, Zk, ZfJ, ZcJ, Zbx, hp, ZgW, Zba, ZmI, ZnB]
     refine ⟨by omega, by omega, hany, ⟨k + 1, by omega, fun j hj => ?_⟩, ⟨⟨Zc ?_, rfl, Zc rfl, rfl, Zc rfl, rfl, Zc rfl, rfl, trivial⟩, ⟨rfl, Nat.le_of_ble_eq_true rfl, rfl, trivial⟩, trivial⟩, by (try simp only); omega⟩
     ·rcases Nat.lt_or_ge j k with h7 | h7
      ·exact hb2 j h7
      ·obtain rfl : j = k := by omega
       exact hp
     ·exact ZX (by (try simp only); omega)
   ·have hh := of_decide_eq_false hh
    obtain rfl : k = l.length := by omega
    rw [ZiK hb2, if_pos rfl] at hc
    simp (config := {dsimp := false}) only [↓Zr, vz, vn, nq, Zo, Zi, Zd, Zb, Zg, Za, Zh, Ze, Zj, Zf, if_true, if_false, implies_true, forall_const, ne_eq, reduceIte, reduceCtorEq, Nat.reduceEqDiff, Nat.reduceAdd, Nat.reduceMul, Nat.reduceDiv, Nat.reduceLT, Nat.reduceSub, Nat.reduceLeDiff, Nat.reduceBNe, Nat.reduceBEq, Nat.reduceBeqDiff, List.range, List.range.loop, Zq, Tryd.ntmps28, Tryd.results28, hc, Zk]
    all_goals rfl
end Go.Vi.CO
end

section
namespace Go.Vi.CO
open Go.Proofs
theorem Zrd : Zs E 40 := by
 refine Zp hE hgl (show E.P.funcs[40]? = some Tryd.f40 from Tryd.func40) rfl (p := Zbf) (fun _ _ _ => rfl) ?_
 intro args hv
 unfold Zbf at hv ⊢
 split at hv
 case h_2 => exact hv.elim
 rename_i h0 hp hr h1 h2 h3 es blk h med
 refine ⟨by simp, Nat.le_of_ble_eq_true rfl, ?_⟩
 simp only [Zk] at hv
 obtain ⟨hhd, ⟨⟨l, rfl, hok, hl⟩, hl2⟩, hi⟩ := hv
 simp only [Zht, Za8] at hl2 ⊢
 cases l with
 | nil =>
  simp (config := {dsimp := false}) only [↓Zr, vz, vn, nq, Zo, Zi, Zd, Zb, Zg, Za, Zh, Ze, Zj, Zf, if_true, if_false, implies_true, forall_const, ne_eq, reduceIte, reduceCtorEq, Nat.reduceEqDiff, Nat.reduceAdd, Nat.reduceMul, Nat.reduceDiv, Nat.reduceLT, Nat.reduceSub, Nat.reduceLeDiff, Nat.reduceBNe, Nat.reduceBEq, Nat.reduceBeqDiff, List.range, List.range.loop, Zq, Tryd.ntmps40, Tryd.results40, show ZaX [] = [] from rfl, List.length_nil, show decide (((0 : Nat) : Int) = 0) = true from rfl, ZdN, Zk]
  all_goals rfl
 | cons t r =>
  have e0 : decide (((r.length + 1 : Nat) : Int) = 0) = false := decide_eq_false (by omega)
  have glen : (ZaX (t :: r)).length = r.length + 1 := by simp [ZaX]
  have g0 : (ZaX (t :: r)).getD 0 .any = txD t := rfl
  have ht := hok t (List.mem_cons_self ..)
  have hmi := ht.mi
  obtain ⟨tv, ti, to, tl⟩ := t
  cases ti with
  | nil =>
   simp (config := {dsimp := false}) only [↓Zr, vz, vn, nq, Zo, Zi, Zd, Zb, Zg, Za, Zh, Ze, Zj, Zf, if_true, if_false, implies_true, forall_const, ne_eq, reduceIte, reduceCtorEq, Nat.reduceEqDiff, Nat.reduceAdd, Nat.reduceMul, Nat.reduceDiv, Nat.reduceLT, Nat.reduceSub, Nat.reduceLeDiff, Nat.reduceBNe, Nat.reduceBEq, Nat.reduceBeqDiff, List.range, List.range.loop, Zq, Tryd.ntmps40, Tryd.results40, glen, g0, e0, show Int.toNat 0 = 0 from rfl, txD, show Zbi [] = [] from rfl, List.length_nil, show decide (((0 : Nat) : Int) = 0) = true from rfl, ZdN, Zk]
   exact ⟨by omega, by omega⟩
  | cons x ri =>
   have hx := ht.ins x (List.mem_cons_self ..)
   have hxs := hx.script
   have g1 : (Zbi (x :: ri)).getD 0 .any = inD x := rfl
   have gl1 : (Zbi (x :: ri)).length = ri.length + 1 := by simp [Zbi]
   have e1 : decide (((ri.length + 1 : Nat) : Int) = 0) = false := decide_eq_false (by omega)
   have hc : ZdN (⟨tv, x :: ri, to, tl⟩ :: r) h med = if h < 0 ∨ Zb3 < h then 25 else if (Za4 h).isPrefixOf x.script = false then 25 else if (⟨tv, x :: ri, to, tl⟩ :: r : List TxP).all (fun t => ZbU t h med) = true then 0 else 26 := rfl
   have hr1 : r.length + 1 < 1000 := by simpa using hl2
   simp only [List.length_cons] at hmi
   by_cases q1 : h < 0
   ·have d1 : decide (h < 0) = true := decide_eq_true q1
    rw [if_pos (.inl q1)] at hc
    simp (config := {dsimp := false}) only [↓Zr, vz, vn, nq, Zo, Zi, Zd, Zb, Zg, Za, Zh, Ze, Zj, Zf, if_true, if_false, implies_true, forall_const, ne_eq, reduceIte, reduceCtorEq, Nat.reduceEqDiff, Nat.reduceAdd, Nat.reduceMul, Nat.reduceDiv, Nat.reduceLT, Nat.reduceSub, Nat.reduceLeDiff, Nat.reduceBNe, Nat.reduceBEq, Nat.reduceBeqDiff, List.range, List.range.loop, Zq, Tryd.ntmps40, Tryd.results40, glen, g0, g1, gl1, e0, e1, d1, hc, show Int.toNat 0 = 0 from rfl, txD, Zk]
    exact ⟨by omega, by omega⟩
   have d1 : decide (h < 0) = false := decide_eq_false q1
   by_cases q2 : Zb3 < h
   ·have d2 : decide (2147483647 < h) = true := decide_eq_true q2
    rw [if_pos (.inr q2)] at hc
    simp (config := {dsimp := false}) only [↓Zr, vz, vn, nq, Zo, Zi, Zd, Zb, Zg, Za, Zh, Ze, Zj, Zf, if_true, if_false, implies_true, forall_const, ne_eq, reduceIte, reduceCtorEq, Nat.reduceEqDiff, Nat.reduceAdd, Nat.reduceMul, Nat.reduceDiv, Nat.reduceLT, Nat.reduceSub, Nat.reduceLeDiff, Nat.reduceBNe, Nat.reduceBEq, Nat.reduceBeqDiff, List.range, List.range.loop, Zq, Tryd.ntmps40, Tryd.results40, glen, g0, g1, gl1, e0, e1, d1, d2, hc, show Int.toNat 0 = 0 from rfl, txD, Zk]
    exact ⟨by omega, by omega⟩
   have d2 : decide (2147483647 < h) = false := decide_eq_false q2
   rw [if_neg (by omega)] at hc
   have hpl := ZoW h
   have hpb := Zky h
   by_cases q3 : x.script.length < (Za4 h).length
   ·have d3 : decide (((x.script.length : Nat) : Int) < (((Za4 h).length : Nat) : Int)) = true := decide_eq_true (by omega)
    rw [ZeM, decide_eq_false (fun q => absurd q.1 (by omega)), if_pos rfl] at hc
    simp (config := {dsimp := false}) only [↓Zr, vz, vn, nq, Zo, Zi, Zd, Zb, Zg, Za, Zh, Ze, Zj, Zf, if_true, if_false, implies_true, forall_const, ne_eq, reduceIte, reduceCtorEq, Nat.reduceEqDiff, Nat.reduceAdd, Nat.reduceMul, Nat.reduceDiv, Nat.reduceLT, Nat.reduceSub, Nat.reduceLeDiff, Nat.reduceBNe, Nat.reduceBEq, Nat.reduceBeqDiff, List.range, List.range.loop, Zq, Tryd.ntmps40, Tryd.results40, glen, g0, g1, gl1, e0, e1, d1, d2, show Int.toNat 0 = 0 from rfl, txD, inD, vb, d3, hc, Zk, Zfh, ZbV, Znv, ZmW]
    exact ⟨by omega, by omega, hi, by omega, by omega, by omega, by omega⟩
   have d3 : decide (((x.script.length : Nat) : Int) < (((Za4 h).length : Nat) : Int)) = false := decide_eq_false (by omega)
   simp (config := {dsimp := false}) only [↓Zr, vz, vn, nq, Zo, Zi, Zd, Zb, Zg, Za, Zh, Ze, Zj, Zf, if_true, if_false, implies_true, forall_const, ne_eq, reduceIte, reduceCtorEq, Nat.reduceEqDiff, Nat.reduceAdd, Nat.reduceMul, Nat.reduceDiv, Nat.reduceLT, Nat.reduceSub, Nat.reduceLeDiff, Nat.reduceBNe, Nat.reduceBEq, Nat.reduceBeqDiff, List.range, List.range.loop, Zq, Tryd.ntmps40, Tryd.results40, glen, g0, g1, gl1, e0, e1, d1, d2, show Int.toNat 0 = 0 from rfl, txD, inD, vb, d3, Zfh, ZbV, Znv, ZmW]
   refine ⟨by omega, by omega, hi, by omega, by omega, by omega, by omega, ?_⟩
   have hlen : (⟨tv, x :: ri, to, tl⟩ :: r : List TxP).length = r.length + 1 := rfl
   generalize hpu : Za4 h = pu at *
   generalize hsx : x.script = sx at *
   generalize (⟨tv, x :: ri, to, tl⟩ :: r : List TxP) = l at *
   refine ZaO {k : Nat // k ≤ pu.length ∧ ∀ j, j < k → sx.getD j 0 = pu.getD j 0} (fun k => [(7, .int .i64 (k.1 : Nat)), (6, .sli .no .u8 sx), (5, .sli .no .u8 pu), (2, .bp 0 0), (3, .bp 4 0)]) (fun _ => ⟨[(0, .agg [.agg [.int .u32 h0, .arr .u8 32 hp, .arr .u8 32 hr, .int .u32 h1, .int .u32 h2, .int .u32 h3], .sl .no 4 (ZaX l)]), (4, .agg [.arr .u8 32 blk, .int .i64 h, .int .u32 med])], [], 180⟩) (fun k => pu.length - k.1) ⟨0, by simp⟩ (fun _ => rfl) ?_ ?_
   ·exact ⟨⟨Zc rfl, rfl, Zc rfl, rfl, Zc rfl, rfl, Zc rfl, rfl, Zc rfl, rfl, trivial⟩, ⟨rfl, Nat.le_of_ble_eq_true rfl, rfl, rfl, Nat.le_of_ble_eq_true rfl, rfl, trivial⟩, trivial⟩
   rintro ⟨k, hk, hb⟩
   simp (config := {dsimp := false}) only [↓Zr, vz, vn, nq, Zo, Zi, Zd, Zb, Zg, Za, Zh, Ze, Zj, Zf, if_true, if_false, implies_true, forall_const, ne_eq, reduceIte, reduceCtorEq, Nat.reduceEqDiff, Nat.reduceAdd, Nat.reduceMul, Nat.reduceDiv, Nat.reduceLT, Nat.reduceSub, Nat.reduceLeDiff, Nat.reduceBNe, Nat.reduceBEq, Nat.reduceBeqDiff, List.range, List.range.loop, Zq, Tryd.ntmps40, Tryd.results40]
   refine ⟨fun hh => ?_, fun hh => ?_⟩
   ·have hh := of_decide_eq_true hh
    have hk' : k < pu.length := by omega
    refine ZcA [2, 3, 5, 6, 7] (by kernel_rfl) ?_
    by_cases hp : sx.getD k 0 = pu.getD k 0
    ·have hd : decide (sx.getD k 0 = pu.getD k 0) = true := decide_eq_true hp
     simp (config := {dsimp := false}) only [↓Zr, vz, vn, nq, Zo, Zi, Zd, Zb, Zg, Za, Zh, Ze, Zj, Zf, if_true, if_false, implies_true, forall_const, ne_eq, reduceIte, reduceCtorEq, Nat.reduceEqDiff, Nat.reduceAdd, Nat.reduceMul, Nat.reduceDiv, Nat.reduceLT, Nat.reduceSub, Nat.reduceLeDiff, Nat.reduceBNe, Nat.reduceBEq, Nat.reduceBeqDiff, List.range, List.range.loop, Zq, Tryd.ntmps40, Tryd.results40, Int.toNat_natCast, hd]
     refine ⟨by omega, by omega, by omega, by omega, ⟨k + 1, by omega, fun j hj => ?_⟩, ⟨⟨Zc ?_, rfl, Zc rfl, rfl, Zc rfl, rfl, Zc rfl, rfl, Zc rfl, rfl, trivial⟩, ⟨rfl, Nat.le_of_ble_eq_true rfl, rfl, rfl, Nat.le_of_ble_eq_true rfl, rfl, trivial⟩, trivial⟩, by (try simp only); omega⟩
     ·rcases Nat.lt_or_ge j k with h7 | h7
      ·exact hb j h7
      ·obtain rfl : j = k := by omega
       exact hp
     ·exact ZX (by (try simp only); omega)
    ·have hd : decide (sx.getD k 0 = pu.getD k 0) = false := decide_eq_false hp
     have hne : sx.take pu.length ≠ pu := fun e => hp (by
      have h8 : (sx.take pu.length).getD k 0 = sx.getD k 0 := by simp [List.getD, List.getElem?_take, hk']
      rw [← h8, e])
     rw [ZeM, decide_eq_false (fun q => hne q.2), if_pos rfl] at hc
     simp (config := {dsimp := false}) only [↓Zr, vz, vn, nq, Zo, Zi, Zd, Zb, Zg, Za, Zh, Ze, Zj, Zf, if_true, if_false, implies_true, forall_const, ne_eq, reduceIte, reduceCtorEq, Nat.reduceEqDiff, Nat.reduceAdd, Nat.reduceMul, Nat.reduceDiv, Nat.reduceLT, Nat.reduceSub, Nat.reduceLeDiff, Nat.reduceBNe, Nat.reduceBEq, Nat.reduceBeqDiff, List.range, List.range.loop, Zq, Tryd.ntmps40, Tryd.results40, Int.toNat_natCast, hd, hc, Zk]
     exact ⟨by omega, by omega, by omega, by omega⟩
   have hh := of_decide_eq_false hh
   obtain rfl : k = pu.length := by omega
   have heq : sx.take pu.length = pu := by
    apply List.ext_getElem (by simp; omega)
    intro j j1 j2
    have := hb j j2
    simp only [List.getD, List.getElem?_eq_getElem j2, List.getElem?_eq_getElem (show j < sx.length by omega), Option.getD_some] at this
    simpa using this
   rw [ZeM, decide_eq_true ⟨by omega, heq⟩, if_neg (by decide)] at hc
   refine ZaO {k : Nat // k ≤ l.length ∧ ∀ j, j < k → ZbU (l.getD j default) h med = true} (fun k => [(8, .int .i64 (k.1 : Nat)), (2, .bp 0 0), (3, .bp 4 0)]) (fun _ => ⟨[(0, .agg [.agg [.int .u32 h0, .arr .u8 32 hp, .arr .u8 32 hr, .int .u32 h1, .int .u32 h2, .int .u32 h3], .sl .no 4 (ZaX l)]), (4, .agg [.arr .u8 32 blk, .int .i64 h, .int .u32 med])], [], 200⟩) (fun k => l.length - k.1) ⟨0, by simp⟩ (fun _ => rfl) ?_ ?_
   ·exact ⟨⟨Zc rfl, rfl, Zc rfl, rfl, Zc rfl, rfl, trivial⟩, ⟨rfl, Nat.le_of_ble_eq_true rfl, rfl, rfl, Nat.le_of_ble_eq_true rfl, rfl, trivial⟩, trivial⟩
   rintro ⟨k, hk, hb2⟩
   simp (config := {dsimp := false}) only [↓Zr, vz, vn, nq, Zo, Zi, Zd, Zb, Zg, Za, Zh, Ze, Zj, Zf, if_true, if_false, implies_true, forall_const, ne_eq, reduceIte, reduceCtorEq, Nat.reduceEqDiff, Nat.reduceAdd, Nat.reduceMul, Nat.reduceDiv, Nat.reduceLT, Nat.reduceSub, Nat.reduceLeDiff, Nat.reduceBNe, Nat.reduceBEq, Nat.reduceBeqDiff, List.range, List.range.loop, Zq, Tryd.ntmps40, Tryd.results40, Za8]
   refine ⟨fun hh => ?_, fun hh => ?_⟩
   ·have hh := of_decide_eq_true hh
    have hk' : k < l.length := by omega
    have gk := Zho l k hk'
    have htk := hok _ (ZS hk')
    have hany := Zfg htk.any
    refine ZcA [2, 3, 8] (by kernel_rfl) ?_
    cases hp : ZbU (l.getD k default) h med
    ·rw [ZjR hk' hp, if_neg (by decide)] at hc
     simp (config := {dsimp := false}) only [↓Zr, vz, vn, nq, Zo, Zi, Zd, Zb, Zg, Za, Zh, Ze, Zj, Zf, if_true, if_false, implies_true, forall_const, ne_eq, reduceIte, reduceCtorEq, Nat.reduceEqDiff, Nat.reduceAdd, Nat.reduceMul, Nat.reduceDiv, Nat.reduceLT, Nat.reduceSub, Nat.reduceLeDiff, Nat.reduceBNe, Nat.reduceBEq, Nat.reduceBeqDiff, List.range, List.range.loop, Zq, Tryd.ntmps40, Tryd.results40, Int.toNat_natCast, gk, txD, PF.toR, Zk, ZfJ, ZcJ, Zbx, Za8, hp, hc, ZfY, Zba, Zkv, ZjL]
     exact ⟨by omega, by omega, hany⟩
    ·simp (config := {dsimp := false}) only [↓Zr, vz, vn, nq, Zo, Zi, Zd, Zb, Zg, Za, Zh, Ze, Zj, Zf, if_true, if_false, implies_true, forall_const, ne_eq, reduceIte, reduceCtorEq, Nat.reduceEqDiff, Nat.reduceAdd, Nat.reduceMul, Nat.reduceDiv, Nat.reduceLT, Nat.reduceSub, Nat.reduceLeDiff, Nat.reduceBNe, Nat.reduceBEq, Nat.reduceBeqDiff, List.range, List.range.loop, Zq, Tryd.ntmps40, Tryd.results40, Int.toNat_natCast, gk, txD, PF.toR, Zk, ZfJ, ZcJ, Zbx, Za8, hp, ZfY, Zba, Zkv, ZjL]
     refine ⟨by omega, by omega, hany, ⟨k + 1, by omega, fun j hj => ?_⟩, ⟨⟨Zc ?_, rfl, Zc rfl, rfl, Zc rfl, rfl, trivial⟩, ⟨rfl, Nat.le_of_ble_eq_true rfl, rfl, rfl, Nat.le_of_ble_eq_true rfl, rfl, trivial⟩, trivial⟩, by (try simp only); omega⟩
     ·rcases Nat.lt_or_ge j k with h7 | h7
      ·exact hb2 j h7
      ·obtain rfl : j = k := by omega
       exact hp
     ·exact ZX (by (try simp only); omega)
   ·have hh := of_decide_eq_false hh
    obtain rfl : k = l.length := by omega
    rw [ZiK hb2, if_pos rfl] at hc
    simp (config := {dsimp := false}) only [↓Zr, vz, vn, nq, Zo, Zi, Zd, Zb, Zg, Za, Zh, Ze, Zj, Zf, if_true, if_false, implies_true, forall_const, ne_eq, reduceIte, reduceCtorEq, Nat.reduceEqDiff, Nat.reduceAdd, Nat.reduceMul, Nat.reduceDiv, Nat.reduceLT, Nat.reduceSub, Nat.reduceLeDiff, Nat.reduceBNe, Nat.reduceBEq, Nat.reduceBeqDiff, List.range, List.range.loop, Zq, Tryd.ntmps40, Tryd.results40, hc, Zk]
    all_goals rfl
end Go.Vi.CO
end

section
namespace Go.Vi.CO
open Go.Proofs
theorem Znm : Zs E 9 := by
 refine Zp hE hgl (show E.P.funcs[9]? = some Tryd.f9 from Tryd.func9) rfl (p := ZbF) (fun _ _ _ => rfl) ?_
 intro args hv
 unfold ZbF at hv ⊢
 split at hv
 case h_2 => exact hv.elim
 rename_i a0 a1 a2 a3 a4 a5 b0 b1 b2 b3 halv sub b4 b5 b6 b7 blk h med cs h0 hp hr h1 h2 h3 es v is os l
 refine ⟨by simp, Nat.le_of_ble_eq_true rfl, ?_⟩
 simp only [Zk] at hv
 obtain ⟨⟨hsub, hhalv⟩, ⟨hbl, hi⟩, ⟨hhd, hes⟩, hany⟩ := hv
 obtain ⟨t, rfl, rfl, rfl, rfl, ht⟩ := hany
 obtain ⟨ts, rfl, hok, hl⟩ := hes
 have hTW : Zk3 (ZaX ts) := ⟨ts, rfl, hok, hl⟩
 cases hs : ZdW ts
 ·simp (config := {dsimp := false}) only [↓Zr, vz, vn, nq, Zo, Zi, Zd, Zb, Zg, Za, Zh, Ze, Zj, Zf, if_true, if_false, implies_true, forall_const, ne_eq, reduceIte, reduceCtorEq, Nat.reduceEqDiff, Nat.reduceAdd, Nat.reduceMul, Nat.reduceDiv, Nat.reduceLT, Nat.reduceSub, Nat.reduceLeDiff, Nat.reduceBNe, Nat.reduceBEq, Nat.reduceBeqDiff, List.range, List.range.loop, Zq, Tryd.ntmps9, Tryd.results9, PF.toR, Zk, Zht, hs, vb, ZaB, Zki, ZeC, Zsz, Zss, Zg1, ZaB, Zsm, Zri]
  exact ⟨hhd, hTW⟩
 obtain ⟨hok2, h8⟩ := ZyX hok hs
 have hTL : ZwF (ZaX ts) := ⟨ts, rfl, hok2, by omega⟩
 have hl1000 : (ZaX ts).length < 1000 := by rw [Za8]; omega
 simp (config := {dsimp := false}) only [↓Zr, vz, vn, nq, Zo, Zi, Zd, Zb, Zg, Za, Zh, Ze, Zj, Zf, if_true, if_false, implies_true, forall_const, ne_eq, reduceIte, reduceCtorEq, Nat.reduceEqDiff, Nat.reduceAdd, Nat.reduceMul, Nat.reduceDiv, Nat.reduceLT, Nat.reduceSub, Nat.reduceLeDiff, Nat.reduceBNe, Nat.reduceBEq, Nat.reduceBeqDiff, List.range, List.range.loop, Zq, Tryd.ntmps9, Tryd.results9, PF.toR, Zk, Zht, hs, vb, Zki, ZeC, Zsz, Zss, Zq7, Zfv, ZxH, Zxe]
 refine ⟨hhd, hTW, hbl, ?_⟩
 refine ZcA [3, 4, 5, 7] (by kernel_rfl) ?_
 simp (config := {dsimp := false}) only [↓Zr, vz, vn, nq, Zo, Zi, Zd, Zb, Zg, Za, Zh, Ze, Zj, Zf, if_true, if_false, implies_true, forall_const, ne_eq, reduceIte, reduceCtorEq, Nat.reduceEqDiff, Nat.reduceAdd, Nat.reduceMul, Nat.reduceDiv, Nat.reduceLT, Nat.reduceSub, Nat.reduceLeDiff, Nat.reduceBNe, Nat.reduceBEq, Nat.reduceBeqDiff, List.range, List.range.loop, Zq, Tryd.ntmps9, Tryd.results9, PF.toR, Zk, Zht, ZfJ, ZcJ, Zbx, vb, decide_true, beq_self_eq_true, bne_self_eq_false, ZhU, ZbV, ZvO, ZwS, Zfh, ZbV, Znv, ZmW, ZgW, Zba, ZmI, ZnB, ZfY, Zba, Zkv, ZjL]
 refine ⟨hi, hi, Zfg ht, Zfg ht, ?_⟩
 refine ZcA [3, 4, 5, 7] (by kernel_rfl) ?_
 simp (config := {dsimp := false}) only [↓Zr, vz, vn, nq, Zo, Zi, Zd, Zb, Zg, Za, Zh, Ze, Zj, Zf, if_true, if_false, implies_true, forall_const, ne_eq, reduceIte, reduceCtorEq, Nat.reduceEqDiff, Nat.reduceAdd, Nat.reduceMul, Nat.reduceDiv, Nat.reduceLT, Nat.reduceSub, Nat.reduceLeDiff, Nat.reduceBNe, Nat.reduceBEq, Nat.reduceBeqDiff, List.range, List.range.loop, Zq, Tryd.ntmps9, Tryd.results9, PF.toR, Zk, Zht, ZfJ, ZcJ, Zbx, vb, decide_true, beq_self_eq_true, bne_self_eq_false, Ze1, ZaQ, Zie, ZhX, ZkL, ZaQ, Zp3, Zqx, Zm1, Zbf, Ztc, Zti, ZkH, Zbf, Zrd, Zqn, Zg1, ZaB, Zsm, Zri, ZaB]
 exact ⟨hsub, hi, hsub, hi, hhd, hTL, by omega, hi⟩
end Go.Vi.CO
end

section
namespace Go.Proofs.YtnjepgcjlgglhaaDoor
open Go.ChangeShapes Go.WideShapes Go.RowKit Go.Vi Go.Vi.CO
theorem Tryd.own : ownKnob Tryd.prog.godebug = none := by kernel_rfl
theorem Tryd.laidOut : laidOutB Tryd.prog = true := by kernel_rfl
theorem ZkJ {W : World} (h : laidMetH Tryd.prog [("spinney/sha.roundNumbers", Rows.laid_spinney_sha_roundNumbers)] W) : ZM Go.Vi.CO.E (g0 W) W := by
 rw [MakeChecks.laidMetH_plain _ _ _ (by kernel_rfl)] at h
 obtain ⟨ps, ⟨g, t, cs, fuel, p, q, hg, ht, hv, hd, _, _⟩, _, _⟩ := h
 obtain rfl := Option.some.inj ((show Tryd.prog.globalNamed "spinney/sha.roundNumbers" = some 0 by kernel_rfl).symm.trans hg)
 obtain rfl := Option.some.inj ((show (Tryd.prog.globals[0]?).map (·.type) = some 194 by kernel_rfl).symm.trans ht)
 obtain ⟨xs, m, _, ex, hcl, hl, hel⟩ := DataW.trod_array Tryd.underlying194 hd
 have c5 : Tryd.prog.cellsOf 41 = 1 := by kernel_rfl
 have hlen : Zdd.length = 64 := by decide
 have e3 : (xs.map (·.1)) = Zdd.map fun n => .lit (.int .u32 n) :=
  (DataW.agg.inj (Prod.mk.inj ex).1).symm
 have cell : ∀ r, r < 64 → cs.toList[r]? = some (.int .u32 (Zdd.getD r 0)) := by
  intro r hr
  have hE := hel r hr
  rw [c5, Nat.mul_one, List.getElem?_eq_getElem (by omega)] at hE
  obtain ⟨z, e1, e2, _⟩ := DataW.trod_int Tryd.underlying41 hE
  have e4 : (xs.map (·.1))[r]? = (Zdd.map fun n => (DataW.lit (.int .u32 n) : DataW Unit))[r]? := by rw [e3]
  rw [List.getElem?_map, List.getElem?_map, List.getElem?_eq_getElem (by omega : r < xs.length), List.getElem?_eq_getElem (by omega : r < Zdd.length), e2] at e4
  have hz : z = Zdd.getD r 0 := by
   simp only [Option.map_some, Option.some.injEq, DataW.lit.injEq, Lit.int.injEq, true_and] at e4
   rw [e4, List.getD, List.getElem?_eq_getElem (by omega : r < Zdd.length)]; rfl
  rw [← hz]
  have h0 : ((cs.toList.drop r).take 1)[0]? = some (.int .u32 z) := by rw [e1]; rfl
  simpa using h0
 have at0 : At W 0 0 (ints .u32 Zdd) := by
  intro i v hi
  simp only [ints, List.getElem?_map, Option.map_eq_some_iff] at hi
  obtain ⟨z, hz, rfl⟩ := hi
  have hil : i < 64 := by
   have := (List.getElem?_eq_some_iff.1 hz).1
   omega
  have := cell i hil
  rw [List.getD_eq_getElem?_getD, hz] at this
  rw [Nat.zero_add, World.var?_cell hg hv i]
  simpa using this
 intro i d hi
 change glC i = some d at hi
 unfold glC at hi
 split at hi <;> cases hi
 refine ⟨0, 0, ints .u32 Zdd, rfl, ⟨hlen, rfl⟩, ?_, at0⟩
 have := at0 63 _ (by rw [ints, List.getElem?_map, List.getElem?_eq_getElem (by omega : 63 < Zdd.length)]; rfl)
 have := Zsj this
 show 0 + (ints .u32 Zdd).length ≤ Zak W 0
 simp only [ints, List.length_map, hlen]
 omega
end Go.Proofs.YtnjepgcjlgglhaaDoor
end
