/- Lemmas for the law proved in the text whose name ends with Law. -/
import Derived.Test.YtnjepgcjlgglhaaDoorCH5
import Derived.Test.YtnjepgcjlgglhaaDoorTie
import Derived.Test.YtnjepgcjlgglhaaDoorCards
import Derived.SevenTiedAt
set_option linter.unusedVariables false
set_option linter.unnecessarySimpa false
set_option linter.unusedSimpArgs false
set_option maxHeartbeats 0
set_option maxRecDepth 20000
section
namespace Go.Vi.CO
open Go.Proofs
noncomputable def Zp1 : Code := (Tryd.f71.body).getD .skip
structure RunOk (h : Int) (st : GoP) : Prop where
 len : st.left.length = st.made.length
 made : ∀ c ∈ st.made, c.Ok ∧ c.h = h
 spent : ∀ c ∈ st.spent, c.Ok
theorem Zm1 {G : PtP → Option CoinP} (hG : ∀ o c, G o = some c → c.pt = o ∧ c.Ok) {h : Int} (hh : 0 ≤ h ∧ h ≤ ZcK) {st : GoP} (hr : RunOk h st) (o : PtP) :
  RunOk h (Zaw G st o).1 ∧ (Zaw G st o).1.made = st.made ∧ (Zaw G st o).1.spent.length ≤ st.spent.length + 1 ∧ (Zaw G st o).1.fees = st.fees ∧ ∀ c, (Zaw G st o).2 = some c → c.Ok ∧ 0 ≤ c.h ∧ c.h ≤ ZcK := by
 unfold Zaw
 cases hl : ZbG st.made st.left o with
 | some i =>
  obtain ⟨h1, h2, h3⟩ := Zcp hl
  have hm := hr.made _ (ZaI h1)
  refine ⟨⟨by simpa using hr.len, hr.made, hr.spent⟩, rfl, Nat.le_succ _, rfl, fun c hc => ?_⟩
  simp only [Option.some.injEq] at hc
  subst hc
  exact ⟨hm.1, by rw [hm.2]; exact hh.1, by rw [hm.2]; exact hh.2⟩
 | none =>
  simp only
  split
  ·exact ⟨hr, rfl, Nat.le_succ _, rfl, fun c hc => by cases hc⟩
  ·cases hg : G o with
   | none => exact ⟨hr, rfl, Nat.le_succ _, rfl, fun c hc => by cases hc⟩
   | some c =>
    simp only
    split
    ·exact ⟨hr, rfl, Nat.le_succ _, rfl, fun c hc => by cases hc⟩
    ·rename_i hb
     have hc := hG o c hg
     refine ⟨⟨hr.len, hr.made, fun x hx => ?_⟩, rfl, by simp, rfl, fun x hx => ?_⟩
     ·rcases List.mem_append.1 hx with hx | hx
      ·exact hr.spent x hx
      ·simp at hx; subst hx; exact hc.2
     ·simp only [Option.some.injEq] at hx
      subst hx
      exact ⟨hc.2, by omega, by omega⟩
theorem Zo5 {G : PtP → Option CoinP} {h mat : Int} {l : List InP} {k : Nat} (hk : k < l.length) (s : Int) (g : GoP) : Z6 G h mat (l.drop k) s g = (match Zaw G g ((l.getD k default).prev, (l.getD k default).ix) with
  | (g', none) => (g', 0, 30)
  | (g', some c) =>
   if c.base = true ∧ h - c.h < mat then (g', 0, 31) else
   if c.v < 0 ∨ Zbl < c.v ∨ Zbl < s + c.v then (g', 0, 32) else Z6 G h mat (l.drop (k + 1)) (s + c.v) g') := by
 rw [List.drop_eq_getElem_cons hk, show l.getD k default = l[k] by simp [List.getD, hk]]
 rfl
structure InIdx (G : PtP → Option CoinP) (h mat : Int) (t : TxP) (st : GoP) (k : Nat) (s : Int) (g : GoP) : Prop where
 le : k ≤ t.ins.length
 run : RunOk h g
 s0 : 0 ≤ s
 s1 : s ≤ Zbl
 rest : Z6 G h mat t.ins 0 st = Z6 G h mat (t.ins.drop k) s g
 emade : g.made = st.made
 espent : g.spent.length ≤ st.spent.length + k
 efees : g.fees = st.fees
theorem ZnA {t : TxP} (ht : t.Ok) (hmi : t.ins.length ≤ 1000) {blk : List Int} (h med mat : Int) (hh : 0 ≤ h ∧ h ≤ ZcK) (gv : Value) (hgv : Zz (.raw gv) = true) (bT bO : Nat) (G : PtP → Option CoinP) (hG : ∀ o c, G o = some c → c.pt = o ∧ c.Ok) (st : GoP) (lv : Value) (hlv : Zz (.raw lv) = true) (hr : RunOk h st) (hm : st.made.length ≤ 1000000) (hs : st.spent.length ≤ 900000)
  (M : Nat → Prop) (g1 : Gh) (w0 : World) (hl : Low 8 g1) :
  GM M (HS E.P 43 gF (ZaC M w0) G bT bO gv lv st) E Tryd.f71.ntmps g1 w0 (Zcw M E Tryd.f71 g1 w0 1 2 (fun _ : Unit => goB blk h med mat gv bT bO (.tup [.int .i64 (Z6 G h mat t.ins 0 st).2.1, .int .i64 (Z6 G h mat t.ins 0 st).2.2]) lv (Z6 G h mat t.ins 0 st).1) (fun _ => HS E.P 43 gF (ZaC M w0) G bT bO gv lv (Z6 G h mat t.ins 0 st).1))
   Zp1 [(0, .bp 0 0), (1, txD t)] ⟨[(0, goD blk h med mat gv bT bO st.made lv st.spent st.fees)], [(0, (st.made.length, 69)), (1, (st.spent.length, 69))], 8⟩ := by
 generalize hP : Zcw M E Tryd.f71 g1 w0 1 2 _ _ = Post
 unfold Zp1
 simp only [Tryd.f71, Option.getD_some]
 refine ZS hE ZE hl rfl (Nat.le_refl _) ?_
 simp (config := {dsimp := false}) only [↓Zt, vz, vn, nq, Zp, Zh, Zd, Zb, Zg, Za, Zi, Ze, Zj, Zf, if_true, if_false, implies_true, forall_const, ne_eq, reduceIte, reduceCtorEq, Nat.reduceEqDiff, Nat.reduceAdd, Nat.reduceMul, Nat.reduceDiv, Nat.reduceLT, Nat.reduceSub, Nat.reduceLeDiff, Nat.reduceBNe, Nat.reduceBEq, Nat.reduceBeqDiff, List.range, List.range.loop, Zu, Tryd.ntmps71, Tryd.results71, txD]
 refine gmk (Z5 (ZS hE ZE hl rfl (Nat.le_of_ble_eq_true rfl) ?_))
 simp (config := {dsimp := false}) only [↓Zt, vz, vn, nq, Zp, Zh, Zd, Zb, Zg, Za, Zi, Ze, Zj, Zf, if_true, if_false, implies_true, forall_const, ne_eq, reduceIte, reduceCtorEq, Nat.reduceEqDiff, Nat.reduceAdd, Nat.reduceMul, Nat.reduceDiv, Nat.reduceLT, Nat.reduceSub, Nat.reduceLeDiff, Nat.reduceBNe, Nat.reduceBEq, Nat.reduceBeqDiff, List.range, List.range.loop, Zu, Tryd.ntmps71, Tryd.results71, txD, Zfm]
 refine gmk (Zbn ?_)
 refine ZfE hl (ι := {p : Nat × Int × GoP // InIdx G h mat t st p.1 p.2.1 p.2.2})
  (fun p => [(0, .bp 0 0), (3, .bp 8 0), (4, .int .i64 p.1.2.1), (5, .int .i64 0), (11, .sl .no 36 (Zct t.ins)), (12, .int .i64 (t.ins.length : Nat)), (13, .int .i64 (p.1.1 : Nat))])
  (fun p => ⟨[(0, goD blk h med mat gv bT bO p.1.2.2.made lv p.1.2.2.spent p.1.2.2.fees)], [(0, (p.1.2.2.made.length, 69)), (1, (p.1.2.2.spent.length, 69))], 36⟩)
  (fun p => HS E.P 43 gF (ZaC M w0) G bT bO gv lv p.1.2.2) (fun _ => ZE) (fun p => t.ins.length - p.1.1) ⟨(0, 0, st), ⟨Nat.zero_le _, hr, Int.le_refl _, by show (0 : Int) ≤ 2100000000000000; omega, rfl, rfl, Nat.le_refl _, rfl⟩⟩ (Nat.le_of_ble_eq_true rfl) (fun _ _ h => h) ⟨⟨Zc rfl, rfl, Zc rfl, rfl, Zc rfl, rfl, Zc rfl, rfl, Zc rfl, rfl, Zc rfl, rfl, Zc rfl, rfl, trivial⟩, ⟨rfl, Nat.le_of_ble_eq_true rfl, rfl, trivial⟩, ⟨rfl, Nat.le_of_ble_eq_true rfl, rfl, Nat.le_of_ble_eq_true rfl, trivial⟩⟩ ?_
 rintro ⟨⟨k, s, g⟩, hk⟩
 simp only at hk ⊢
 refine ZS hE ZE hl rfl (Nat.le_of_ble_eq_true rfl) ?_
 simp (config := {dsimp := false}) only [↓Zt, vz, vn, nq, Zp, Zh, Zd, Zb, Zg, Za, Zi, Ze, Zj, Zf, if_true, if_false, implies_true, forall_const, ne_eq, reduceIte, reduceCtorEq, Nat.reduceEqDiff, Nat.reduceAdd, Nat.reduceMul, Nat.reduceDiv, Nat.reduceLT, Nat.reduceSub, Nat.reduceLeDiff, Nat.reduceBNe, Nat.reduceBEq, Nat.reduceBeqDiff, List.range, List.range.loop, Zu, Tryd.ntmps71, Tryd.results71]
 by_cases hkl : k < t.ins.length
 case neg =>
  obtain rfl : k = t.ins.length := by have := hk.le; omega
  have d1 : decide (((t.ins.length : Nat) : Int) < ((t.ins.length : Nat) : Int)) = false := decide_eq_false (by omega)
  have hres : Z6 G h mat t.ins 0 st = (g, s, 0) := by rw [hk.rest, List.drop_length]; rfl
  refine gmk (Z5 (ZI (b := decide (((t.ins.length : Nat) : Int) < ((t.ins.length : Nat) : Int))) rfl (fun e => by rw [d1] at e; cases e) (fun _ => ZiG fun a w ha => Zby ?_ ha)))
  refine ZS hE ZE hl rfl (Nat.le_of_ble_eq_true rfl) ?_
  simp (config := {dsimp := false}) only [↓Zt, vz, vn, nq, Zp, Zh, Zd, Zb, Zg, Za, Zi, Ze, Zj, Zf, if_true, if_false, implies_true, forall_const, ne_eq, reduceIte, reduceCtorEq, Nat.reduceEqDiff, Nat.reduceAdd, Nat.reduceMul, Nat.reduceDiv, Nat.reduceLT, Nat.reduceSub, Nat.reduceLeDiff, Nat.reduceBNe, Nat.reduceBEq, Nat.reduceBeqDiff, List.range, List.range.loop, Zu, Tryd.ntmps71, Tryd.results71]
  refine gmk (Zav fun a w ha => ?_)
  subst hP
  refine ZW () ?_ (Zau (fun g w hh => by rw [hres]; exact hh) ha)
  exact ⟨[], [], [], ⟨rfl, rfl⟩, ⟨rfl, rfl⟩, ⟨by simp, by simp⟩, by simp, by rw [hres]; rfl, rfl, ⟨_, rfl, by rw [hres]; exact List.cons_eq_cons.2 ⟨Zbr _ _ _ _ _ _ _ _ _ _ _ _ _ _, rfl⟩⟩, ⟨_, rfl, rfl⟩, by rw [hres]; exact id rfl⟩
 have d1 : decide (((k : Nat) : Int) < ((t.ins.length : Nat) : Int)) = true := decide_eq_true (by omega)
 refine gmk (ZS hE ZE hl rfl (Nat.le_of_ble_eq_true rfl) ?_)
 simp (config := {dsimp := false}) only [↓Zt, vz, vn, nq, Zp, Zh, Zd, Zb, Zg, Za, Zi, Ze, Zj, Zf, if_true, if_false, implies_true, forall_const, ne_eq, reduceIte, reduceCtorEq, Nat.reduceEqDiff, Nat.reduceAdd, Nat.reduceMul, Nat.reduceDiv, Nat.reduceLT, Nat.reduceSub, Nat.reduceLeDiff, Nat.reduceBNe, Nat.reduceBEq, Nat.reduceBeqDiff, List.range, List.range.loop, Zu, Tryd.ntmps71, Tryd.results71, d1]
 have g0 := Zfh t.ins k hkl
 have hx := ht.ins _ (ZaI hkl)
 have hst := Zo5 (G := G) (h := h) (mat := mat) hkl s g
 have hsp := Zm1 hG hh hk.run ((t.ins.getD k default).prev, (t.ins.getD k default).ix)
 generalize t.ins.getD k default = x at *
 obtain ⟨xp, xi, xs, xq, xw⟩ := x
 simp only at hst hsp
 refine gmk (Z5 (Zbn ?_))
 refine ZS hE ZE hl rfl (Nat.le_of_ble_eq_true rfl) ?_
 simp (config := {dsimp := false}) only [↓Zt, vz, vn, nq, Zp, Zh, Zd, Zb, Zg, Za, Zi, Ze, Zj, Zf, if_true, if_false, implies_true, forall_const, ne_eq, reduceIte, reduceCtorEq, Nat.reduceEqDiff, Nat.reduceAdd, Nat.reduceMul, Nat.reduceDiv, Nat.reduceLT, Nat.reduceSub, Nat.reduceLeDiff, Nat.reduceBNe, Nat.reduceBEq, Nat.reduceBeqDiff, List.range, List.range.loop, Zu, Tryd.ntmps71, Tryd.results71, Int.toNat_natCast, g0, inD]
 refine ⟨by omega, by omega, ?_⟩
 refine gmk (ZbH (Zai hE ZE 3 rfl rfl rfl ?_))
 simp (config := {dsimp := false}) only [↓Zt, vz, vn, nq, Zp, Zh, Zd, Zb, Zg, Za, Zi, Ze, Zj, Zf, if_true, if_false, implies_true, forall_const, ne_eq, reduceIte, reduceCtorEq, Nat.reduceEqDiff, Nat.reduceAdd, Nat.reduceMul, Nat.reduceDiv, Nat.reduceLT, Nat.reduceSub, Nat.reduceLeDiff, Nat.reduceBNe, Nat.reduceBEq, Nat.reduceBeqDiff, List.range, List.range.loop, Zu, Tryd.ntmps71, Tryd.results71, List.drop_zero, List.take_succ_cons, List.take_zero]
 have hpt : PtP.Ok (xp, xi) := ZyM hx
 have hgm : g.made.length ≤ 1000000 := by rw [hk.emade]; exact hm
 have hgs : g.spent.length ≤ 1000000 := by have := hk.espent; omega
 refine Ze3 (ZdO hE hgl (show E.P.funcs[90]? = some Tryd.f90 from Tryd.func90) (show Tryd.f90.body = some ZpY from rfl) ⟨_, Tryd.func90, rfl, rfl⟩ (fun _ : Unit => goB blk h med mat gv bT bO (Zd2 (Zaw G g (xp, xi)).2) lv (Zaw G g (xp, xi)).1) ⟨()⟩ (fun _ => lv) (fun _ => (Zaw G g (xp, xi)).1) rfl rfl (some 21) rfl (show (21 : Nat) < 71 by decide) rfl
  (args' := [.bp 0 0, opD (xp, xi)]) (ds' := [goD blk h med mat gv bT bO g.made lv g.spent g.fees]) (tv' := [(g.made.length, 69), (g.spent.length, 69)]) ?_ ?_ ?_ ?_ (Nat.le_of_ble_eq_true rfl) (fun g1 w hl => Zqc hpt h med mat gv hgv bT bO G g lv hk.run.len hgm hgs (fun c hc => (hk.run.made c hc).1) _ g1 w hl) fun _ => ?_)
 ·simp (config := {dsimp := false}) only [↓Zt, vz, vn, nq, Zp, Zh, Zd, Zb, Zg, Za, Zi, Ze, Zj, Zf, if_true, if_false, implies_true, forall_const, ne_eq, reduceIte, reduceCtorEq, Nat.reduceEqDiff, Nat.reduceAdd, Nat.reduceMul, Nat.reduceDiv, Nat.reduceLT, Nat.reduceSub, Nat.reduceLeDiff, Nat.reduceBNe, Nat.reduceBEq, Nat.reduceBeqDiff, List.range, List.range.loop, Zu, Tryd.ntmps71, Tryd.results71, Zeo, vb, goD, ZG]
  rfl
 ·intro _
  simp (config := {dsimp := false}) only [↓Zt, vz, vn, nq, Zp, Zh, Zd, Zb, Zg, Za, Zi, Ze, Zj, Zf, if_true, if_false, implies_true, forall_const, ne_eq, reduceIte, reduceCtorEq, Nat.reduceEqDiff, Nat.reduceAdd, Nat.reduceMul, Nat.reduceDiv, Nat.reduceLT, Nat.reduceSub, Nat.reduceLeDiff, Nat.reduceBNe, Nat.reduceBEq, Nat.reduceBeqDiff, List.range, List.range.loop, Zu, Tryd.ntmps71, Tryd.results71, vb, goD, goB, ZG]
 ·intro d hd l
  simp [ev, Zm] at hd
  rcases hd with rfl | rfl <;> simp
 ·simp [opD]
 generalize Zaw G g (xp, xi) = sg at *
 obtain ⟨g', oc⟩ := sg
 obtain ⟨hr', hm', hs', hf', hc'⟩ := hsp
 simp only at hr' hm' hs' hf' hc' hst
 cases oc with
 | none =>
  simp only at hst
  have hres := hk.rest.trans hst
  refine Zax hE ZE (nx := 96) _ rfl rfl ?_
  simp (config := {dsimp := false}) only [↓Zt, vz, vn, nq, Zp, Zh, Zd, Zb, Zg, Za, Zi, Ze, Zj, Zf, if_true, if_false, implies_true, forall_const, ne_eq, reduceIte, reduceCtorEq, Nat.reduceEqDiff, Nat.reduceAdd, Nat.reduceMul, Nat.reduceDiv, Nat.reduceLT, Nat.reduceSub, Nat.reduceLeDiff, Nat.reduceBNe, Nat.reduceBEq, Nat.reduceBeqDiff, List.range, List.range.loop, Zu, Tryd.ntmps71, Tryd.results71, vb, goD, goB, Zd2, ZgZ, ZG, List.drop_zero, List.drop_succ_cons]
  refine ZR (Z5 (Zbn ?_))
  refine ZS hE ZE hl rfl (Nat.le_of_ble_eq_true rfl) ?_
  simp (config := {dsimp := false}) only [↓Zt, vz, vn, nq, Zp, Zh, Zd, Zb, Zg, Za, Zi, Ze, Zj, Zf, if_true, if_false, implies_true, forall_const, ne_eq, reduceIte, reduceCtorEq, Nat.reduceEqDiff, Nat.reduceAdd, Nat.reduceMul, Nat.reduceDiv, Nat.reduceLT, Nat.reduceSub, Nat.reduceLeDiff, Nat.reduceBNe, Nat.reduceBEq, Nat.reduceBeqDiff, List.range, List.range.loop, Zu, Tryd.ntmps71, Tryd.results71]
  refine gmk (ZI (b := true) rfl (fun _ => ?_) (fun hh => by cases hh))
  refine ZS hE ZE hl rfl (Nat.le_of_ble_eq_true rfl) ?_
  simp (config := {dsimp := false}) only [↓Zt, vz, vn, nq, Zp, Zh, Zd, Zb, Zg, Za, Zi, Ze, Zj, Zf, if_true, if_false, implies_true, forall_const, ne_eq, reduceIte, reduceCtorEq, Nat.reduceEqDiff, Nat.reduceAdd, Nat.reduceMul, Nat.reduceDiv, Nat.reduceLT, Nat.reduceSub, Nat.reduceLeDiff, Nat.reduceBNe, Nat.reduceBEq, Nat.reduceBeqDiff, List.range, List.range.loop, Zu, Tryd.ntmps71, Tryd.results71]
  refine gmk (Zav fun a w ha => ?_)
  subst hP
  refine ZW () ?_ (Zau (fun g w hh => by rw [hres]; exact hh) ha)
  exact ⟨[], [], [], ⟨rfl, rfl⟩, ⟨rfl, rfl⟩, ⟨by simp, by simp⟩, by simp, by rw [hres]; rfl, rfl, ⟨_, rfl, by rw [hres]; exact List.cons_eq_cons.2 ⟨Zbr _ _ _ _ _ _ _ _ _ _ _ _ _ _, rfl⟩⟩, ⟨_, rfl, rfl⟩, by rw [hres]; exact id rfl⟩
 | some c =>
  obtain ⟨hcok, hc0, hc1⟩ := hc' c rfl
  obtain ⟨ct, ci, cb, ch, cs, cv, cx⟩ := c
  simp only at hst hc0 hc1
  have hcv := hcok.v
  simp only at hcv
  have hM : Zbl = 2100000000000000 := rfl
  have hH : ZcK = 2147483647 := rfl
  have hs0 := hk.s0
  have hs1 := hk.s1
  refine Zax hE ZE (nx := 96) _ rfl rfl ?_
  simp (config := {dsimp := false}) only [↓Zt, vz, vn, nq, Zp, Zh, Zd, Zb, Zg, Za, Zi, Ze, Zj, Zf, if_true, if_false, implies_true, forall_const, ne_eq, reduceIte, reduceCtorEq, Nat.reduceEqDiff, Nat.reduceAdd, Nat.reduceMul, Nat.reduceDiv, Nat.reduceLT, Nat.reduceSub, Nat.reduceLeDiff, Nat.reduceBNe, Nat.reduceBEq, Nat.reduceBeqDiff, List.range, List.range.loop, Zu, Tryd.ntmps71, Tryd.results71, vb, goD, goB, Zd2, Zag, ZG, List.drop_zero, List.drop_succ_cons]
  refine ZR (Z5 (Zbn ?_))
  refine ZS hE ZE hl rfl (Nat.le_of_ble_eq_true rfl) ?_
  simp (config := {dsimp := false}) only [↓Zt, vz, vn, nq, Zp, Zh, Zd, Zb, Zg, Za, Zi, Ze, Zj, Zf, if_true, if_false, implies_true, forall_const, ne_eq, reduceIte, reduceCtorEq, Nat.reduceEqDiff, Nat.reduceAdd, Nat.reduceMul, Nat.reduceDiv, Nat.reduceLT, Nat.reduceSub, Nat.reduceLeDiff, Nat.reduceBNe, Nat.reduceBEq, Nat.reduceBeqDiff, List.range, List.range.loop, Zu, Tryd.ntmps71, Tryd.results71]
  refine gmk (ZI (b := false) rfl (fun hh => by cases hh) (fun _ => ?_))
  have w1 : IntKind.wrap .i64 (h - ch) = h - ch := ZaR (by omega) (by omega)
  by_cases hb : cs = true ∧ h - ch < mat
  ·have hres := hk.rest.trans (hst.trans (if_pos hb))
   obtain ⟨rfl, hlt⟩ := hb
   have d3 : decide (h - ch < mat) = true := decide_eq_true hlt
   refine ZS hE ZE hl rfl (Nat.le_of_ble_eq_true rfl) ?_
   simp (config := {dsimp := false}) only [↓Zt, vz, vn, nq, Zp, Zh, Zd, Zb, Zg, Za, Zi, Ze, Zj, Zf, if_true, if_false, implies_true, forall_const, ne_eq, reduceIte, reduceCtorEq, Nat.reduceEqDiff, Nat.reduceAdd, Nat.reduceMul, Nat.reduceDiv, Nat.reduceLT, Nat.reduceSub, Nat.reduceLeDiff, Nat.reduceBNe, Nat.reduceBEq, Nat.reduceBeqDiff, List.range, List.range.loop, Zu, Tryd.ntmps71, Tryd.results71]
   refine Zb0 [0, 3, 4, 5, 8, 9, 11, 12, 13] (by kernel_rfl) ?_
   simp (config := {dsimp := false}) only [↓Zt, vz, vn, nq, Zp, Zh, Zd, Zb, Zg, Za, Zi, Ze, Zj, Zf, if_true, if_false, implies_true, forall_const, ne_eq, reduceIte, reduceCtorEq, Nat.reduceEqDiff, Nat.reduceAdd, Nat.reduceMul, Nat.reduceDiv, Nat.reduceLT, Nat.reduceSub, Nat.reduceLeDiff, Nat.reduceBNe, Nat.reduceBEq, Nat.reduceBeqDiff, List.range, List.range.loop, Zu, Tryd.ntmps71, Tryd.results71, w1, d3]
   refine gmk (ZI (b := true) rfl (fun _ => ?_) (fun hh => by cases hh))
   refine ZS hE ZE hl rfl (Nat.le_of_ble_eq_true rfl) ?_
   simp (config := {dsimp := false}) only [↓Zt, vz, vn, nq, Zp, Zh, Zd, Zb, Zg, Za, Zi, Ze, Zj, Zf, if_true, if_false, implies_true, forall_const, ne_eq, reduceIte, reduceCtorEq, Nat.reduceEqDiff, Nat.reduceAdd, Nat.reduceMul, Nat.reduceDiv, Nat.reduceLT, Nat.reduceSub, Nat.reduceLeDiff, Nat.reduceBNe, Nat.reduceBEq, Nat.reduceBeqDiff, List.range, List.range.loop, Zu, Tryd.ntmps71, Tryd.results71]
   refine gmk (Zav fun a w ha => ?_)
   subst hP
   refine ZW () ?_ (Zau (fun g w hh => by rw [hres]; exact hh) ha)
   exact ⟨[], [], [], ⟨rfl, rfl⟩, ⟨rfl, rfl⟩, ⟨by simp, by simp⟩, by simp, by rw [hres]; rfl, rfl, ⟨_, rfl, by rw [hres]; exact List.cons_eq_cons.2 ⟨Zbr _ _ _ _ _ _ _ _ _ _ _ _ _ _, rfl⟩⟩, ⟨_, rfl, rfl⟩, by rw [hres]; exact id rfl⟩
  rw [if_neg hb] at hst
  refine ZmN [(0, .bp 0 0), (3, .bp 8 0), (4, .int .i64 s), (5, .int .i64 0), (8, .bp 84 0), (11, .sl .no 36 (Zct t.ins)), (12, .int .i64 (t.ins.length : Nat)), (13, .int .i64 (k : Nat)), (27, .bool false)]
   ⟨[(0, goD blk h med mat gv bT bO g'.made lv g'.spent g'.fees), (84, Zag ⟨ct, ci, cb, ch, cs, cv, cx⟩)], [(0, (g'.made.length, 69)), (1, (g'.spent.length, 69))], 200⟩ (HS E.P 43 gF (ZaC M w0) G bT bO gv lv g') ?_ ?_
  ·cases cs with
   | false =>
    refine Zh5 hE ZE hl rfl (Nat.le_of_ble_eq_true rfl) ?_
    simp (config := {dsimp := false}) only [↓Zt, vz, vn, nq, Zp, Zh, Zd, Zb, Zg, Za, Zi, Ze, Zj, Zf, if_true, if_false, implies_true, forall_const, ne_eq, reduceIte, reduceCtorEq, Nat.reduceEqDiff, Nat.reduceAdd, Nat.reduceMul, Nat.reduceDiv, Nat.reduceLT, Nat.reduceSub, Nat.reduceLeDiff, Nat.reduceBNe, Nat.reduceBEq, Nat.reduceBeqDiff, List.range, List.range.loop, Zu, Tryd.ntmps71, Tryd.results71]
    refine Zb0 [0, 3, 4, 5, 8, 9, 11, 12, 13] (by kernel_rfl) ?_
    simp (config := {dsimp := false}) only [↓Zt, vz, vn, nq, Zp, Zh, Zd, Zb, Zg, Za, Zi, Ze, Zj, Zf, if_true, if_false, implies_true, forall_const, ne_eq, reduceIte, reduceCtorEq, Nat.reduceEqDiff, Nat.reduceAdd, Nat.reduceMul, Nat.reduceDiv, Nat.reduceLT, Nat.reduceSub, Nat.reduceLeDiff, Nat.reduceBNe, Nat.reduceBEq, Nat.reduceBeqDiff, List.range, List.range.loop, Zu, Tryd.ntmps71, Tryd.results71]
    refine ZdM fun a w ha => ZcH ZE hl (Nat.le_of_ble_eq_true rfl) ?_ ha
    exact ⟨⟨Zc rfl, rfl, Zc rfl, rfl, Zc rfl, rfl, Zc rfl, rfl, Zc rfl, rfl, Zc rfl, rfl, Zc rfl, rfl, Zc rfl, rfl, Zc rfl, rfl, trivial⟩, ⟨rfl, Nat.le_of_ble_eq_true rfl, rfl, rfl, Nat.le_of_ble_eq_true rfl, rfl, trivial⟩, ⟨rfl, Nat.le_of_ble_eq_true rfl, rfl, Nat.le_of_ble_eq_true rfl, trivial⟩⟩
   | true =>
    have d3 : decide (h - ch < mat) = false := decide_eq_false (fun h => hb ⟨rfl, h⟩)
    refine Zh5 hE ZE hl rfl (Nat.le_of_ble_eq_true rfl) ?_
    simp (config := {dsimp := false}) only [↓Zt, vz, vn, nq, Zp, Zh, Zd, Zb, Zg, Za, Zi, Ze, Zj, Zf, if_true, if_false, implies_true, forall_const, ne_eq, reduceIte, reduceCtorEq, Nat.reduceEqDiff, Nat.reduceAdd, Nat.reduceMul, Nat.reduceDiv, Nat.reduceLT, Nat.reduceSub, Nat.reduceLeDiff, Nat.reduceBNe, Nat.reduceBEq, Nat.reduceBeqDiff, List.range, List.range.loop, Zu, Tryd.ntmps71, Tryd.results71]
    refine Zb0 [0, 3, 4, 5, 8, 9, 11, 12, 13] (by kernel_rfl) ?_
    simp (config := {dsimp := false}) only [↓Zt, vz, vn, nq, Zp, Zh, Zd, Zb, Zg, Za, Zi, Ze, Zj, Zf, if_true, if_false, implies_true, forall_const, ne_eq, reduceIte, reduceCtorEq, Nat.reduceEqDiff, Nat.reduceAdd, Nat.reduceMul, Nat.reduceDiv, Nat.reduceLT, Nat.reduceSub, Nat.reduceLeDiff, Nat.reduceBNe, Nat.reduceBEq, Nat.reduceBeqDiff, List.range, List.range.loop, Zu, Tryd.ntmps71, Tryd.results71, w1, d3]
    refine ZdM fun a w ha => ZcH ZE hl (Nat.le_of_ble_eq_true rfl) ?_ ha
    exact ⟨⟨Zc rfl, rfl, Zc rfl, rfl, Zc rfl, rfl, Zc rfl, rfl, Zc rfl, rfl, Zc rfl, rfl, Zc rfl, rfl, Zc rfl, rfl, Zc rfl, rfl, trivial⟩, ⟨rfl, Nat.le_of_ble_eq_true rfl, rfl, rfl, Nat.le_of_ble_eq_true rfl, rfl, trivial⟩, ⟨rfl, Nat.le_of_ble_eq_true rfl, rfl, Nat.le_of_ble_eq_true rfl, trivial⟩⟩
  refine ZI (b := false) rfl (fun hh => by cases hh) (fun _ => ?_)
  by_cases v1 : cv < 0
  ·have hres := hk.rest.trans (hst.trans (if_pos (.inl v1)))
   have e1 : decide (cv < 0) = true := decide_eq_true v1
   refine ZS hE ZE hl rfl (Nat.le_of_ble_eq_true rfl) ?_
   simp (config := {dsimp := false}) only [↓Zt, vz, vn, nq, Zp, Zh, Zd, Zb, Zg, Za, Zi, Ze, Zj, Zf, if_true, if_false, implies_true, forall_const, ne_eq, reduceIte, reduceCtorEq, Nat.reduceEqDiff, Nat.reduceAdd, Nat.reduceMul, Nat.reduceDiv, Nat.reduceLT, Nat.reduceSub, Nat.reduceLeDiff, Nat.reduceBNe, Nat.reduceBEq, Nat.reduceBeqDiff, List.range, List.range.loop, Zu, Tryd.ntmps71, Tryd.results71, Zag, e1]
   refine gmk (ZI (b := true) rfl (fun _ => ?_) (fun hh => by cases hh))
   refine ZS hE ZE hl rfl (Nat.le_of_ble_eq_true rfl) ?_
   simp (config := {dsimp := false}) only [↓Zt, vz, vn, nq, Zp, Zh, Zd, Zb, Zg, Za, Zi, Ze, Zj, Zf, if_true, if_false, implies_true, forall_const, ne_eq, reduceIte, reduceCtorEq, Nat.reduceEqDiff, Nat.reduceAdd, Nat.reduceMul, Nat.reduceDiv, Nat.reduceLT, Nat.reduceSub, Nat.reduceLeDiff, Nat.reduceBNe, Nat.reduceBEq, Nat.reduceBeqDiff, List.range, List.range.loop, Zu, Tryd.ntmps71, Tryd.results71]
   refine gmk (Zav fun a w ha => ?_)
   subst hP
   refine ZW () ?_ (Zau (fun g w hh => by rw [hres]; exact hh) ha)
   exact ⟨[], [], [], ⟨rfl, rfl⟩, ⟨rfl, rfl⟩, ⟨by simp, by simp⟩, by simp, by rw [hres]; rfl, rfl, ⟨_, rfl, by rw [hres]; exact List.cons_eq_cons.2 ⟨Zbr _ _ _ _ _ _ _ _ _ _ _ _ _ _, rfl⟩⟩, ⟨_, rfl, rfl⟩, by rw [hres]; exact id rfl⟩
  have e1 : decide (cv < 0) = false := decide_eq_false v1
  by_cases v2 : Zbl < cv
  ·have hres := hk.rest.trans (hst.trans (if_pos (.inr (.inl v2))))
   have e2 : decide (2100000000000000 < cv) = true := decide_eq_true v2
   refine ZS hE ZE hl rfl (Nat.le_of_ble_eq_true rfl) ?_
   simp (config := {dsimp := false}) only [↓Zt, vz, vn, nq, Zp, Zh, Zd, Zb, Zg, Za, Zi, Ze, Zj, Zf, if_true, if_false, implies_true, forall_const, ne_eq, reduceIte, reduceCtorEq, Nat.reduceEqDiff, Nat.reduceAdd, Nat.reduceMul, Nat.reduceDiv, Nat.reduceLT, Nat.reduceSub, Nat.reduceLeDiff, Nat.reduceBNe, Nat.reduceBEq, Nat.reduceBeqDiff, List.range, List.range.loop, Zu, Tryd.ntmps71, Tryd.results71, Zag, e1, e2]
   refine gmk (ZI (b := true) rfl (fun _ => ?_) (fun hh => by cases hh))
   refine ZS hE ZE hl rfl (Nat.le_of_ble_eq_true rfl) ?_
   simp (config := {dsimp := false}) only [↓Zt, vz, vn, nq, Zp, Zh, Zd, Zb, Zg, Za, Zi, Ze, Zj, Zf, if_true, if_false, implies_true, forall_const, ne_eq, reduceIte, reduceCtorEq, Nat.reduceEqDiff, Nat.reduceAdd, Nat.reduceMul, Nat.reduceDiv, Nat.reduceLT, Nat.reduceSub, Nat.reduceLeDiff, Nat.reduceBNe, Nat.reduceBEq, Nat.reduceBeqDiff, List.range, List.range.loop, Zu, Tryd.ntmps71, Tryd.results71]
   refine gmk (Zav fun a w ha => ?_)
   subst hP
   refine ZW () ?_ (Zau (fun g w hh => by rw [hres]; exact hh) ha)
   exact ⟨[], [], [], ⟨rfl, rfl⟩, ⟨rfl, rfl⟩, ⟨by simp, by simp⟩, by simp, by rw [hres]; rfl, rfl, ⟨_, rfl, by rw [hres]; exact List.cons_eq_cons.2 ⟨Zbr _ _ _ _ _ _ _ _ _ _ _ _ _ _, rfl⟩⟩, ⟨_, rfl, rfl⟩, by rw [hres]; exact id rfl⟩
  have e2 : decide (2100000000000000 < cv) = false := decide_eq_false v2
  have w2 : IntKind.wrap .i64 (s + cv) = s + cv := ZaR (by omega) (by omega)
  by_cases v3 : Zbl < s + cv
  ·have hres := hk.rest.trans (hst.trans (if_pos (.inr (.inr v3))))
   have e3 : decide (2100000000000000 < s + cv) = true := decide_eq_true v3
   refine ZS hE ZE hl rfl (Nat.le_of_ble_eq_true rfl) ?_
   simp (config := {dsimp := false}) only [↓Zt, vz, vn, nq, Zp, Zh, Zd, Zb, Zg, Za, Zi, Ze, Zj, Zf, if_true, if_false, implies_true, forall_const, ne_eq, reduceIte, reduceCtorEq, Nat.reduceEqDiff, Nat.reduceAdd, Nat.reduceMul, Nat.reduceDiv, Nat.reduceLT, Nat.reduceSub, Nat.reduceLeDiff, Nat.reduceBNe, Nat.reduceBEq, Nat.reduceBeqDiff, List.range, List.range.loop, Zu, Tryd.ntmps71, Tryd.results71, Zag, e1, e2, w2, e3]
   refine gmk (ZI (b := true) rfl (fun _ => ?_) (fun hh => by cases hh))
   refine ZS hE ZE hl rfl (Nat.le_of_ble_eq_true rfl) ?_
   simp (config := {dsimp := false}) only [↓Zt, vz, vn, nq, Zp, Zh, Zd, Zb, Zg, Za, Zi, Ze, Zj, Zf, if_true, if_false, implies_true, forall_const, ne_eq, reduceIte, reduceCtorEq, Nat.reduceEqDiff, Nat.reduceAdd, Nat.reduceMul, Nat.reduceDiv, Nat.reduceLT, Nat.reduceSub, Nat.reduceLeDiff, Nat.reduceBNe, Nat.reduceBEq, Nat.reduceBeqDiff, List.range, List.range.loop, Zu, Tryd.ntmps71, Tryd.results71]
   refine gmk (Zav fun a w ha => ?_)
   subst hP
   refine ZW () ?_ (Zau (fun g w hh => by rw [hres]; exact hh) ha)
   exact ⟨[], [], [], ⟨rfl, rfl⟩, ⟨rfl, rfl⟩, ⟨by simp, by simp⟩, by simp, by rw [hres]; rfl, rfl, ⟨_, rfl, by rw [hres]; exact List.cons_eq_cons.2 ⟨Zbr _ _ _ _ _ _ _ _ _ _ _ _ _ _, rfl⟩⟩, ⟨_, rfl, rfl⟩, by rw [hres]; exact id rfl⟩
  have e3 : decide (2100000000000000 < s + cv) = false := decide_eq_false v3
  rw [if_neg (by omega)] at hst
  have hidx : InIdx G h mat t st (k + 1) (s + cv) g' := ⟨hkl, hr', by omega, by omega, hk.rest.trans hst, hm'.trans hk.emade, by have := hk.espent; omega, hf'.trans hk.efees⟩
  refine ZS hE ZE hl rfl (Nat.le_of_ble_eq_true rfl) ?_
  simp (config := {dsimp := false}) only [↓Zt, vz, vn, nq, Zp, Zh, Zd, Zb, Zg, Za, Zi, Ze, Zj, Zf, if_true, if_false, implies_true, forall_const, ne_eq, reduceIte, reduceCtorEq, Nat.reduceEqDiff, Nat.reduceAdd, Nat.reduceMul, Nat.reduceDiv, Nat.reduceLT, Nat.reduceSub, Nat.reduceLeDiff, Nat.reduceBNe, Nat.reduceBEq, Nat.reduceBeqDiff, List.range, List.range.loop, Zu, Tryd.ntmps71, Tryd.results71, Zag, e1, e2, w2, e3]
  refine gmk (ZI (b := false) rfl (fun hh => by cases hh) (fun _ => Zbg fun a w ha => Zby ?_ ha))
  refine Zh5 hE ZE hl rfl (Nat.le_of_ble_eq_true rfl) ?_
  simp (config := {dsimp := false}) only [↓Zt, vz, vn, nq, Zp, Zh, Zd, Zb, Zg, Za, Zi, Ze, Zj, Zf, if_true, if_false, implies_true, forall_const, ne_eq, reduceIte, reduceCtorEq, Nat.reduceEqDiff, Nat.reduceAdd, Nat.reduceMul, Nat.reduceDiv, Nat.reduceLT, Nat.reduceSub, Nat.reduceLeDiff, Nat.reduceBNe, Nat.reduceBEq, Nat.reduceBeqDiff, List.range, List.range.loop, Zu, Tryd.ntmps71, Tryd.results71, Zag, w2]
  intro a w ha
  refine Zby ?_ ha
  refine Zh5 hE ZE hl rfl (Nat.le_of_ble_eq_true rfl) ?_
  simp (config := {dsimp := false}) only [↓Zt, vz, vn, nq, Zp, Zh, Zd, Zb, Zg, Za, Zi, Ze, Zj, Zf, if_true, if_false, implies_true, forall_const, ne_eq, reduceIte, reduceCtorEq, Nat.reduceEqDiff, Nat.reduceAdd, Nat.reduceMul, Nat.reduceDiv, Nat.reduceLT, Nat.reduceSub, Nat.reduceLeDiff, Nat.reduceBNe, Nat.reduceBEq, Nat.reduceBeqDiff, List.range, List.range.loop, Zu, Tryd.ntmps71, Tryd.results71]
  refine ZdM fun a w ha => ⟨⟨(k + 1, s + cv, g'), hidx⟩, ZcH ZE hl (Nat.le_of_ble_eq_true rfl) ?_ ha, by (try simp only); omega⟩
  have e : IntKind.wrap .i64 (((k : Nat) : Int) + 1) = ((k + 1 : Nat) : Int) := by rw [ZaR (by omega) (by omega)]; omega
  rw [e]
  exact ⟨⟨Zc rfl, rfl, Zc rfl, rfl, Zc rfl, rfl, Zc rfl, rfl, Zc rfl, rfl, Zc rfl, rfl, Zc rfl, rfl, trivial⟩, ⟨rfl, Nat.le_of_ble_eq_true rfl, rfl, trivial⟩, ⟨rfl, Nat.le_of_ble_eq_true rfl, rfl, Nat.le_of_ble_eq_true rfl, trivial⟩⟩
end Go.Vi.CO
end

section
namespace Go.Vi.CO
open Go.Proofs
theorem ZhX {G : PtP → Option CoinP} (hG : ∀ o c, G o = some c → c.pt = o ∧ c.Ok) {h mat : Int} (hh : 0 ≤ h ∧ h ≤ ZcK) : ∀ (l : List InP) (s : Int) (g : GoP), RunOk h g → 0 ≤ s → s ≤ Zbl →
  RunOk h (Z6 G h mat l s g).1 ∧ (Z6 G h mat l s g).1.made = g.made ∧ (Z6 G h mat l s g).1.spent.length ≤ g.spent.length + l.length ∧ (Z6 G h mat l s g).1.fees = g.fees ∧ 0 ≤ (Z6 G h mat l s g).2.1 ∧ (Z6 G h mat l s g).2.1 ≤ Zbl ∧ ((Z6 G h mat l s g).2.2 = 0 ∨ (Z6 G h mat l s g).2.2 = 30 ∨ (Z6 G h mat l s g).2.2 = 31 ∨ (Z6 G h mat l s g).2.2 = 32)
 | [], s, g, hr, h0, h1 => ⟨hr, rfl, Nat.le_refl _, rfl, h0, h1, .inl rfl⟩
 | x :: l, s, g, hr, h0, h1 => by
  have hM : (0 : Int) ≤ Zbl := by unfold Zbl; omega
  obtain ⟨a1, a2, a3, a4, a5⟩ := Zm1 hG hh hr (x.prev, x.ix)
  unfold Z6
  generalize Zaw G g (x.prev, x.ix) = sg at *
  obtain ⟨g', oc⟩ := sg
  simp only at a1 a2 a3 a4 a5
  cases oc with
  | none => exact ⟨a1, a2, by simp only [List.length_cons]; omega, a4, Int.le_refl _, hM, .inr (.inl rfl)⟩
  | some c =>
   simp only
   split
   ·exact ⟨a1, a2, by simp only [List.length_cons]; omega, a4, Int.le_refl _, hM, .inr (.inr (.inl rfl))⟩
   ·split
    ·exact ⟨a1, a2, by simp only [List.length_cons]; omega, a4, Int.le_refl _, hM, .inr (.inr (.inr rfl))⟩
    ·rename_i hb
     have ih := ZhX hG (mat := mat) hh l (s + c.v) g' a1 (by omega) (by omega)
     exact ⟨ih.1, ih.2.1.trans a2, by have := ih.2.2.1; simp only [List.length_cons]; omega, ih.2.2.2.1.trans a4, ih.2.2.2.2⟩
theorem ZvL {h : Int} {g : GoP} (hr : RunOk h g) {c : CoinP} (hc : c.Ok) (hh : c.h = h) : RunOk h (ZiB g c) :=
 ⟨by simp [ZiB, ZiK, hr.len], fun x hx => by
  rcases List.mem_append.1 hx with hx | hx
  ·exact hr.made x hx
  ·simp at hx; subst hx; exact ⟨hc, hh⟩, hr.spent⟩
theorem Zjp {id blk : List Int} (hi : id.length = 32 ∧ bytes id) (hb : blk.length = 32 ∧ bytes blk) {h : Int} (hh : 0 ≤ h ∧ h ≤ ZcK) {base : Bool} : ∀ (l : List OutP) (k : Nat) (g : GoP), (∀ o ∈ l, o.Ok) → k + l.length ≤ 4000000000 → RunOk h g → RunOk h (Zao id blk h base k l g)
 | [], k, g, _, _, hr => hr
 | o :: l, k, g, ho, hk, hr => by
  simp only [List.length_cons] at hk
  have hH : ZcK = 2147483647 := rfl
  have hok := ho o (List.mem_cons_self ..)
  have hc : (mkC id k blk h base o).Ok := ⟨⟨hi.1, hi.2, by constructor <;> simp only [mkC, CoinP.pt] <;> omega⟩, hb.1, hb.2, by constructor <;> simp only [mkC] <;> omega, hok.value, Zyx hok.script⟩
  simp only [Zao]
  refine Zjp hi hb hh l (k + 1) _ (fun x hx => ho x (List.mem_cons_of_mem _ hx)) (by omega) ?_
  split
  ·exact hr
  ·exact ZvL hr hc rfl
noncomputable def Zpn : Code := (Tryd.f56.body).getD .skip
theorem ZsI {t : TxP} (ht : t.Ok) (hmi : t.ins.length ≤ 1000) (hmo : t.outs.length ≤ 1000) {blk : List Int} (h med mat : Int) (hh : 0 ≤ h ∧ h ≤ ZcK) (gv : Value) (hgv : Zz (.raw gv) = true) (bT bO : Nat) (G : PtP → Option CoinP) (hG : ∀ o c, G o = some c → c.pt = o ∧ c.Ok) (st : GoP) (lv : Value) (hlv : Zz (.raw lv) = true) (hr : RunOk h st) (hm : st.made.length ≤ 900000) (hs : st.spent.length ≤ 800000) (hf : 0 ≤ st.fees ∧ st.fees ≤ Zbl)
  (M : Nat → Prop) (g1 : Gh) (w0 : World) (hl : Low 8 g1) :
  GM M (HS E.P 43 gF (ZaC M w0) G bT bO gv lv st) E Tryd.f56.ntmps g1 w0 (Zcw M E Tryd.f56 g1 w0 1 2 (fun lv' => goB blk h med mat gv bT bO (.int .i64 (ZcF G blk h mat t st).2) lv' (ZcF G blk h mat t st).1) (fun lv' => HS E.P 43 gF (ZaC M w0) G bT bO gv lv' (ZcF G blk h mat t st).1))
   Zpn [(0, .bp 0 0), (1, txD t)] ⟨[(0, goD blk h med mat gv bT bO st.made lv st.spent st.fees)], [(0, (st.made.length, 69)), (1, (st.spent.length, 69))], 8⟩ := by
 have hM : Zbl = 2100000000000000 := rfl
 generalize hP : Zcw M E Tryd.f56 g1 w0 1 2 _ _ = Post
 unfold Zpn
 simp only [Tryd.f56, Option.getD_some]
 refine ZS hE ZE hl rfl (Nat.le_refl _) ?_
 simp (config := {dsimp := false}) only [↓Zt, vz, vn, nq, Zp, Zh, Zd, Zb, Zg, Za, Zi, Ze, Zj, Zf, if_true, if_false, implies_true, forall_const, ne_eq, reduceIte, reduceCtorEq, Nat.reduceEqDiff, Nat.reduceAdd, Nat.reduceMul, Nat.reduceDiv, Nat.reduceLT, Nat.reduceSub, Nat.reduceLeDiff, Nat.reduceBNe, Nat.reduceBEq, Nat.reduceBeqDiff, List.range, List.range.loop, Zu, Tryd.ntmps56, Tryd.results56, txD]
 refine gmk (ZbH (Zai hE ZE 2 rfl rfl rfl ?_))
 simp (config := {dsimp := false}) only [↓Zt, vz, vn, nq, Zp, Zh, Zd, Zb, Zg, Za, Zi, Ze, Zj, Zf, if_true, if_false, implies_true, forall_const, ne_eq, reduceIte, reduceCtorEq, Nat.reduceEqDiff, Nat.reduceAdd, Nat.reduceMul, Nat.reduceDiv, Nat.reduceLT, Nat.reduceSub, Nat.reduceLeDiff, Nat.reduceBNe, Nat.reduceBEq, Nat.reduceBeqDiff, List.range, List.range.loop, Zu, Tryd.ntmps56, Tryd.results56, List.drop_zero, List.take_succ_cons, List.take_zero]
 refine Ze3 (ZdO hE hgl (show E.P.funcs[71]? = some Tryd.f71 from Tryd.func71) (show Tryd.f71.body = some Zp1 from rfl) ⟨_, Tryd.func71, rfl, rfl⟩ (fun _ : Unit => goB blk h med mat gv bT bO (.tup [.int .i64 (Z6 G h mat t.ins 0 st).2.1, .int .i64 (Z6 G h mat t.ins 0 st).2.2]) lv (Z6 G h mat t.ins 0 st).1) ⟨()⟩ (fun _ => lv) (fun _ => (Z6 G h mat t.ins 0 st).1) rfl rfl (some 12) rfl (show (12 : Nat) < 54 by decide) rfl
  (args' := [.bp 0 0, txD t]) (ds' := [goD blk h med mat gv bT bO st.made lv st.spent st.fees]) (tv' := [(st.made.length, 69), (st.spent.length, 69)]) ?_ ?_ ?_ ?_ (Nat.le_of_ble_eq_true rfl) (fun g1 w hl => ZnA ht hmi h med mat hh gv hgv bT bO G hG st lv hlv hr (by omega) (by omega) _ g1 w hl) fun _ => ?_)
 ·simp (config := {dsimp := false}) only [↓Zt, vz, vn, nq, Zp, Zh, Zd, Zb, Zg, Za, Zi, Ze, Zj, Zf, if_true, if_false, implies_true, forall_const, ne_eq, reduceIte, reduceCtorEq, Nat.reduceEqDiff, Nat.reduceAdd, Nat.reduceMul, Nat.reduceDiv, Nat.reduceLT, Nat.reduceSub, Nat.reduceLeDiff, Nat.reduceBNe, Nat.reduceBEq, Nat.reduceBeqDiff, List.range, List.range.loop, Zu, Tryd.ntmps56, Tryd.results56, Zeo, vb, goD, ZG]
  rfl
 ·intro _
  simp (config := {dsimp := false}) only [↓Zt, vz, vn, nq, Zp, Zh, Zd, Zb, Zg, Za, Zi, Ze, Zj, Zf, if_true, if_false, implies_true, forall_const, ne_eq, reduceIte, reduceCtorEq, Nat.reduceEqDiff, Nat.reduceAdd, Nat.reduceMul, Nat.reduceDiv, Nat.reduceLT, Nat.reduceSub, Nat.reduceLeDiff, Nat.reduceBNe, Nat.reduceBEq, Nat.reduceBeqDiff, List.range, List.range.loop, Zu, Tryd.ntmps56, Tryd.results56, vb, goD, goB, ZG]
 ·intro d hd l
  simp [ev, Zm] at hd
  rcases hd with rfl | rfl <;> simp
 ·simp [txD]
 have hin := ZhX (mat := mat) hG hh t.ins 0 st hr (Int.le_refl _) (by omega)
 have hpass : ZcF G blk h mat t st = (match Z6 G h mat t.ins 0 st with
  | (g1, n, e) => if e ≠ 0 then (g1, e) else match Zb6 0 t.outs with
   | none => (g1, 32)
   | some out => if n < out ∨ Zbl < g1.fees + n - out then (g1, 32) else (Zao (idP t) blk h false 0 t.outs { g1 with fees := g1.fees + (n - out) }, 0)) := rfl
 generalize Z6 G h mat t.ins 0 st = ig at *
 obtain ⟨g, n, e⟩ := ig
 simp only at hin hpass ⊢
 obtain ⟨hr', hm', hs', hf', hn0, hn1, he⟩ := hin
 refine Zax hE ZE (nx := 48) _ rfl rfl ?_
 simp (config := {dsimp := false}) only [↓Zt, vz, vn, nq, Zp, Zh, Zd, Zb, Zg, Za, Zi, Ze, Zj, Zf, if_true, if_false, implies_true, forall_const, ne_eq, reduceIte, reduceCtorEq, Nat.reduceEqDiff, Nat.reduceAdd, Nat.reduceMul, Nat.reduceDiv, Nat.reduceLT, Nat.reduceSub, Nat.reduceLeDiff, Nat.reduceBNe, Nat.reduceBEq, Nat.reduceBeqDiff, List.range, List.range.loop, Zu, Tryd.ntmps56, Tryd.results56, vb, goD, goB, ZG, List.drop_zero, List.drop_succ_cons]
 refine ZR (Z5 ?_)
 by_cases he0 : e = 0
 case neg =>
  rw [if_pos he0] at hpass
  have d1 : decide (e = 0) = false := decide_eq_false he0
  refine ZS hE ZE hl rfl (Nat.le_of_ble_eq_true rfl) ?_
  simp (config := {dsimp := false}) only [↓Zt, vz, vn, nq, Zp, Zh, Zd, Zb, Zg, Za, Zi, Ze, Zj, Zf, if_true, if_false, implies_true, forall_const, ne_eq, reduceIte, reduceCtorEq, Nat.reduceEqDiff, Nat.reduceAdd, Nat.reduceMul, Nat.reduceDiv, Nat.reduceLT, Nat.reduceSub, Nat.reduceLeDiff, Nat.reduceBNe, Nat.reduceBEq, Nat.reduceBeqDiff, List.range, List.range.loop, Zu, Tryd.ntmps56, Tryd.results56, d1]
  refine gmk (ZI (b := true) rfl (fun _ => ?_) (fun hh => by cases hh))
  refine ZS hE ZE hl rfl (Nat.le_of_ble_eq_true rfl) ?_
  simp (config := {dsimp := false}) only [↓Zt, vz, vn, nq, Zp, Zh, Zd, Zb, Zg, Za, Zi, Ze, Zj, Zf, if_true, if_false, implies_true, forall_const, ne_eq, reduceIte, reduceCtorEq, Nat.reduceEqDiff, Nat.reduceAdd, Nat.reduceMul, Nat.reduceDiv, Nat.reduceLT, Nat.reduceSub, Nat.reduceLeDiff, Nat.reduceBNe, Nat.reduceBEq, Nat.reduceBeqDiff, List.range, List.range.loop, Zu, Tryd.ntmps56, Tryd.results56]
  refine gmk (Zav fun a w ha => ?_)
  subst hP
  refine ZW lv ?_ (Zau (fun g w hh => by rw [hpass]; exact hh) ha)
  exact ⟨[], [], [], ⟨rfl, rfl⟩, ⟨rfl, rfl⟩, ⟨by simp, by simp⟩, by simp, by rw [hpass]; rfl, rfl, ⟨_, rfl, by rw [hpass]; exact List.cons_eq_cons.2 ⟨Zbr _ _ _ _ _ _ _ _ _ _ _ _ _ _, rfl⟩⟩, ⟨_, rfl, rfl⟩, by rw [hpass]; exact id rfl⟩
 subst he0
 simp only [ne_eq, not_true_eq_false, if_false] at hpass
 refine ZS hE ZE hl rfl (Nat.le_of_ble_eq_true rfl) ?_
 simp (config := {dsimp := false}) only [↓Zt, vz, vn, nq, Zp, Zh, Zd, Zb, Zg, Za, Zi, Ze, Zj, Zf, if_true, if_false, implies_true, forall_const, ne_eq, reduceIte, reduceCtorEq, Nat.reduceEqDiff, Nat.reduceAdd, Nat.reduceMul, Nat.reduceDiv, Nat.reduceLT, Nat.reduceSub, Nat.reduceLeDiff, Nat.reduceBNe, Nat.reduceBEq, Nat.reduceBeqDiff, List.range, List.range.loop, Zu, Tryd.ntmps56, Tryd.results56, show decide ((0 : Int) = 0) = true from rfl]
 refine gmk (ZI (b := false) rfl (fun hh => by cases hh) (fun _ => Zbg fun a w ha => Zby ?_ ha))
 have hany := Zq2 ht.any
 cases hsum : Zb6 0 t.outs with
 | none =>
  simp only [hsum] at hpass
  refine ZS hE ZE hl rfl (Nat.le_of_ble_eq_true rfl) ?_
  simp (config := {dsimp := false}) only [↓Zt, vz, vn, nq, Zp, Zh, Zd, Zb, Zg, Za, Zi, Ze, Zj, Zf, if_true, if_false, implies_true, forall_const, ne_eq, reduceIte, reduceCtorEq, Nat.reduceEqDiff, Nat.reduceAdd, Nat.reduceMul, Nat.reduceDiv, Nat.reduceLT, Nat.reduceSub, Nat.reduceLeDiff, Nat.reduceBNe, Nat.reduceBEq, Nat.reduceBeqDiff, List.range, List.range.loop, Zu, Tryd.ntmps56, Tryd.results56, txD, PF.toR, Zl, Zdh, hsum, Zkd, ZfP, Zd4, Zmt, Zl8]
  refine ⟨hany, gmk (Z5 ?_)⟩
  refine ZS hE ZE hl rfl (Nat.le_of_ble_eq_true rfl) ?_
  simp (config := {dsimp := false}) only [↓Zt, vz, vn, nq, Zp, Zh, Zd, Zb, Zg, Za, Zi, Ze, Zj, Zf, if_true, if_false, implies_true, forall_const, ne_eq, reduceIte, reduceCtorEq, Nat.reduceEqDiff, Nat.reduceAdd, Nat.reduceMul, Nat.reduceDiv, Nat.reduceLT, Nat.reduceSub, Nat.reduceLeDiff, Nat.reduceBNe, Nat.reduceBEq, Nat.reduceBeqDiff, List.range, List.range.loop, Zu, Tryd.ntmps56, Tryd.results56]
  refine gmk (ZI (b := true) rfl (fun _ => ?_) (fun hh => by cases hh))
  refine ZS hE ZE hl rfl (Nat.le_of_ble_eq_true rfl) ?_
  simp (config := {dsimp := false}) only [↓Zt, vz, vn, nq, Zp, Zh, Zd, Zb, Zg, Za, Zi, Ze, Zj, Zf, if_true, if_false, implies_true, forall_const, ne_eq, reduceIte, reduceCtorEq, Nat.reduceEqDiff, Nat.reduceAdd, Nat.reduceMul, Nat.reduceDiv, Nat.reduceLT, Nat.reduceSub, Nat.reduceLeDiff, Nat.reduceBNe, Nat.reduceBEq, Nat.reduceBeqDiff, List.range, List.range.loop, Zu, Tryd.ntmps56, Tryd.results56]
  refine gmk (Zav fun a w ha => ?_)
  subst hP
  refine ZW lv ?_ (Zau (fun g w hh => by rw [hpass]; exact hh) ha)
  exact ⟨[], [], [], ⟨rfl, rfl⟩, ⟨rfl, rfl⟩, ⟨by simp, by simp⟩, by simp, by rw [hpass]; rfl, rfl, ⟨_, rfl, by rw [hpass]; exact List.cons_eq_cons.2 ⟨Zbr _ _ _ _ _ _ _ _ _ _ _ _ _ _, rfl⟩⟩, ⟨_, rfl, rfl⟩, by rw [hpass]; exact id rfl⟩
 | some out =>
  simp only [hsum] at hpass
  obtain ⟨ho0, ho1⟩ := ZiH t.outs 0 out (Int.le_refl _) (by omega) hsum
  refine ZS hE ZE hl rfl (Nat.le_of_ble_eq_true rfl) ?_
  simp (config := {dsimp := false}) only [↓Zt, vz, vn, nq, Zp, Zh, Zd, Zb, Zg, Za, Zi, Ze, Zj, Zf, if_true, if_false, implies_true, forall_const, ne_eq, reduceIte, reduceCtorEq, Nat.reduceEqDiff, Nat.reduceAdd, Nat.reduceMul, Nat.reduceDiv, Nat.reduceLT, Nat.reduceSub, Nat.reduceLeDiff, Nat.reduceBNe, Nat.reduceBEq, Nat.reduceBeqDiff, List.range, List.range.loop, Zu, Tryd.ntmps56, Tryd.results56, txD, PF.toR, Zl, Zdh, hsum, Zkd, ZfP, Zd4, Zmt, Zl8]
  refine ⟨hany, gmk (Z5 ?_)⟩
  have hgf : g.fees = st.fees := hf'
  by_cases c1 : n < out
  ·rw [if_pos (.inl c1)] at hpass
   have d1 : decide (n < out) = true := decide_eq_true c1
   refine ZS hE ZE hl rfl (Nat.le_of_ble_eq_true rfl) ?_
   simp (config := {dsimp := false}) only [↓Zt, vz, vn, nq, Zp, Zh, Zd, Zb, Zg, Za, Zi, Ze, Zj, Zf, if_true, if_false, implies_true, forall_const, ne_eq, reduceIte, reduceCtorEq, Nat.reduceEqDiff, Nat.reduceAdd, Nat.reduceMul, Nat.reduceDiv, Nat.reduceLT, Nat.reduceSub, Nat.reduceLeDiff, Nat.reduceBNe, Nat.reduceBEq, Nat.reduceBeqDiff, List.range, List.range.loop, Zu, Tryd.ntmps56, Tryd.results56, goD, d1]
   refine gmk (ZI (b := true) rfl (fun _ => ?_) (fun hh => by cases hh))
   refine ZS hE ZE hl rfl (Nat.le_of_ble_eq_true rfl) ?_
   simp (config := {dsimp := false}) only [↓Zt, vz, vn, nq, Zp, Zh, Zd, Zb, Zg, Za, Zi, Ze, Zj, Zf, if_true, if_false, implies_true, forall_const, ne_eq, reduceIte, reduceCtorEq, Nat.reduceEqDiff, Nat.reduceAdd, Nat.reduceMul, Nat.reduceDiv, Nat.reduceLT, Nat.reduceSub, Nat.reduceLeDiff, Nat.reduceBNe, Nat.reduceBEq, Nat.reduceBeqDiff, List.range, List.range.loop, Zu, Tryd.ntmps56, Tryd.results56]
   refine gmk (Zav fun a w ha => ?_)
   subst hP
   refine ZW lv ?_ (Zau (fun g w hh => by rw [hpass]; exact hh) ha)
   exact ⟨[], [], [], ⟨rfl, rfl⟩, ⟨rfl, rfl⟩, ⟨by simp, by simp⟩, by simp, by rw [hpass]; rfl, rfl, ⟨_, rfl, by rw [hpass]; exact List.cons_eq_cons.2 ⟨Zbr _ _ _ _ _ _ _ _ _ _ _ _ _ _, rfl⟩⟩, ⟨_, rfl, rfl⟩, by rw [hpass]; exact id rfl⟩
  have d1 : decide (n < out) = false := decide_eq_false c1
  have w1 : IntKind.wrap .i64 (g.fees + n) = g.fees + n := ZaR (by omega) (by omega)
  have w2 : IntKind.wrap .i64 (g.fees + n - out) = g.fees + n - out := ZaR (by omega) (by omega)
  by_cases c2 : Zbl < g.fees + n - out
  ·rw [if_pos (.inr c2)] at hpass
   have d2 : decide (2100000000000000 < g.fees + n - out) = true := decide_eq_true c2
   refine ZS hE ZE hl rfl (Nat.le_of_ble_eq_true rfl) ?_
   simp (config := {dsimp := false}) only [↓Zt, vz, vn, nq, Zp, Zh, Zd, Zb, Zg, Za, Zi, Ze, Zj, Zf, if_true, if_false, implies_true, forall_const, ne_eq, reduceIte, reduceCtorEq, Nat.reduceEqDiff, Nat.reduceAdd, Nat.reduceMul, Nat.reduceDiv, Nat.reduceLT, Nat.reduceSub, Nat.reduceLeDiff, Nat.reduceBNe, Nat.reduceBEq, Nat.reduceBeqDiff, List.range, List.range.loop, Zu, Tryd.ntmps56, Tryd.results56, goD, d1, w1, w2, d2]
   refine gmk (ZI (b := true) rfl (fun _ => ?_) (fun hh => by cases hh))
   refine ZS hE ZE hl rfl (Nat.le_of_ble_eq_true rfl) ?_
   simp (config := {dsimp := false}) only [↓Zt, vz, vn, nq, Zp, Zh, Zd, Zb, Zg, Za, Zi, Ze, Zj, Zf, if_true, if_false, implies_true, forall_const, ne_eq, reduceIte, reduceCtorEq, Nat.reduceEqDiff, Nat.reduceAdd, Nat.reduceMul, Nat.reduceDiv, Nat.reduceLT, Nat.reduceSub, Nat.reduceLeDiff, Nat.reduceBNe, Nat.reduceBEq, Nat.reduceBeqDiff, List.range, List.range.loop, Zu, Tryd.ntmps56, Tryd.results56]
   refine gmk (Zav fun a w ha => ?_)
   subst hP
   refine ZW lv ?_ (Zau (fun g w hh => by rw [hpass]; exact hh) ha)
   exact ⟨[], [], [], ⟨rfl, rfl⟩, ⟨rfl, rfl⟩, ⟨by simp, by simp⟩, by simp, by rw [hpass]; rfl, rfl, ⟨_, rfl, by rw [hpass]; exact List.cons_eq_cons.2 ⟨Zbr _ _ _ _ _ _ _ _ _ _ _ _ _ _, rfl⟩⟩, ⟨_, rfl, rfl⟩, by rw [hpass]; exact id rfl⟩
  rw [if_neg (by omega)] at hpass
  have d2 : decide (2100000000000000 < g.fees + n - out) = false := decide_eq_false c2
  refine ZS hE ZE hl rfl (Nat.le_of_ble_eq_true rfl) ?_
  simp (config := {dsimp := false}) only [↓Zt, vz, vn, nq, Zp, Zh, Zd, Zb, Zg, Za, Zi, Ze, Zj, Zf, if_true, if_false, implies_true, forall_const, ne_eq, reduceIte, reduceCtorEq, Nat.reduceEqDiff, Nat.reduceAdd, Nat.reduceMul, Nat.reduceDiv, Nat.reduceLT, Nat.reduceSub, Nat.reduceLeDiff, Nat.reduceBNe, Nat.reduceBEq, Nat.reduceBeqDiff, List.range, List.range.loop, Zu, Tryd.ntmps56, Tryd.results56, goD, d1, w1, w2, d2]
  refine gmk (ZI (b := false) rfl (fun hh => by cases hh) (fun _ => Zbg fun a w ha => Zby ?_ ha))
  have w3 : IntKind.wrap .i64 (n - out) = n - out := ZaR (by omega) (by omega)
  have w4 : IntKind.wrap .i64 (g.fees + (n - out)) = g.fees + (n - out) := ZaR (by omega) (by omega)
  refine ZS hE ZE hl rfl (Nat.le_of_ble_eq_true rfl) ?_
  simp (config := {dsimp := false}) only [↓Zt, vz, vn, nq, Zp, Zh, Zd, Zb, Zg, Za, Zi, Ze, Zj, Zf, if_true, if_false, implies_true, forall_const, ne_eq, reduceIte, reduceCtorEq, Nat.reduceEqDiff, Nat.reduceAdd, Nat.reduceMul, Nat.reduceDiv, Nat.reduceLT, Nat.reduceSub, Nat.reduceLeDiff, Nat.reduceBNe, Nat.reduceBEq, Nat.reduceBeqDiff, List.range, List.range.loop, Zu, Tryd.ntmps56, Tryd.results56, goD, w3, w4]
  have hspent : (⟨g.made, g.left, g.spent, g.fees + (n - out)⟩ : GoP).left.length = (⟨g.made, g.left, g.spent, g.fees + (n - out)⟩ : GoP).made.length := hr'.len
  refine gmk (ZeJ (H' := HS E.P 43 gF (ZaC M w0) G bT bO gv lv ⟨g.made, g.left, g.spent, g.fees + (n - out)⟩) (fun g w hh => hh) (ZbH (Zai hE ZE 2 rfl rfl rfl ?_)))
  simp (config := {dsimp := false}) only [↓Zt, vz, vn, nq, Zp, Zh, Zd, Zb, Zg, Za, Zi, Ze, Zj, Zf, if_true, if_false, implies_true, forall_const, ne_eq, reduceIte, reduceCtorEq, Nat.reduceEqDiff, Nat.reduceAdd, Nat.reduceMul, Nat.reduceDiv, Nat.reduceLT, Nat.reduceSub, Nat.reduceLeDiff, Nat.reduceBNe, Nat.reduceBEq, Nat.reduceBeqDiff, List.range, List.range.loop, Zu, Tryd.ntmps56, Tryd.results56, List.drop_zero, List.take_succ_cons, List.take_zero]
  refine Ze3 (ZdO hE hgl (show E.P.funcs[55]? = some Tryd.f55 from Tryd.func55) (show Tryd.f55.body = some ZmH from rfl) ⟨_, Tryd.func55, rfl, rfl⟩ (fun lv' => goB blk h med mat gv bT bO (.tup []) lv' (Zao (idP t) blk h false 0 t.outs ⟨g.made, g.left, g.spent, g.fees + (n - out)⟩)) ⟨lv⟩ (fun lv' => lv') (fun _ => Zao (idP t) blk h false 0 t.outs ⟨g.made, g.left, g.spent, g.fees + (n - out)⟩) rfl rfl (some 53) rfl (show (53 : Nat) < 54 by decide) rfl
   (args' := [.bp 0 0, txD t, .bool false]) (ds' := [goD blk h med mat gv bT bO g.made lv g.spent (g.fees + (n - out))]) (tv' := [(g.made.length, 69), (g.spent.length, 69)]) ?_ ?_ ?_ ?_ (Nat.le_of_ble_eq_true rfl) (fun g1 w hl => ZkV ht hmo false h med mat gv bT bO G ⟨g.made, g.left, g.spent, g.fees + (n - out)⟩ lv hspent (by show g.made.length ≤ 1000000; rw [hm']; omega) _ g1 w hl) fun lv' => ?_)
  ·simp (config := {dsimp := false}) only [↓Zt, vz, vn, nq, Zp, Zh, Zd, Zb, Zg, Za, Zi, Ze, Zj, Zf, if_true, if_false, implies_true, forall_const, ne_eq, reduceIte, reduceCtorEq, Nat.reduceEqDiff, Nat.reduceAdd, Nat.reduceMul, Nat.reduceDiv, Nat.reduceLT, Nat.reduceSub, Nat.reduceLeDiff, Nat.reduceBNe, Nat.reduceBEq, Nat.reduceBeqDiff, List.range, List.range.loop, Zu, Tryd.ntmps56, Tryd.results56, Zeo, vb, goD, ZG]
   rfl
  ·intro _
   simp (config := {dsimp := false}) only [↓Zt, vz, vn, nq, Zp, Zh, Zd, Zb, Zg, Za, Zi, Ze, Zj, Zf, if_true, if_false, implies_true, forall_const, ne_eq, reduceIte, reduceCtorEq, Nat.reduceEqDiff, Nat.reduceAdd, Nat.reduceMul, Nat.reduceDiv, Nat.reduceLT, Nat.reduceSub, Nat.reduceLeDiff, Nat.reduceBNe, Nat.reduceBEq, Nat.reduceBeqDiff, List.range, List.range.loop, Zu, Tryd.ntmps56, Tryd.results56, vb, goD, goB, ZG]
  ·intro d hd l
   simp [ev, Zm] at hd
   rcases hd with rfl | rfl | rfl <;> simp [ZaM]
  ·simp [txD]
  refine Zax hE ZE (nx := 212) [] rfl rfl ?_
  simp (config := {dsimp := false}) only [↓Zt, vz, vn, nq, Zp, Zh, Zd, Zb, Zg, Za, Zi, Ze, Zj, Zf, if_true, if_false, implies_true, forall_const, ne_eq, reduceIte, reduceCtorEq, Nat.reduceEqDiff, Nat.reduceAdd, Nat.reduceMul, Nat.reduceDiv, Nat.reduceLT, Nat.reduceSub, Nat.reduceLeDiff, Nat.reduceBNe, Nat.reduceBEq, Nat.reduceBeqDiff, List.range, List.range.loop, Zu, Tryd.ntmps56, Tryd.results56, vb, goD, goB, ZG]
  refine ZR ?_
  refine ZS hE ZE hl rfl (Nat.le_of_ble_eq_true rfl) ?_
  simp (config := {dsimp := false}) only [↓Zt, vz, vn, nq, Zp, Zh, Zd, Zb, Zg, Za, Zi, Ze, Zj, Zf, if_true, if_false, implies_true, forall_const, ne_eq, reduceIte, reduceCtorEq, Nat.reduceEqDiff, Nat.reduceAdd, Nat.reduceMul, Nat.reduceDiv, Nat.reduceLT, Nat.reduceSub, Nat.reduceLeDiff, Nat.reduceBNe, Nat.reduceBEq, Nat.reduceBeqDiff, List.range, List.range.loop, Zu, Tryd.ntmps56, Tryd.results56]
  refine gmk (Zav fun a w ha => ?_)
  subst hP
  refine ZW lv' ?_ (Zau (fun g w hh => by rw [hpass]; exact hh) ha)
  exact ⟨[], [], [], ⟨rfl, rfl⟩, ⟨rfl, rfl⟩, ⟨by simp, by simp⟩, by simp, by rw [hpass]; rfl, rfl, ⟨_, rfl, by rw [hpass]; exact List.cons_eq_cons.2 ⟨Zbr _ _ _ _ _ _ _ _ _ _ _ _ _ _, rfl⟩⟩, ⟨_, rfl, rfl⟩, by rw [hpass]; exact id rfl⟩
end Go.Vi.CO
end

section
namespace Go.Vi.CO
open Go.Proofs
noncomputable def Zpr : Code := (Tryd.f26.body).getD .skip
def ZhS (v : Int) (p r : List Int) (t b n : Int) : D := .agg [.int .u32 v, .arr .u8 32 p, .arr .u8 32 r, .int .u32 t, .int .u32 b, .int .u32 n]
def Zdk (blk : List Int) (h med : Int) : D := .agg [.arr .u8 32 blk, .int .i64 h, .int .u32 med]
def ZiD (r : List CoinP × List CoinP × Int) : D := .tup [.sl .no 69 (ZN r.1), .sl .no 69 (ZN r.2.1), .int .i64 r.2.2]
def Zm7 (r : List CoinP × List CoinP × Int) : BF := ⟨True, ZiD r, [], [], [], []⟩
theorem ZhK {E : Env} {M : Nat → Prop} {H : Gh → World → Prop} {N : Nat} {g0 : Gh} {w0 : World} {Post : Exit → Act → World → Prop} {sl : List (Nat × D)} {s : S} {ops : Array Oper} {i nm : Nat} {o : Oper} {α : Type} (dv : α → D) (Hx : α → Gh → World → Prop) (ho : ops[i]? = some o) (hgd : o.guard = none) (hd : ∀ c, o.op ≠ .defer c) (dst : Option Tmp) (hdd : o.dst = dst) (hdst : ZbJ N dst)
  (hrun : ∀ g w a, a.tmps.size = N → ZJ g w sl a → ZO E g w → Inv g s w (after nm) → KeepsM M g0 w0 g w → H g w →
   ∃ x v w' M', ((execOp a.eval o).run E.P w = .ok (.value v) w' ∨ ((execOp a.eval o).run E.P w = .ok .skip w' ∧ v = undef)) ∧ Zq g w' (dv x) v ∧ KeepsM M' g w g w' ∧ (∀ b, b < w0.heap.size → M' b → M b) ∧ Inv g s w' (after nm) ∧ Hx x g w')
  (h : ∀ x, GOM M (Hx x) E N g0 w0 Post ops (i + 1) nm (ZaQ dst (dv x) sl) s) : GOM M H E N g0 w0 Post ops i nm sl s := by
 subst hdd
 exact Zcy dv Hx ho hgd hd hdst hrun h
theorem ZxN {M : Nat → Prop} {H : Gh → World → Prop} {N : Nat} {g0 : Gh} {w0 : World} {Post : Exit → Act → World → Prop} {sl : List (Nat × D)} {s : S} {c : Code} (i : Nat) (d1 d2 d3 d4 d5 d6 d8 d9 : D) (hbx : s.box i = some (.agg [d1, d2, d3, d4, d5, d6, .sl .full 0 [], d8, d9]))
  (h : ∀ a : Option Addr, GM M H E N g0 w0 Post c sl { s with bs := ZaW s.bs i (.agg [d1, d2, d3, d4, d5, d6, .raw (.slice a 0 0), d8, d9]) }) : GM M H E N g0 w0 Post c sl s := fun g w a hk hp => by
 obtain ⟨b, cs, ty, q1, q2, q3, q4, q5⟩ := hk.inv.box i _ hbx
 obtain ⟨c1, r1, e1, p1, c2, r2, e2, p2, c3, r3, e3, p3, c4, r4, e4, p4, c5, r5, e5, p5, c6, r6, e6, p6, c7, r7, e7, ⟨ad, cp, vs, x1, x2, x3, x4, x5⟩, p8⟩ := q5
 have x5 : cp = 0 := x5
 subst x5
 refine h ad g w a ⟨hk.size, hk.slots, hk.globs, ⟨fun j d hj => ?_, hk.inv.tok, hk.inv.fresh, hk.inv.lim, hk.inv.own⟩⟩ hp
 simp only [S.box, ZbA] at hj
 split at hj
 ·rename_i e
  subst e
  cases hj
  exact ⟨b, cs, ty, q1, q2, q3, q4, c1, r1, e1, p1, c2, r2, e2, p2, c3, r3, e3, p3, c4, r4, e4, p4, c5, r5, e5, p5, c6, r6, e6, p6, c7, r7, e7, ⟨x1, trivial⟩, p8⟩
 ·exact hk.inv.box j d hj
theorem Zv5 {G : PtP → Option CoinP} (hG : ∀ o c, G o = some c → c.pt = o ∧ c.Ok) {h mat : Int} (hh : 0 ≤ h ∧ h ≤ ZcK) {blk : List Int} (hb : blk.length = 32 ∧ bytes blk) {t : TxP} (ht : t.Ok) {g : GoP} (hr : RunOk h g) (hf : 0 ≤ g.fees ∧ g.fees ≤ Zbl) (he : (ZcF G blk h mat t g).2 = 0) :
  RunOk h (ZcF G blk h mat t g).1 ∧ (ZcF G blk h mat t g).1.made.length ≤ g.made.length + t.outs.length ∧ (ZcF G blk h mat t g).1.spent.length ≤ g.spent.length + t.ins.length ∧ 0 ≤ (ZcF G blk h mat t g).1.fees ∧ (ZcF G blk h mat t g).1.fees ≤ Zbl := by
 have hM : Zbl = 2100000000000000 := rfl
 obtain ⟨a1, a2, a3, a4, a5, a6, a7⟩ := ZhX (mat := mat) hG hh t.ins 0 g hr (Int.le_refl _) (by omega)
 unfold ZcF at he ⊢
 generalize Z6 G h mat t.ins 0 g = ig at *
 obtain ⟨g1, n, e⟩ := ig
 simp only at a1 a2 a3 a4 a5 a6 he ⊢
 by_cases h0 : e = 0
 case neg => rw [if_pos h0] at he; exact absurd he h0
 rw [if_neg (fun q => q h0)] at he ⊢
 cases hs : Zb6 0 t.outs with
 | none => rw [hs] at he; simp at he
 | some out =>
  rw [hs] at he
  simp only at he ⊢
  obtain ⟨o0, o1⟩ := ZiH t.outs 0 out (Int.le_refl _) (by omega) hs
  by_cases hc : n < out ∨ Zbl < g1.fees + n - out
  ·rw [if_pos hc] at he; simp at he
  ·rw [if_neg hc]
   have hr2 : RunOk h (⟨g1.made, g1.left, g1.spent, g1.fees + (n - out)⟩ : GoP) := ⟨a1.len, a1.made, a1.spent⟩
   have hrest := ZeM (id := idP t) (blk := blk) (h := h) (base := false) t.outs 0 (⟨g1.made, g1.left, g1.spent, g1.fees + (n - out)⟩ : GoP)
   have hmore := ZeH (id := idP t) (blk := blk) (h := h) (base := false) t.outs 0 (⟨g1.made, g1.left, g1.spent, g1.fees + (n - out)⟩ : GoP)
   have hmo := ht.mo
   refine ⟨Zjp ⟨ZpI t, ZhQ t⟩ hb hh t.outs 0 _ ht.outs (by omega) hr2, ?_, ?_, ?_, ?_⟩
   ·simp only at hmore ⊢; rw [a2] at hmore; rw [a2]; exact hmore
   ·simp only at hrest ⊢; rw [hrest.1]; exact a3
   ·simp only at hrest ⊢; rw [hrest.2]; omega
   ·simp only at hrest ⊢; rw [hrest.2]; omega
theorem Zpa {G : PtP → Option CoinP} {blk : List Int} {h mat : Int} {l : List TxP} {k : Nat} (hk : k < l.length) (g : GoP) : Zcb G blk h mat (l.drop k) g = (match ZcF G blk h mat (l.getD k default) g with
  | (g', e) => if e ≠ 0 then (g', e) else Zcb G blk h mat (l.drop (k + 1)) g') := by
 rw [List.drop_eq_getElem_cons hk, show l.getD k default = l[k] by simp [List.getD, hk]]
 rfl
structure CoIdx (G : PtP → Option CoinP) (blk : List Int) (h mat : Int) (r : List TxP) (st : GoP) (k : Nat) (g : GoP) : Prop where
 le : k ≤ r.length
 run : RunOk h g
 rest : Zcb G blk h mat r st = Zcb G blk h mat (r.drop k) g
 emade : g.made.length ≤ 1000 * (k + 1)
 espent : g.spent.length ≤ 1000 * k
 f0 : 0 ≤ g.fees
 f1 : g.fees ≤ Zbl
theorem ZtR {G : PtP → Option CoinP} {Fr : Nat → Prop} {bT bO : Nat} {gv lv : Value} {st : GoP} {g : Gh} {w : World} (h : HS E.P 43 gF Fr G bT bO gv lv st g w) : Zz (.raw lv) = true := by
 obtain ⟨q, h, _⟩ := h
 obtain ⟨a, n, c, rfl⟩ := ZlA h.left
 rfl
theorem Zvs {M : Nat → Prop} {H : Gh → World → Prop} {N : Nat} {g0 : Gh} {w0 : World} {Post : Exit → Act → World → Prop} {sl : List (Nat × D)} {s : S} {c : Code} (hH : HOk H) (ad : List (Nat × Option IntKind × Nat)) (h : Zbp sl s ad fun sl' s' => GM M H E N g0 w0 Post c sl' s') : GM M H E N g0 w0 Post c sl s := fun g w a hk hp =>
 Zco ad sl s g h hk fun sl' s' g' hG h2 h3 => hG g' w a h2 (Zf0 hH hp h3 rfl)
def Ze6 (m : List CoinP) (l : List Bool) (k : Nat) : List CoinP := ((List.range k).filter fun i => l.getD i false).map fun i => m.getD i default
theorem Zpu (m : List CoinP) (l : List Bool) (k : Nat) : Ze6 m l (k + 1) = Ze6 m l k ++ (if l.getD k false = true then [m.getD k default] else []) := by
 unfold Ze6
 rw [List.range_succ, List.filter_append, List.map_append]
 congr 1
 by_cases h : l.getD k false = true
 ·rw [if_pos h]; simp only [List.filter_cons, h, if_true, List.filter_nil, List.map_cons, List.map_nil]
 ·rw [if_neg h]
  have h' : l.getD k false = false := by simpa using h
  simp only [List.filter_cons, h', Bool.false_eq_true, if_false, List.filter_nil, List.map_nil]
theorem Zsj (m : List CoinP) (l : List Bool) (k : Nat) : (Ze6 m l k).length ≤ k := by
 unfold Ze6
 rw [List.length_map]
 exact Nat.le_trans (List.length_filter_le _ _) (by simp)
theorem Zdd {M : Nat → Prop} {H : Gh → World → Prop} {N : Nat} {g0 : Gh} {w0 : World} {sl : List (Nat × D)} {s : S} {a : Act} {w : World} (t : Nat) {o : Own} {z : Nat} (ht : Zm sl t = some (.sl o z [])) (h : AtM M H E N g0 w0 sl s a w) : AtM M H E N g0 w0 ((t, .sl .no 69 (ZN [])) :: sl) s a w := by
 obtain ⟨g, hk, hp⟩ := h
 refine ⟨g, ⟨hk.size, ⟨trivial, fun t' d hl => ?_⟩, hk.globs, hk.inv⟩, hp⟩
 simp only [Zm] at hl
 split at hl
 ·rename_i e
  subst e
  cases hl
  obtain ⟨q1, q2⟩ := hk.slots.2 _ _ ht
  refine ⟨q1, ?_⟩
  obtain ⟨ad, c', vs, e1, e2, e3, e4, e5⟩ := q2
  have e3 : vs = [] := e3
  subst e3
  exact ⟨ad, c', [], e1, e2, rfl, fun hne => absurd rfl hne, trivial⟩
 ·exact hk.slots.2 _ _ hl
theorem ZfO (s : S) (m k : Nat) (r : List CoinP × List CoinP × Int) : ZgX s m k [] [] [] (ZiD r) = ZiD r := by
 simp only [ZiD, ZgX, D.frz, D.frzs, D.ren, D.rens, ZG, Zfb]
theorem Zt0 (s : S) (a b : Nat) (ha : 8 ≤ a) (hb : 8 ≤ b) (x y : List CoinP) (e : Int) : ZgX s 0 0 [] [] [] (.tup [.sl (.tok a) 69 (ZN x), .sl (.tok b) 69 (ZN y), .int .i64 e]) = ZiD (x, y, e) := by
 simp only [ZiD, ZgX, D.frz, D.frzs, D.ren, D.rens, ZG, Zfb, Za7]
 rw [if_neg (by omega), if_neg (by omega)]
 rfl
theorem ZmK (p : ParP) (a0 : Int) (a1 a2 : List Int) (a3 a4 a5 : Int) (txs : List TxP) (htx : ∀ t ∈ txs, t.Ok) (hlen : txs.length ≤ 100) (hsm : ∀ t ∈ txs, t.ins.length ≤ 1000 ∧ t.outs.length ≤ 1000) {blk : List Int} (hb : blk.length = 32 ∧ bytes blk) (h med : Int) (hsub : ZaD p.sub) (gv : Value) (hgv : Zz (.raw gv) = true) (G : PtP → Option CoinP) (hG : ∀ o c, G o = some c → c.pt = o ∧ c.Ok)
  (g1 : Gh) (w0 : World) (hl : Low 8 g1) :
  GM (fun _ => False) (Zck gF (ZaC (fun _ => False) w0) gv G) E Tryd.f26.ntmps g1 w0 (Zcw (fun _ => False) E Tryd.f26 g1 w0 0 0 (fun _ : Unit => Zm7 (ZaH p.sub p.halv p.mat blk h txs G)) (fun _ _ _ => True))
   Zpr [(0, Zfz p), (1, .agg [ZhS a0 a1 a2 a3 a4 a5, .sl .no 4 (ZcJ txs)]), (2, Zdk blk h med), (3, .raw gv)] ⟨[], [], 8⟩ := by
 generalize hP : Zcw (fun _ => False) E Tryd.f26 g1 w0 0 0 _ _ = Post
 unfold Zpr
 simp only [Tryd.f26, Option.getD_some]
 refine ZS hE ZaJ hl rfl (Nat.le_refl _) ?_
 simp (config := {dsimp := false}) only [↓Zt, vz, vn, nq, Zp, Zh, Zd, Zb, Zg, Za, Zi, Ze, Zj, Zf, if_true, if_false, implies_true, forall_const, ne_eq, reduceIte, reduceCtorEq, Nat.reduceEqDiff, Nat.reduceAdd, Nat.reduceMul, Nat.reduceDiv, Nat.reduceLT, Nat.reduceSub, Nat.reduceLeDiff, Nat.reduceBNe, Nat.reduceBEq, Nat.reduceBeqDiff, List.range, List.range.loop, Zu, Tryd.ntmps26, Tryd.results26, Zfz, Zdk, ZhS]
 refine gmk (Z5 (Zbn ?_))
 by_cases h1 : h < 0
 ·have hres : ZaH p.sub p.halv p.mat blk h txs G = ([], [], 25) := if_pos (.inl h1)
  have d1 : decide (h < 0) = true := decide_eq_true h1
  refine ZS hE ZaJ hl rfl (Nat.le_of_ble_eq_true rfl) ?_
  simp (config := {dsimp := false}) only [↓Zt, vz, vn, nq, Zp, Zh, Zd, Zb, Zg, Za, Zi, Ze, Zj, Zf, if_true, if_false, implies_true, forall_const, ne_eq, reduceIte, reduceCtorEq, Nat.reduceEqDiff, Nat.reduceAdd, Nat.reduceMul, Nat.reduceDiv, Nat.reduceLT, Nat.reduceSub, Nat.reduceLeDiff, Nat.reduceBNe, Nat.reduceBEq, Nat.reduceBeqDiff, List.range, List.range.loop, Zu, Tryd.ntmps26, Tryd.results26, d1]
  refine gmk (ZI (b := true) rfl (fun _ => ?_) (fun hh => by cases hh))
  refine ZS hE ZaJ hl rfl (Nat.le_of_ble_eq_true rfl) ?_
  simp (config := {dsimp := false}) only [↓Zt, vz, vn, nq, Zp, Zh, Zd, Zb, Zg, Za, Zi, Ze, Zj, Zf, if_true, if_false, implies_true, forall_const, ne_eq, reduceIte, reduceCtorEq, Nat.reduceEqDiff, Nat.reduceAdd, Nat.reduceMul, Nat.reduceDiv, Nat.reduceLT, Nat.reduceSub, Nat.reduceLeDiff, Nat.reduceBNe, Nat.reduceBEq, Nat.reduceBeqDiff, List.range, List.range.loop, Zu, Tryd.ntmps26, Tryd.results26]
  refine gmk (Zav fun a w ha => ?_)
  subst hP
  refine ZW () ?_ (Zau (fun _ _ _ => trivial) (Zdd (sl := _) 9 rfl (Zdd (sl := _) 8 rfl ha)))
  rw [hres]
  exact ⟨[], [], [], ⟨rfl, rfl⟩, ⟨rfl, rfl⟩, ⟨by simp, by simp⟩, by simp, rfl, rfl, ⟨_, rfl, rfl⟩, ⟨_, rfl, rfl⟩, ZfO _ _ _ ([], [], _)⟩
 have d1 : decide (h < 0) = false := decide_eq_false h1
 by_cases h2 : ZcK < h
 ·have hres : ZaH p.sub p.halv p.mat blk h txs G = ([], [], 25) := if_pos (.inr h2)
  have d2 : decide (2147483647 < h) = true := decide_eq_true h2
  refine ZS hE ZaJ hl rfl (Nat.le_of_ble_eq_true rfl) ?_
  simp (config := {dsimp := false}) only [↓Zt, vz, vn, nq, Zp, Zh, Zd, Zb, Zg, Za, Zi, Ze, Zj, Zf, if_true, if_false, implies_true, forall_const, ne_eq, reduceIte, reduceCtorEq, Nat.reduceEqDiff, Nat.reduceAdd, Nat.reduceMul, Nat.reduceDiv, Nat.reduceLT, Nat.reduceSub, Nat.reduceLeDiff, Nat.reduceBNe, Nat.reduceBEq, Nat.reduceBeqDiff, List.range, List.range.loop, Zu, Tryd.ntmps26, Tryd.results26, d1, d2]
  refine gmk (ZI (b := true) rfl (fun _ => ?_) (fun hh => by cases hh))
  refine ZS hE ZaJ hl rfl (Nat.le_of_ble_eq_true rfl) ?_
  simp (config := {dsimp := false}) only [↓Zt, vz, vn, nq, Zp, Zh, Zd, Zb, Zg, Za, Zi, Ze, Zj, Zf, if_true, if_false, implies_true, forall_const, ne_eq, reduceIte, reduceCtorEq, Nat.reduceEqDiff, Nat.reduceAdd, Nat.reduceMul, Nat.reduceDiv, Nat.reduceLT, Nat.reduceSub, Nat.reduceLeDiff, Nat.reduceBNe, Nat.reduceBEq, Nat.reduceBeqDiff, List.range, List.range.loop, Zu, Tryd.ntmps26, Tryd.results26]
  refine gmk (Zav fun a w ha => ?_)
  subst hP
  refine ZW () ?_ (Zau (fun _ _ _ => trivial) (Zdd (sl := _) 9 rfl (Zdd (sl := _) 8 rfl ha)))
  rw [hres]
  exact ⟨[], [], [], ⟨rfl, rfl⟩, ⟨rfl, rfl⟩, ⟨by simp, by simp⟩, by simp, rfl, rfl, ⟨_, rfl, rfl⟩, ⟨_, rfl, rfl⟩, ZfO _ _ _ ([], [], _)⟩
 have d2 : decide (2147483647 < h) = false := decide_eq_false h2
 have hh : 0 ≤ h ∧ h ≤ ZcK := by constructor <;> omega
 have hc0 : ZaH p.sub p.halv p.mat blk h txs G = (match txs with
  | [] => ([], [], 0)
  | t :: r => match Zcb G blk h p.mat r (Zao (idP t) blk h true 0 t.outs Zde) with
   | (g, e) => if e ≠ 0 then ([], [], e) else match Zb6 0 t.outs with
    | none => ([], [], 32)
    | some out => if ZL p.sub p.halv h < out - g.fees then ([], [], 32) else (g.spent, Ztz g.made g.left, 0)) := by
  unfold ZaH
  rw [if_neg (by omega)]
  cases txs <;> rfl
 refine ZS hE ZaJ hl rfl (Nat.le_of_ble_eq_true rfl) ?_
 simp (config := {dsimp := false}) only [↓Zt, vz, vn, nq, Zp, Zh, Zd, Zb, Zg, Za, Zi, Ze, Zj, Zf, if_true, if_false, implies_true, forall_const, ne_eq, reduceIte, reduceCtorEq, Nat.reduceEqDiff, Nat.reduceAdd, Nat.reduceMul, Nat.reduceDiv, Nat.reduceLT, Nat.reduceSub, Nat.reduceLeDiff, Nat.reduceBNe, Nat.reduceBEq, Nat.reduceBeqDiff, List.range, List.range.loop, Zu, Tryd.ntmps26, Tryd.results26, d1, d2]
 refine gmk (ZI (b := false) rfl (fun hh => by cases hh) (fun _ => ?_))
 cases txs with
 | nil =>
  have hres := hc0
  simp only at hres
  refine ZS hE ZaJ hl rfl (Nat.le_of_ble_eq_true rfl) ?_
  simp (config := {dsimp := false}) only [↓Zt, vz, vn, nq, Zp, Zh, Zd, Zb, Zg, Za, Zi, Ze, Zj, Zf, if_true, if_false, implies_true, forall_const, ne_eq, reduceIte, reduceCtorEq, Nat.reduceEqDiff, Nat.reduceAdd, Nat.reduceMul, Nat.reduceDiv, Nat.reduceLT, Nat.reduceSub, Nat.reduceLeDiff, Nat.reduceBNe, Nat.reduceBEq, Nat.reduceBeqDiff, List.range, List.range.loop, Zu, Tryd.ntmps26, Tryd.results26, show ZcJ [] = [] from rfl, List.length_nil, show decide (((0 : Nat) : Int) = 0) = true from rfl]
  refine gmk (ZI (b := true) rfl (fun _ => ?_) (fun hh => by cases hh))
  refine ZS hE ZaJ hl rfl (Nat.le_of_ble_eq_true rfl) ?_
  simp (config := {dsimp := false}) only [↓Zt, vz, vn, nq, Zp, Zh, Zd, Zb, Zg, Za, Zi, Ze, Zj, Zf, if_true, if_false, implies_true, forall_const, ne_eq, reduceIte, reduceCtorEq, Nat.reduceEqDiff, Nat.reduceAdd, Nat.reduceMul, Nat.reduceDiv, Nat.reduceLT, Nat.reduceSub, Nat.reduceLeDiff, Nat.reduceBNe, Nat.reduceBEq, Nat.reduceBeqDiff, List.range, List.range.loop, Zu, Tryd.ntmps26, Tryd.results26]
  refine gmk (Zav fun a w ha => ?_)
  subst hP
  refine ZW () ?_ (Zau (fun _ _ _ => trivial) (Zdd (sl := _) 9 rfl (Zdd (sl := _) 8 rfl ha)))
  rw [hres]
  exact ⟨[], [], [], ⟨rfl, rfl⟩, ⟨rfl, rfl⟩, ⟨by simp, by simp⟩, by simp, rfl, rfl, ⟨_, rfl, rfl⟩, ⟨_, rfl, rfl⟩, ZfO _ _ _ ([], [], _)⟩
 | cons t r =>
  have ht := htx t (List.mem_cons_self ..)
  have hst := hsm t (List.mem_cons_self ..)
  have hlr : r.length + 1 ≤ 100 := by simpa using hlen
  have e0 : decide (((r.length + 1 : Nat) : Int) = 0) = false := decide_eq_false (by omega)
  refine ZS hE ZaJ hl rfl (Nat.le_of_ble_eq_true rfl) ?_
  simp (config := {dsimp := false}) only [↓Zt, vz, vn, nq, Zp, Zh, Zd, Zb, Zg, Za, Zi, Ze, Zj, Zf, if_true, if_false, implies_true, forall_const, ne_eq, reduceIte, reduceCtorEq, Nat.reduceEqDiff, Nat.reduceAdd, Nat.reduceMul, Nat.reduceDiv, Nat.reduceLT, Nat.reduceSub, Nat.reduceLeDiff, Nat.reduceBNe, Nat.reduceBEq, Nat.reduceBeqDiff, List.range, List.range.loop, Zu, Tryd.ntmps26, Tryd.results26, show (ZcJ (t :: r)).length = r.length + 1 by simp [ZcJ], e0]
  refine gmk (ZI (b := false) rfl (fun hh => by cases hh) (fun _ => Zbg fun a w ha => Zby ?_ ha))
  refine ZbH (Zai hE ZaJ 4 rfl rfl rfl ?_)
  simp (config := {dsimp := false}) only [↓Zt, vz, vn, nq, Zp, Zh, Zd, Zb, Zg, Za, Zi, Ze, Zj, Zf, if_true, if_false, implies_true, forall_const, ne_eq, reduceIte, reduceCtorEq, Nat.reduceEqDiff, Nat.reduceAdd, Nat.reduceMul, Nat.reduceDiv, Nat.reduceLT, Nat.reduceSub, Nat.reduceLeDiff, Nat.reduceBNe, Nat.reduceBEq, Nat.reduceBeqDiff, List.range, List.range.loop, Zu, Tryd.ntmps26, Tryd.results26, List.drop_zero, List.take_succ_cons, List.take_zero]
  refine Ze3 (ZhK (fun b : Nat => D.raw (.map (some b))) (fun b g w => Zck gF (ZaC (fun _ => False) w0) gv G g w ∧ Zd8 (ZaC (fun _ => False) w0) b #[] 0 g w) rfl rfl (fun c => by simp) (some 37) rfl (show (37 : Nat) < 112 by decide) ?_ fun bT => ?_)
  ·intro g w a hsz hs hg hi hk hget
   obtain ⟨k1, k2⟩ := ZeN hi (.map #[] 0)
   exact ⟨w.heap.size, _, _, fun _ => False, .inl (by simp [execOp, Instr.makeMap]), rfl, k1.m, fun _ _ hb => hb, k2, ZaJ.stab _ _ _ _ k1 hget, ⟨.inr hk.size, hi.own _ (Nat.le_refl _), hi.lim _ (Nat.le_refl _)⟩, World.alloc_heap_new w _⟩
  refine ZhK (fun b : Nat => D.raw (.map (some b))) (fun b => HGx gF (ZaC (fun _ => False) w0) G bT b gv (.slice none 0 0) #[] 0 #[] 0 []) rfl rfl (fun c => by simp) (some 38) rfl (show (38 : Nat) < 112 by decide) ?_ fun bO => ?_
  ·rintro g w a hsz hs hg hi hk ⟨hget, hmT⟩
   obtain ⟨k1, k2⟩ := ZeN hi (.map #[] 0)
   have hlt := Zv hmT.2
   exact ⟨w.heap.size, _, _, fun _ => False, .inl (by simp [execOp, Instr.makeMap]), rfl, k1.m, fun _ _ hb => hb, k2, ⟨⟨by omega, ZiY _ _ _ _ _ _ _ _ k1 hmT, ⟨⟨.inr hk.size, hi.own _ (Nat.le_refl _), hi.lim _ (Nat.le_refl _)⟩, World.alloc_heap_new w _⟩, .inl ⟨rfl, _, rfl⟩⟩, ZaJ.stab _ _ _ _ k1 hget⟩⟩
  refine Zax hE ZV (nx := 116) _ rfl rfl ?_
  simp (config := {dsimp := false}) only [↓Zt, vz, vn, nq, Zp, Zh, Zd, Zb, Zg, Za, Zi, Ze, Zj, Zf, if_true, if_false, implies_true, forall_const, ne_eq, reduceIte, reduceCtorEq, Nat.reduceEqDiff, Nat.reduceAdd, Nat.reduceMul, Nat.reduceDiv, Nat.reduceLT, Nat.reduceSub, Nat.reduceLeDiff, Nat.reduceBNe, Nat.reduceBEq, Nat.reduceBeqDiff, List.range, List.range.loop, Zu, Tryd.ntmps26, Tryd.results26, ZaQ, List.drop_zero, List.drop_succ_cons, hgv, show Zz (.raw (.map (some bT))) = true from rfl, show Zz (.raw (.map (some bO))) = true from rfl]
  refine ZR ?_
  have hpar : (D.agg [.agg [.int .u32 p.v, .arr .u8 32 p.p, .arr .u8 32 p.r, .int .u32 p.t, .int .u32 p.b, .int .u32 p.n], .int .u32 p.bits, .int .i64 p.itv, .int .i64 p.spc, .int .i64 p.mat, .int .i64 p.halv, .int .i64 p.sub, .int .i64 p.undo, .int .i64 p.cache, .int .u64 p.leaves, .int .i64 p.height]) = Zfz p := rfl
  refine Zg8 ZV hl (sl' := [(4, .bp 8 0), (5, .bp 12 0), (6, .bp 16 0), (8, .sl .full 0 []), (9, .sl .full 0 []), (10, .int .i64 0), (11, .bp 108 0)])
   (s' := ⟨[(8, Zfz p), (12, .agg [ZhS a0 a1 a2 a3 a4 a5, .sl .no 4 (ZcJ (t :: r))]), (16, Zdk blk h med), (108, .agg [.agg [.arr .u8 32 blk, .int .i64 h, .int .u32 med], .int .i64 p.mat, .raw gv, .raw (.map (some bT)), .raw (.map (some bO)), .sl .full 0 [], .sl .full 0 [], .sl .full 0 [], .int .i64 0])], [], 116⟩) (Nat.le_of_ble_eq_true rfl) ⟨⟨Zc rfl, rfl, Zc rfl, rfl, Zc rfl, rfl, Zc rfl, rfl, Zc rfl, rfl, Zc rfl, rfl, Zc rfl, rfl, trivial⟩, ⟨rfl, Nat.le_of_ble_eq_true rfl, rfl, rfl, Nat.le_of_ble_eq_true rfl, rfl, rfl, Nat.le_of_ble_eq_true rfl, rfl, rfl, Nat.le_of_ble_eq_true rfl, rfl, trivial⟩, trivial⟩ ?_
  refine ZxN 108 _ _ _ _ _ _ _ _ rfl fun ad => ?_
  refine ZeJ (H' := HGx gF (ZaC (fun _ => False) w0) G bT bO gv (.slice ad 0 0) #[] 0 #[] 0 []) (fun g w hh => ⟨⟨hh.ne, hh.told, hh.own, .inl ⟨rfl, ad, rfl⟩⟩, hh.get⟩) ?_
  refine ZeJ (H' := HS E.P 43 gF (ZaC (fun _ => False) w0) G bT bO gv (.slice ad 0 0) Zde) (fun g w hh => ⟨((#[], 0), (#[], 0)), hh, ⟨ZjC, fun kx vx => ⟨fun q => absurd q (Zin _ _), fun q => by obtain ⟨c, hc, _⟩ := q; cases hc⟩⟩, ⟨ZjC, fun kx vx => ⟨fun q => absurd q (Zin _ _), fun q => by obtain ⟨i, hi, _⟩ := q; exact absurd hi (Nat.not_lt_zero _)⟩⟩⟩) ?_
  refine ZsM ZE [(108, none, 69), (108, none, 69)] ?_
  simp only [Zeh, Zev, S.box, Zm, ZaW, Nat.reduceEqDiff, if_true, if_false, reduceIte, Option.map_some, Nat.reduceAdd]
  have g0 : (ZcJ (t :: r)).getD 0 .any = txD t := rfl
  have glen : (ZcJ (t :: r)).length = r.length + 1 := by simp [ZcJ]
  refine ZbH (Zai hE ZE 5 rfl rfl rfl ?_)
  simp (config := {dsimp := false}) only [↓Zt, vz, vn, nq, Zp, Zh, Zd, Zb, Zg, Za, Zi, Ze, Zj, Zf, if_true, if_false, implies_true, forall_const, ne_eq, reduceIte, reduceCtorEq, Nat.reduceEqDiff, Nat.reduceAdd, Nat.reduceMul, Nat.reduceDiv, Nat.reduceLT, Nat.reduceSub, Nat.reduceLeDiff, Nat.reduceBNe, Nat.reduceBEq, Nat.reduceBeqDiff, List.range, List.range.loop, Zu, Tryd.ntmps26, Tryd.results26, ZhS, txD, g0, glen, show Int.toNat 0 = 0 from rfl, List.drop_zero, List.take_succ_cons, List.take_zero]
  refine ⟨by omega, by omega, ?_⟩
  have hc1 : ZaH p.sub p.halv p.mat blk h (t :: r) G = (match Zcb G blk h p.mat r (Zao (idP t) blk h true 0 t.outs Zde) with
   | (g, e) => if e ≠ 0 then ([], [], e) else match Zb6 0 t.outs with
    | none => ([], [], 32)
    | some out => if ZL p.sub p.halv h < out - g.fees then ([], [], 32) else (g.spent, Ztz g.made g.left, 0)) := hc0
  clear hc0
  generalize hst0 : Zao (idP t) blk h true 0 t.outs Zde = st0 at hc1
  refine Ze3 (ZdO hE hgl (show E.P.funcs[55]? = some Tryd.f55 from Tryd.func55) (show Tryd.f55.body = some ZmH from rfl) ⟨_, Tryd.func55, rfl, rfl⟩ (fun lv' => goB blk h med p.mat gv bT bO (.tup []) lv' st0) ⟨gv⟩ (fun lv' => lv') (fun _ => st0) rfl rfl (some 46) rfl (show (46 : Nat) < 112 by decide) rfl
   (args' := [.bp 0 0, txD t, .bool true]) (ds' := [goD blk h med p.mat gv bT bO [] (.slice ad 0 0) [] 0]) (tv' := [(0, 69), (0, 69)]) ?_ ?_ ?_ ?_ (Nat.le_of_ble_eq_true rfl) (fun g1 w hl => by subst hst0; exact ZkV ht hst.2 true h med p.mat gv bT bO G Zde (.slice ad 0 0) rfl (Nat.zero_le _) _ g1 w hl) fun lv' => ?_)
  ·simp (config := {dsimp := false}) only [↓Zt, vz, vn, nq, Zp, Zh, Zd, Zb, Zg, Za, Zi, Ze, Zj, Zf, if_true, if_false, implies_true, forall_const, ne_eq, reduceIte, reduceCtorEq, Nat.reduceEqDiff, Nat.reduceAdd, Nat.reduceMul, Nat.reduceDiv, Nat.reduceLT, Nat.reduceSub, Nat.reduceLeDiff, Nat.reduceBNe, Nat.reduceBEq, Nat.reduceBeqDiff, List.range, List.range.loop, Zu, Tryd.ntmps26, Tryd.results26, Zeo, vb, goD, ZG]
   rfl
  ·intro _
   simp (config := {dsimp := false}) only [↓Zt, vz, vn, nq, Zp, Zh, Zd, Zb, Zg, Za, Zi, Ze, Zj, Zf, if_true, if_false, implies_true, forall_const, ne_eq, reduceIte, reduceCtorEq, Nat.reduceEqDiff, Nat.reduceAdd, Nat.reduceMul, Nat.reduceDiv, Nat.reduceLT, Nat.reduceSub, Nat.reduceLeDiff, Nat.reduceBNe, Nat.reduceBEq, Nat.reduceBeqDiff, List.range, List.range.loop, Zu, Tryd.ntmps26, Tryd.results26, vb, goD, goB, ZG]
  ·intro d hd l
   simp [ev, Zm] at hd
   rcases hd with rfl | rfl | rfl <;> simp [ZaM]
  ·simp [txD]
  refine Zax hE ZE (nx := 148) [] rfl rfl ?_
  simp (config := {dsimp := false}) only [↓Zt, vz, vn, nq, Zp, Zh, Zd, Zb, Zg, Za, Zi, Ze, Zj, Zf, if_true, if_false, implies_true, forall_const, ne_eq, reduceIte, reduceCtorEq, Nat.reduceEqDiff, Nat.reduceAdd, Nat.reduceMul, Nat.reduceDiv, Nat.reduceLT, Nat.reduceSub, Nat.reduceLeDiff, Nat.reduceBNe, Nat.reduceBEq, Nat.reduceBeqDiff, List.range, List.range.loop, Zu, Tryd.ntmps26, Tryd.results26, vb, goD, goB, ZG]
  refine ZR (Zg8 ZE hl (sl' := [(4, .bp 8 0), (5, .bp 12 0), (6, .bp 16 0), (8, .sl .full 0 []), (9, .sl .full 0 []), (10, .int .i64 0), (11, .bp 108 0)])
   (s' := ⟨[(8, Zfz p), (12, .agg [ZhS a0 a1 a2 a3 a4 a5, .sl .no 4 (ZcJ (t :: r))]), (16, Zdk blk h med), (108, .agg [.agg [.arr .u8 32 blk, .int .i64 h, .int .u32 med], .int .i64 p.mat, .raw gv, .raw (.map (some bT)), .raw (.map (some bO)), .sl (.tok 116) 69 (ZN st0.made), .raw lv', .sl (.tok 120) 69 (ZN st0.spent), .int .i64 st0.fees])], [(116, (st0.made.length, 69)), (120, (st0.spent.length, 69))], 148⟩) (Nat.le_of_ble_eq_true rfl) ⟨⟨Zc rfl, rfl, Zc rfl, rfl, Zc rfl, rfl, Zc rfl, rfl, Zc rfl, rfl, Zc rfl, rfl, Zc rfl, rfl, trivial⟩, ⟨rfl, Nat.le_of_ble_eq_true rfl, rfl, rfl, Nat.le_of_ble_eq_true rfl, rfl, rfl, Nat.le_of_ble_eq_true rfl, rfl, rfl, Nat.le_of_ble_eq_true rfl, rfl, trivial⟩, ⟨rfl, Nat.le_of_ble_eq_true rfl, rfl, Nat.le_of_ble_eq_true rfl, trivial⟩⟩ ?_)
  refine Z5 (ZS hE ZE hl rfl (Nat.le_of_ble_eq_true rfl) ?_)
  simp (config := {dsimp := false}) only [↓Zt, vz, vn, nq, Zp, Zh, Zd, Zb, Zg, Za, Zi, Ze, Zj, Zf, if_true, if_false, implies_true, forall_const, ne_eq, reduceIte, reduceCtorEq, Nat.reduceEqDiff, Nat.reduceAdd, Nat.reduceMul, Nat.reduceDiv, Nat.reduceLT, Nat.reduceSub, Nat.reduceLeDiff, Nat.reduceBNe, Nat.reduceBEq, Nat.reduceBeqDiff, List.range, List.range.loop, Zu, Tryd.ntmps26, Tryd.results26, ZhS, glen]
  have hdrop : List.drop (Int.toNat 1) (List.take (((r.length + 1 : Nat) : Int)).toNat (ZcJ (t :: r))) = ZcJ r := by
   rw [Int.toNat_natCast, ← glen, List.take_length]
   rfl
  rw [hdrop, ZfF]
  refine ⟨by omega, by omega, by omega, .inr trivial, ?_⟩
  have hM : Zbl = 2100000000000000 := rfl
  have hrest0 := ZeM (id := idP t) (blk := blk) (h := h) (base := true) t.outs 0 Zde
  have hmore0 := ZeH (id := idP t) (blk := blk) (h := h) (base := true) t.outs 0 Zde
  have hrun0 : RunOk h st0 := by
   rw [← hst0]
   exact Zjp ⟨ZpI t, ZhQ t⟩ hb hh t.outs 0 Zde ht.outs (by have := hst.2; omega) ⟨rfl, (fun c hc => by cases hc), (fun c hc => by cases hc)⟩
  rw [hst0] at hrest0 hmore0
  have hi0 : CoIdx G blk h p.mat r st0 0 st0 := ⟨Nat.zero_le _, hrun0, rfl, by have := hst.2; have : Zde.made.length = 0 := rfl; omega, by rw [hrest0.1]; exact Nat.le_refl _, by rw [hrest0.2]; exact Int.le_refl _, by rw [hrest0.2]; show (0 : Int) ≤ Zbl; omega⟩
  refine gmk (Zbn ?_)
  refine ZfE hl (ι := {q : Nat × Value × GoP // CoIdx G blk h p.mat r st0 q.1 q.2.2})
   (fun q => [(4, .bp 8 0), (5, .bp 12 0), (6, .bp 16 0), (8, .sl .full 0 []), (9, .sl .full 0 []), (10, .int .i64 0), (11, .bp 108 0), (49, .sl .no 4 (ZcJ r)), (50, .int .i64 (r.length : Nat)), (51, .int .i64 (q.1.1 : Nat))])
   (fun q => ⟨[(8, Zfz p), (12, .agg [ZhS a0 a1 a2 a3 a4 a5, .sl .no 4 (ZcJ (t :: r))]), (16, Zdk blk h med), (108, .agg [.agg [.arr .u8 32 blk, .int .i64 h, .int .u32 med], .int .i64 p.mat, .raw gv, .raw (.map (some bT)), .raw (.map (some bO)), .sl (.tok 116) 69 (ZN q.1.2.2.made), .raw q.1.2.1, .sl (.tok 120) 69 (ZN q.1.2.2.spent), .int .i64 q.1.2.2.fees])], [(116, (q.1.2.2.made.length, 69)), (120, (q.1.2.2.spent.length, 69))], 168⟩)
   (fun q => HS E.P 43 gF (ZaC (fun _ => False) w0) G bT bO gv q.1.2.1 q.1.2.2) (fun _ => ZE) (fun q => r.length - q.1.1) ⟨(0, lv', st0), hi0⟩ (Nat.le_of_ble_eq_true rfl) (fun _ _ h => h) ⟨⟨Zc rfl, rfl, Zc rfl, rfl, Zc rfl, rfl, Zc rfl, rfl, Zc rfl, rfl, Zc rfl, rfl, Zc rfl, rfl, Zc rfl, rfl, Zc rfl, rfl, Zc rfl, rfl, trivial⟩, ⟨rfl, Nat.le_of_ble_eq_true rfl, rfl, rfl, Nat.le_of_ble_eq_true rfl, rfl, rfl, Nat.le_of_ble_eq_true rfl, rfl, rfl, Nat.le_of_ble_eq_true rfl, rfl, trivial⟩, ⟨rfl, Nat.le_of_ble_eq_true rfl, rfl, Nat.le_of_ble_eq_true rfl, trivial⟩⟩ ?_
  rintro ⟨⟨k, lv, g⟩, hk⟩
  simp only at hk ⊢
  refine ZS hE ZE hl rfl (Nat.le_of_ble_eq_true rfl) ?_
  simp (config := {dsimp := false}) only [↓Zt, vz, vn, nq, Zp, Zh, Zd, Zb, Zg, Za, Zi, Ze, Zj, Zf, if_true, if_false, implies_true, forall_const, ne_eq, reduceIte, reduceCtorEq, Nat.reduceEqDiff, Nat.reduceAdd, Nat.reduceMul, Nat.reduceDiv, Nat.reduceLT, Nat.reduceSub, Nat.reduceLeDiff, Nat.reduceBNe, Nat.reduceBEq, Nat.reduceBeqDiff, List.range, List.range.loop, Zu, Tryd.ntmps26, Tryd.results26]
  by_cases hkl : k < r.length
  case neg =>
   obtain rfl : k = r.length := by have := hk.le; omega
   have d3 : decide (((r.length : Nat) : Int) < ((r.length : Nat) : Int)) = false := decide_eq_false (by omega)
   have hpas : Zcb G blk h p.mat r st0 = (g, 0) := by rw [hk.rest, List.drop_length]; rfl
   refine gmk (Z5 (ZI (b := decide (((r.length : Nat) : Int) < ((r.length : Nat) : Int))) rfl (fun e => by rw [d3] at e; cases e) (fun _ => ZiG fun a w ha => Zby ?_ ha)))
   rw [hpas] at hc1
   simp only [ne_eq, not_true_eq_false, if_false] at hc1
   have hf0 := hk.f0
   have hf1 := hk.f1
   refine Zg8 ZE hl (sl' := [(4, .bp 8 0), (5, .bp 12 0), (6, .bp 16 0), (8, .sl .full 0 []), (9, .sl .full 0 []), (10, .int .i64 0), (11, .bp 108 0)])
    (s' := ⟨[(8, Zfz p), (12, .agg [ZhS a0 a1 a2 a3 a4 a5, .sl .no 4 (ZcJ (t :: r))]), (16, Zdk blk h med), (108, .agg [.agg [.arr .u8 32 blk, .int .i64 h, .int .u32 med], .int .i64 p.mat, .raw gv, .raw (.map (some bT)), .raw (.map (some bO)), .sl (.tok 116) 69 (ZN g.made), .raw lv, .sl (.tok 120) 69 (ZN g.spent), .int .i64 g.fees])], [(116, (g.made.length, 69)), (120, (g.spent.length, 69))], 172⟩) (Nat.le_of_ble_eq_true rfl) ⟨⟨Zc rfl, rfl, Zc rfl, rfl, Zc rfl, rfl, Zc rfl, rfl, Zc rfl, rfl, Zc rfl, rfl, Zc rfl, rfl, trivial⟩, ⟨rfl, Nat.le_of_ble_eq_true rfl, rfl, rfl, Nat.le_of_ble_eq_true rfl, rfl, rfl, Nat.le_of_ble_eq_true rfl, rfl, rfl, Nat.le_of_ble_eq_true rfl, rfl, trivial⟩, ⟨rfl, Nat.le_of_ble_eq_true rfl, rfl, Nat.le_of_ble_eq_true rfl, trivial⟩⟩ ?_
   have hany := Zq2 ht.any
   cases hsum : Zb6 0 t.outs with
   | none =>
    simp only [hsum] at hc1
    refine Z5 ?_
    refine ZS hE ZE hl rfl (Nat.le_of_ble_eq_true rfl) ?_
    simp (config := {dsimp := false}) only [↓Zt, vz, vn, nq, Zp, Zh, Zd, Zb, Zg, Za, Zi, Ze, Zj, Zf, if_true, if_false, implies_true, forall_const, ne_eq, reduceIte, reduceCtorEq, Nat.reduceEqDiff, Nat.reduceAdd, Nat.reduceMul, Nat.reduceDiv, Nat.reduceLT, Nat.reduceSub, Nat.reduceLeDiff, Nat.reduceBNe, Nat.reduceBEq, Nat.reduceBeqDiff, List.range, List.range.loop, Zu, Tryd.ntmps26, Tryd.results26, ZhS, txD, g0, glen, show Int.toNat 0 = 0 from rfl, PF.toR, Zl, Zdh, hsum, Zkd, ZfP, Zd4, Zmt, Zl8]
    refine ⟨by omega, by omega, hany, ?_⟩
    refine gmk (Z5 (Zh5 hE ZE hl rfl (Nat.le_of_ble_eq_true rfl) ?_))
    simp (config := {dsimp := false}) only [↓Zt, vz, vn, nq, Zp, Zh, Zd, Zb, Zg, Za, Zi, Ze, Zj, Zf, if_true, if_false, implies_true, forall_const, ne_eq, reduceIte, reduceCtorEq, Nat.reduceEqDiff, Nat.reduceAdd, Nat.reduceMul, Nat.reduceDiv, Nat.reduceLT, Nat.reduceSub, Nat.reduceLeDiff, Nat.reduceBNe, Nat.reduceBEq, Nat.reduceBeqDiff, List.range, List.range.loop, Zu, Tryd.ntmps26, Tryd.results26]
    refine Zb0 [4, 6, 8, 9, 10, 11, 15, 16] (by kernel_rfl) ?_
    simp (config := {dsimp := false}) only [↓Zt, vz, vn, nq, Zp, Zh, Zd, Zb, Zg, Za, Zi, Ze, Zj, Zf, if_true, if_false, implies_true, forall_const, ne_eq, reduceIte, reduceCtorEq, Nat.reduceEqDiff, Nat.reduceAdd, Nat.reduceMul, Nat.reduceDiv, Nat.reduceLT, Nat.reduceSub, Nat.reduceLeDiff, Nat.reduceBNe, Nat.reduceBEq, Nat.reduceBeqDiff, List.range, List.range.loop, Zu, Tryd.ntmps26, Tryd.results26]
    refine ZR (ZI (b := true) rfl (fun _ => ?_) (fun hh => by cases hh))
    refine ZS hE ZE hl rfl (Nat.le_of_ble_eq_true rfl) ?_
    simp (config := {dsimp := false}) only [↓Zt, vz, vn, nq, Zp, Zh, Zd, Zb, Zg, Za, Zi, Ze, Zj, Zf, if_true, if_false, implies_true, forall_const, ne_eq, reduceIte, reduceCtorEq, Nat.reduceEqDiff, Nat.reduceAdd, Nat.reduceMul, Nat.reduceDiv, Nat.reduceLT, Nat.reduceSub, Nat.reduceLeDiff, Nat.reduceBNe, Nat.reduceBEq, Nat.reduceBeqDiff, List.range, List.range.loop, Zu, Tryd.ntmps26, Tryd.results26]
    refine gmk (Zav fun a w ha => ?_)
    subst hP
    refine ZW () ?_ (Zau (fun _ _ _ => trivial) (Zdd (sl := _) 9 rfl (Zdd (sl := _) 8 rfl ha)))
    rw [hc1]
    exact ⟨[], [], [], ⟨rfl, rfl⟩, ⟨rfl, rfl⟩, ⟨by simp, by simp⟩, by simp, rfl, rfl, ⟨_, rfl, rfl⟩, ⟨_, rfl, rfl⟩, ZfO _ _ _ ([], [], _)⟩
   | some out =>
    simp only [hsum] at hc1
    obtain ⟨o0, o1⟩ := ZiH t.outs 0 out (Int.le_refl _) (by omega) hsum
    have hi64 : ZaD p.sub ∧ ZaD h := ⟨hsub, by have q1 := hh.1; have q2 := hh.2; simp only [ZcK] at q2; constructor <;> omega⟩
    have w1 : IntKind.wrap .i64 (out - g.fees) = out - g.fees := ZaR (by omega) (by omega)
    refine Z5 ?_
    refine ZS hE ZE hl rfl (Nat.le_of_ble_eq_true rfl) ?_
    simp (config := {dsimp := false}) only [↓Zt, vz, vn, nq, Zp, Zh, Zd, Zb, Zg, Za, Zi, Ze, Zj, Zf, if_true, if_false, implies_true, forall_const, ne_eq, reduceIte, reduceCtorEq, Nat.reduceEqDiff, Nat.reduceAdd, Nat.reduceMul, Nat.reduceDiv, Nat.reduceLT, Nat.reduceSub, Nat.reduceLeDiff, Nat.reduceBNe, Nat.reduceBEq, Nat.reduceBeqDiff, List.range, List.range.loop, Zu, Tryd.ntmps26, Tryd.results26, ZhS, txD, g0, glen, show Int.toNat 0 = 0 from rfl, PF.toR, Zl, Zdh, hsum, Zkd, ZfP, Zd4, Zmt, Zl8]
    refine ⟨by omega, by omega, hany, ?_⟩
    refine gmk (Z5 (Zh5 hE ZE hl rfl (Nat.le_of_ble_eq_true rfl) ?_))
    simp (config := {dsimp := false}) only [↓Zt, vz, vn, nq, Zp, Zh, Zd, Zb, Zg, Za, Zi, Ze, Zj, Zf, if_true, if_false, implies_true, forall_const, ne_eq, reduceIte, reduceCtorEq, Nat.reduceEqDiff, Nat.reduceAdd, Nat.reduceMul, Nat.reduceDiv, Nat.reduceLT, Nat.reduceSub, Nat.reduceLeDiff, Nat.reduceBNe, Nat.reduceBEq, Nat.reduceBeqDiff, List.range, List.range.loop, Zu, Tryd.ntmps26, Tryd.results26]
    refine Zb0 [4, 6, 8, 9, 10, 11, 15, 16] (by kernel_rfl) ?_
    by_cases hbad : ZL p.sub p.halv h < out - g.fees
    ·rw [if_pos hbad] at hc1
     have d5 : decide (ZL p.sub p.halv h < out - g.fees) = true := decide_eq_true hbad
     simp (config := {dsimp := false}) only [↓Zt, vz, vn, nq, Zp, Zh, Zd, Zb, Zg, Za, Zi, Ze, Zj, Zf, if_true, if_false, implies_true, forall_const, ne_eq, reduceIte, reduceCtorEq, Nat.reduceEqDiff, Nat.reduceAdd, Nat.reduceMul, Nat.reduceDiv, Nat.reduceLT, Nat.reduceSub, Nat.reduceLeDiff, Nat.reduceBNe, Nat.reduceBEq, Nat.reduceBeqDiff, List.range, List.range.loop, Zu, Tryd.ntmps26, Tryd.results26, Zfz, Zdk, w1, PF.toR, Zl, d5, Z7, Z4, ZaB, ZaA]
     refine ⟨hi64.1, hi64.2, ?_⟩
     refine ZR (ZI (b := true) rfl (fun _ => ?_) (fun hh => by cases hh))
     refine ZS hE ZE hl rfl (Nat.le_of_ble_eq_true rfl) ?_
     simp (config := {dsimp := false}) only [↓Zt, vz, vn, nq, Zp, Zh, Zd, Zb, Zg, Za, Zi, Ze, Zj, Zf, if_true, if_false, implies_true, forall_const, ne_eq, reduceIte, reduceCtorEq, Nat.reduceEqDiff, Nat.reduceAdd, Nat.reduceMul, Nat.reduceDiv, Nat.reduceLT, Nat.reduceSub, Nat.reduceLeDiff, Nat.reduceBNe, Nat.reduceBEq, Nat.reduceBeqDiff, List.range, List.range.loop, Zu, Tryd.ntmps26, Tryd.results26]
     refine gmk (Zav fun a w ha => ?_)
     subst hP
     refine ZW () ?_ (Zau (fun _ _ _ => trivial) (Zdd (sl := _) 9 rfl (Zdd (sl := _) 8 rfl ha)))
     rw [hc1]
     exact ⟨[], [], [], ⟨rfl, rfl⟩, ⟨rfl, rfl⟩, ⟨by simp, by simp⟩, by simp, rfl, rfl, ⟨_, rfl, rfl⟩, ⟨_, rfl, rfl⟩, ZfO _ _ _ ([], [], _)⟩
    rw [if_neg hbad] at hc1
    have d5 : decide (ZL p.sub p.halv h < out - g.fees) = false := decide_eq_false hbad
    simp (config := {dsimp := false}) only [↓Zt, vz, vn, nq, Zp, Zh, Zd, Zb, Zg, Za, Zi, Ze, Zj, Zf, if_true, if_false, implies_true, forall_const, ne_eq, reduceIte, reduceCtorEq, Nat.reduceEqDiff, Nat.reduceAdd, Nat.reduceMul, Nat.reduceDiv, Nat.reduceLT, Nat.reduceSub, Nat.reduceLeDiff, Nat.reduceBNe, Nat.reduceBEq, Nat.reduceBeqDiff, List.range, List.range.loop, Zu, Tryd.ntmps26, Tryd.results26, Zfz, Zdk, w1, PF.toR, Zl, d5, Z7, Z4, ZaB, ZaA]
    refine ⟨hi64.1, hi64.2, ?_⟩
    refine ZR (ZI (b := false) rfl (fun hh => by cases hh) (fun _ => Zbg fun a w ha => Zby ?_ ha))
    refine Zg8 ZE hl (sl' := [(8, .sl .full 0 []), (9, .sl .full 0 []), (10, .int .i64 0), (11, .bp 108 0)])
     (s' := ⟨[(8, Zfz p), (12, .agg [ZhS a0 a1 a2 a3 a4 a5, .sl .no 4 (ZcJ (t :: r))]), (16, Zdk blk h med), (108, .agg [.agg [.arr .u8 32 blk, .int .i64 h, .int .u32 med], .int .i64 p.mat, .raw gv, .raw (.map (some bT)), .raw (.map (some bO)), .sl (.tok 116) 69 (ZN g.made), .raw lv, .sl (.tok 120) 69 (ZN g.spent), .int .i64 g.fees])], [(116, (g.made.length, 69)), (120, (g.spent.length, 69))], 280⟩) (Nat.le_of_ble_eq_true rfl) ⟨⟨Zc rfl, rfl, Zc rfl, rfl, Zc rfl, rfl, Zc rfl, rfl, trivial⟩, ⟨rfl, Nat.le_of_ble_eq_true rfl, rfl, rfl, Nat.le_of_ble_eq_true rfl, rfl, rfl, Nat.le_of_ble_eq_true rfl, rfl, rfl, Nat.le_of_ble_eq_true rfl, rfl, trivial⟩, ⟨rfl, Nat.le_of_ble_eq_true rfl, rfl, Nat.le_of_ble_eq_true rfl, trivial⟩⟩ ?_
    refine Z5 (ZS hE ZE hl rfl (Nat.le_of_ble_eq_true rfl) ?_)
    simp (config := {dsimp := false}) only [↓Zt, vz, vn, nq, Zp, Zh, Zd, Zb, Zg, Za, Zi, Ze, Zj, Zf, if_true, if_false, implies_true, forall_const, ne_eq, reduceIte, reduceCtorEq, Nat.reduceEqDiff, Nat.reduceAdd, Nat.reduceMul, Nat.reduceDiv, Nat.reduceLT, Nat.reduceSub, Nat.reduceLeDiff, Nat.reduceBNe, Nat.reduceBEq, Nat.reduceBeqDiff, List.range, List.range.loop, Zu, Tryd.ntmps26, Tryd.results26]
    refine gmk (Zbn ?_)
    refine Zrx (Hx := fun (q : (Array MapEntry × Nat) × (Array MapEntry × Nat)) g' w => HGx gF (ZaC (fun _ => False) w0) G bT bO gv lv q.1.1 q.1.2 q.2.1 q.2.2 g.left g' w) (fun g' w hh => by obtain ⟨q, hq, _⟩ := hh; exact ⟨q, hq⟩) fun q => ?_
    refine Zvs ZV [(9, none, 69)] ?_
    simp only [Zbp, S.box, Zm, ZaW, ZaQ, Nat.reduceEqDiff, if_true, if_false, reduceIte, Option.map_some, Nat.reduceAdd]
    have hgl0 : g.left.length = g.made.length := hk.run.len
    have hgm : g.made.length ≤ 1000000 := by have := hk.emade; omega
    refine ZfE hl (ι := {k : Nat // k ≤ g.made.length})
     (fun k => [(8, .sl .full 0 []), (9, .sl (.tok 304) 69 (ZN (Ze6 g.made g.left k.1))), (11, .bp 108 0), (88, .sl (.tok 116) 69 (ZN g.made)), (89, .int .i64 (g.made.length : Nat)), (90, .int .i64 (k.1 : Nat))])
     (fun k => ⟨[(108, .agg [.agg [.arr .u8 32 blk, .int .i64 h, .int .u32 med], .int .i64 p.mat, .raw gv, .raw (.map (some bT)), .raw (.map (some bO)), .sl (.tok 116) 69 (ZN g.made), .raw lv, .sl (.tok 120) 69 (ZN g.spent), .int .i64 g.fees])], [(116, (g.made.length, 69)), (120, (g.spent.length, 69)), (304, ((Ze6 g.made g.left k.1).length, 69))], 308⟩)
     (fun _ g' w => HGx gF (ZaC (fun _ => False) w0) G bT bO gv lv q.1.1 q.1.2 q.2.1 q.2.2 g.left g' w) (fun _ => ZV) (fun k => g.made.length - k.1) ⟨0, Nat.zero_le _⟩ (Nat.le_of_ble_eq_true rfl) (fun _ _ h => h) ?_ ?_
    ·have e0 : Ze6 g.made g.left 0 = [] := rfl
     simp only [e0, Zad]
     exact ⟨⟨Zc rfl, rfl, Zc rfl, rfl, Zc rfl, rfl, Zc rfl, rfl, Zc rfl, rfl, Zc rfl, rfl, trivial⟩, ⟨rfl, Nat.le_of_ble_eq_true rfl, rfl, trivial⟩, ⟨rfl, Nat.le_of_ble_eq_true rfl, rfl, Nat.le_of_ble_eq_true rfl, rfl, Nat.le_of_ble_eq_true rfl, trivial⟩⟩
    rintro ⟨k, hk2⟩
    simp only
    refine ZS hE ZV hl rfl (Nat.le_of_ble_eq_true rfl) ?_
    simp (config := {dsimp := false}) only [↓Zt, vz, vn, nq, Zp, Zh, Zd, Zb, Zg, Za, Zi, Ze, Zj, Zf, if_true, if_false, implies_true, forall_const, ne_eq, reduceIte, reduceCtorEq, Nat.reduceEqDiff, Nat.reduceAdd, Nat.reduceMul, Nat.reduceDiv, Nat.reduceLT, Nat.reduceSub, Nat.reduceLeDiff, Nat.reduceBNe, Nat.reduceBEq, Nat.reduceBeqDiff, List.range, List.range.loop, Zu, Tryd.ntmps26, Tryd.results26]
    by_cases hkm : k < g.made.length
    case neg =>
     obtain rfl : k = g.made.length := by omega
     have d6 : decide (((g.made.length : Nat) : Int) < ((g.made.length : Nat) : Int)) = false := decide_eq_false (by omega)
     refine gmk (Z5 (ZI (b := decide (((g.made.length : Nat) : Int) < ((g.made.length : Nat) : Int))) rfl (fun e => by rw [d6] at e; cases e) (fun _ => ZiG fun a w ha => Zby ?_ ha)))
     refine ZS hE ZV hl rfl (Nat.le_of_ble_eq_true rfl) ?_
     simp (config := {dsimp := false}) only [↓Zt, vz, vn, nq, Zp, Zh, Zd, Zb, Zg, Za, Zi, Ze, Zj, Zf, if_true, if_false, implies_true, forall_const, ne_eq, reduceIte, reduceCtorEq, Nat.reduceEqDiff, Nat.reduceAdd, Nat.reduceMul, Nat.reduceDiv, Nat.reduceLT, Nat.reduceSub, Nat.reduceLeDiff, Nat.reduceBNe, Nat.reduceBEq, Nat.reduceBeqDiff, List.range, List.range.loop, Zu, Tryd.ntmps26, Tryd.results26]
     refine gmk (Zav fun a w ha => ?_)
     subst hP
     refine ZW () ?_ (Zau (fun _ _ _ => trivial) ha)
     rw [hc1]
     exact ⟨[], [], [], ⟨rfl, rfl⟩, ⟨rfl, rfl⟩, ⟨by simp, by simp⟩, by simp, rfl, rfl, ⟨_, rfl, rfl⟩, ⟨_, rfl, rfl⟩, Zt0 _ _ _ (by decide) (by decide) _ _ _⟩
    have d6 : decide (((k : Nat) : Int) < ((g.made.length : Nat) : Int)) = true := decide_eq_true (by omega)
    refine gmk (Z5 (ZI (b := decide (((k : Nat) : Int) < ((g.made.length : Nat) : Int))) rfl (fun _ => Zbg fun a w ha => Zby ?_ ha) (fun e => by rw [d6] at e; cases e)))
    refine Z5 (Zbn ?_)
    have g0k := Zgq g.made k hkm
    have hls := Zpu g.made g.left k
    generalize g.made.getD k default = c at g0k hls
    refine ZS hE ZV hl rfl (Nat.le_of_ble_eq_true rfl) ?_
    simp (config := {dsimp := false}) only [↓Zt, vz, vn, nq, Zp, Zh, Zd, Zb, Zg, Za, Zi, Ze, Zj, Zf, if_true, if_false, implies_true, forall_const, ne_eq, reduceIte, reduceCtorEq, Nat.reduceEqDiff, Nat.reduceAdd, Nat.reduceMul, Nat.reduceDiv, Nat.reduceLT, Nat.reduceSub, Nat.reduceLeDiff, Nat.reduceBNe, Nat.reduceBEq, Nat.reduceBeqDiff, List.range, List.range.loop, Zu, Tryd.ntmps26, Tryd.results26, Int.toNat_natCast, g0k, Zag, Zad]
    refine ⟨by omega, by omega, ?_⟩
    refine gmk (ZbH (Zai hE ZV 5 rfl rfl rfl ?_))
    simp (config := {dsimp := false}) only [↓Zt, vz, vn, nq, Zp, Zh, Zd, Zb, Zg, Za, Zi, Ze, Zj, Zf, if_true, if_false, implies_true, forall_const, ne_eq, reduceIte, reduceCtorEq, Nat.reduceEqDiff, Nat.reduceAdd, Nat.reduceMul, Nat.reduceDiv, Nat.reduceLT, Nat.reduceSub, Nat.reduceLeDiff, Nat.reduceBNe, Nat.reduceBEq, Nat.reduceBeqDiff, List.range, List.range.loop, Zu, Tryd.ntmps26, Tryd.results26, List.drop_zero, List.take_succ_cons, List.take_zero]
    refine Ze3 (Zv7 hE Zlt rfl ty4 rfl rfl (n := k) rfl rfl rfl rfl (by decide) rfl rfl rfl rfl (by decide) rfl rfl (by omega) fun b => ?_)
    refine Zax hE ZV (nx := 356) [] rfl rfl ?_
    simp (config := {dsimp := false}) only [↓Zt, vz, vn, nq, Zp, Zh, Zd, Zb, Zg, Za, Zi, Ze, Zj, Zf, if_true, if_false, implies_true, forall_const, ne_eq, reduceIte, reduceCtorEq, Nat.reduceEqDiff, Nat.reduceAdd, Nat.reduceMul, Nat.reduceDiv, Nat.reduceLT, Nat.reduceSub, Nat.reduceLeDiff, Nat.reduceBNe, Nat.reduceBEq, Nat.reduceBeqDiff, List.range, List.range.loop, Zu, Tryd.ntmps26, Tryd.results26]
    refine ZR ?_
    by_cases hlk : g.left.getD k false = true
    case neg =>
     rw [if_neg hlk, List.append_nil] at hls
     refine ZI (b := g.left.getD k false) rfl (fun e => absurd e hlk) (fun _ => Zbg fun a w ha => Zby ?_ ha)
     refine Zh5 hE ZV hl rfl (Nat.le_of_ble_eq_true rfl) ?_
     simp (config := {dsimp := false}) only [↓Zt, vz, vn, nq, Zp, Zh, Zd, Zb, Zg, Za, Zi, Ze, Zj, Zf, if_true, if_false, implies_true, forall_const, ne_eq, reduceIte, reduceCtorEq, Nat.reduceEqDiff, Nat.reduceAdd, Nat.reduceMul, Nat.reduceDiv, Nat.reduceLT, Nat.reduceSub, Nat.reduceLeDiff, Nat.reduceBNe, Nat.reduceBEq, Nat.reduceBeqDiff, List.range, List.range.loop, Zu, Tryd.ntmps26, Tryd.results26]
     refine ZdM fun a w ha => ⟨⟨k + 1, hkm⟩, ZcH ZV hl (Nat.le_of_ble_eq_true rfl) ?_ ha, by (try simp only); omega⟩
     have e : IntKind.wrap .i64 (((k : Nat) : Int) + 1) = ((k + 1 : Nat) : Int) := by rw [ZaR (by omega) (by omega)]; omega
     rw [e]
     simp only [hls]
     exact ⟨⟨Zc rfl, rfl, Zc rfl, rfl, Zc rfl, rfl, Zc rfl, rfl, Zc rfl, rfl, Zc rfl, rfl, trivial⟩, ⟨rfl, Nat.le_of_ble_eq_true rfl, rfl, trivial⟩, ⟨rfl, Nat.le_of_ble_eq_true rfl, rfl, Nat.le_of_ble_eq_true rfl, rfl, Nat.le_of_ble_eq_true rfl, trivial⟩⟩
    rw [if_pos hlk] at hls
    refine ZI (b := g.left.getD k false) rfl (fun _ => ?_) (fun e => absurd hlk (by rw [e]; decide))
    have hlen3 := Zsj g.made g.left k
    refine Zh5 hE ZV hl rfl (Nat.le_of_ble_eq_true rfl) ?_
    simp (config := {dsimp := false}) only [↓Zt, vz, vn, nq, Zp, Zh, Zd, Zb, Zg, Za, Zi, Ze, Zj, Zf, if_true, if_false, implies_true, forall_const, ne_eq, reduceIte, reduceCtorEq, Nat.reduceEqDiff, Nat.reduceAdd, Nat.reduceMul, Nat.reduceDiv, Nat.reduceLT, Nat.reduceSub, Nat.reduceLeDiff, Nat.reduceBNe, Nat.reduceBEq, Nat.reduceBeqDiff, List.range, List.range.loop, Zu, Tryd.ntmps26, Tryd.results26]
    refine ⟨by rw [Zad], by rw [Zad]; omega, .inr trivial, .inr trivial, ?_⟩
    have hls2 : ZN (Ze6 g.made g.left k) ++ [Zag c] = ZN (Ze6 g.made g.left (k + 1)) := by rw [Zgv, hls]
    rw [show (D.agg [.agg [.arr .u8 32 c.tx, .int .u32 c.ix], .arr .u8 32 c.blk, .int .i64 c.h, .bool c.base, .agg [.int .i64 c.v, .sli .no .u8 c.sc]]).bare = Zag c from rfl, hls2]
    intro a w ha
    refine Zby ?_ ha
    refine Zh5 hE ZV hl rfl (Nat.le_of_ble_eq_true rfl) ?_
    simp (config := {dsimp := false}) only [↓Zt, vz, vn, nq, Zp, Zh, Zd, Zb, Zg, Za, Zi, Ze, Zj, Zf, if_true, if_false, implies_true, forall_const, ne_eq, reduceIte, reduceCtorEq, Nat.reduceEqDiff, Nat.reduceAdd, Nat.reduceMul, Nat.reduceDiv, Nat.reduceLT, Nat.reduceSub, Nat.reduceLeDiff, Nat.reduceBNe, Nat.reduceBEq, Nat.reduceBeqDiff, List.range, List.range.loop, Zu, Tryd.ntmps26, Tryd.results26]
    refine ZdM fun a w ha => ⟨⟨k + 1, hkm⟩, ZcH ZV hl (Nat.le_of_ble_eq_true rfl) ?_ ha, by (try simp only); omega⟩
    have e : IntKind.wrap .i64 (((k : Nat) : Int) + 1) = ((k + 1 : Nat) : Int) := by rw [ZaR (by omega) (by omega)]; omega
    have e2 : (Ze6 g.made g.left (k + 1)).length = (Ze6 g.made g.left k).length + 1 := by rw [hls]; simp
    rw [e]
    simp only [e2, Zad]
    exact ⟨⟨Zc rfl, rfl, Zc rfl, rfl, Zc rfl, rfl, Zc rfl, rfl, Zc rfl, rfl, Zc rfl, rfl, trivial⟩, ⟨rfl, Nat.le_of_ble_eq_true rfl, rfl, trivial⟩, ⟨rfl, Nat.le_of_ble_eq_true rfl, rfl, Nat.le_of_ble_eq_true rfl, rfl, Nat.le_of_ble_eq_true rfl, trivial⟩⟩
  have d3 : decide (((k : Nat) : Int) < ((r.length : Nat) : Int)) = true := decide_eq_true (by omega)
  refine gmk (Zc0 (fun g w hh => ZtR hh) fun hlv => ?_)
  refine ZS hE ZE hl rfl (Nat.le_of_ble_eq_true rfl) ?_
  simp (config := {dsimp := false}) only [↓Zt, vz, vn, nq, Zp, Zh, Zd, Zb, Zg, Za, Zi, Ze, Zj, Zf, if_true, if_false, implies_true, forall_const, ne_eq, reduceIte, reduceCtorEq, Nat.reduceEqDiff, Nat.reduceAdd, Nat.reduceMul, Nat.reduceDiv, Nat.reduceLT, Nat.reduceSub, Nat.reduceLeDiff, Nat.reduceBNe, Nat.reduceBEq, Nat.reduceBeqDiff, List.range, List.range.loop, Zu, Tryd.ntmps26, Tryd.results26, d3]
  have gk := ZtE r k hkl
  have htk := htx _ (List.mem_cons_of_mem _ (ZaI hkl))
  have hsk := hsm _ (List.mem_cons_of_mem _ (ZaI hkl))
  have ZfH := Zpa (G := G) (blk := blk) (h := h) (mat := p.mat) hkl g
  have hpok := Zv5 (mat := p.mat) hG hh hb htk hk.run ⟨hk.f0, hk.f1⟩
  generalize r.getD k default = tk at *
  refine gmk (Z5 (Zbn ?_))
  refine ZS hE ZE hl rfl (Nat.le_of_ble_eq_true rfl) ?_
  simp (config := {dsimp := false}) only [↓Zt, vz, vn, nq, Zp, Zh, Zd, Zb, Zg, Za, Zi, Ze, Zj, Zf, if_true, if_false, implies_true, forall_const, ne_eq, reduceIte, reduceCtorEq, Nat.reduceEqDiff, Nat.reduceAdd, Nat.reduceMul, Nat.reduceDiv, Nat.reduceLT, Nat.reduceSub, Nat.reduceLeDiff, Nat.reduceBNe, Nat.reduceBEq, Nat.reduceBeqDiff, List.range, List.range.loop, Zu, Tryd.ntmps26, Tryd.results26, Int.toNat_natCast, gk, txD]
  refine ⟨by omega, by omega, ?_⟩
  refine gmk (ZbH (Zai hE ZE 2 rfl rfl rfl ?_))
  simp (config := {dsimp := false}) only [↓Zt, vz, vn, nq, Zp, Zh, Zd, Zb, Zg, Za, Zi, Ze, Zj, Zf, if_true, if_false, implies_true, forall_const, ne_eq, reduceIte, reduceCtorEq, Nat.reduceEqDiff, Nat.reduceAdd, Nat.reduceMul, Nat.reduceDiv, Nat.reduceLT, Nat.reduceSub, Nat.reduceLeDiff, Nat.reduceBNe, Nat.reduceBEq, Nat.reduceBeqDiff, List.range, List.range.loop, Zu, Tryd.ntmps26, Tryd.results26, List.drop_zero, List.take_succ_cons, List.take_zero]
  have hem := hk.emade
  have hes := hk.espent
  refine Ze3 (ZdO hE hgl (show E.P.funcs[56]? = some Tryd.f56 from Tryd.func56) (show Tryd.f56.body = some Zpn from rfl) ⟨_, Tryd.func56, rfl, rfl⟩ (fun lv' => goB blk h med p.mat gv bT bO (.int .i64 (ZcF G blk h p.mat tk g).2) lv' (ZcF G blk h p.mat tk g).1) ⟨gv⟩ (fun lv' => lv') (fun _ => (ZcF G blk h p.mat tk g).1) rfl rfl (some 57) rfl (show (57 : Nat) < 112 by decide) rfl
   (args' := [.bp 0 0, txD tk]) (ds' := [goD blk h med p.mat gv bT bO g.made lv g.spent g.fees]) (tv' := [(g.made.length, 69), (g.spent.length, 69)]) ?_ ?_ ?_ ?_ (Nat.le_of_ble_eq_true rfl) (fun g1 w hl => ZsI htk hsk.1 hsk.2 h med p.mat hh gv hgv bT bO G hG g lv hlv hk.run (by omega) (by omega) ⟨hk.f0, hk.f1⟩ _ g1 w hl) fun lv2 => ?_)
  ·simp (config := {dsimp := false}) only [↓Zt, vz, vn, nq, Zp, Zh, Zd, Zb, Zg, Za, Zi, Ze, Zj, Zf, if_true, if_false, implies_true, forall_const, ne_eq, reduceIte, reduceCtorEq, Nat.reduceEqDiff, Nat.reduceAdd, Nat.reduceMul, Nat.reduceDiv, Nat.reduceLT, Nat.reduceSub, Nat.reduceLeDiff, Nat.reduceBNe, Nat.reduceBEq, Nat.reduceBeqDiff, List.range, List.range.loop, Zu, Tryd.ntmps26, Tryd.results26, Zeo, vb, goD, ZG]
   rfl
  ·intro _
   simp (config := {dsimp := false}) only [↓Zt, vz, vn, nq, Zp, Zh, Zd, Zb, Zg, Za, Zi, Ze, Zj, Zf, if_true, if_false, implies_true, forall_const, ne_eq, reduceIte, reduceCtorEq, Nat.reduceEqDiff, Nat.reduceAdd, Nat.reduceMul, Nat.reduceDiv, Nat.reduceLT, Nat.reduceSub, Nat.reduceLeDiff, Nat.reduceBNe, Nat.reduceBEq, Nat.reduceBeqDiff, List.range, List.range.loop, Zu, Tryd.ntmps26, Tryd.results26, vb, goD, goB, ZG]
  ·intro d hd l
   simp [ev, Zm] at hd
   rcases hd with rfl | rfl <;> simp
  ·simp [txD]
  generalize ZcF G blk h p.mat tk g = pg at *
  obtain ⟨g', e⟩ := pg
  simp only at hpok ZfH ⊢
  refine Zax hE ZE (nx := 204) _ rfl rfl ?_
  simp (config := {dsimp := false}) only [↓Zt, vz, vn, nq, Zp, Zh, Zd, Zb, Zg, Za, Zi, Ze, Zj, Zf, if_true, if_false, implies_true, forall_const, ne_eq, reduceIte, reduceCtorEq, Nat.reduceEqDiff, Nat.reduceAdd, Nat.reduceMul, Nat.reduceDiv, Nat.reduceLT, Nat.reduceSub, Nat.reduceLeDiff, Nat.reduceBNe, Nat.reduceBEq, Nat.reduceBeqDiff, List.range, List.range.loop, Zu, Tryd.ntmps26, Tryd.results26, vb, goD, goB, ZG, List.drop_zero, List.drop_succ_cons]
  refine ZR ?_
  by_cases he0 : e = 0
  case neg =>
   have hpas : Zcb G blk h p.mat r st0 = (g', e) := hk.rest.trans (ZfH.trans (if_pos he0))
   have hres : ZaH p.sub p.halv p.mat blk h (t :: r) G = ([], [], e) := by
    rw [hc1, hpas]
    exact if_pos he0
   have d4 : decide (e = 0) = false := decide_eq_false he0
   refine ZS hE ZE hl rfl (Nat.le_of_ble_eq_true rfl) ?_
   simp (config := {dsimp := false}) only [↓Zt, vz, vn, nq, Zp, Zh, Zd, Zb, Zg, Za, Zi, Ze, Zj, Zf, if_true, if_false, implies_true, forall_const, ne_eq, reduceIte, reduceCtorEq, Nat.reduceEqDiff, Nat.reduceAdd, Nat.reduceMul, Nat.reduceDiv, Nat.reduceLT, Nat.reduceSub, Nat.reduceLeDiff, Nat.reduceBNe, Nat.reduceBEq, Nat.reduceBeqDiff, List.range, List.range.loop, Zu, Tryd.ntmps26, Tryd.results26, d4]
   refine gmk (ZI (b := true) rfl (fun _ => ?_) (fun hh => by cases hh))
   refine ZS hE ZE hl rfl (Nat.le_of_ble_eq_true rfl) ?_
   simp (config := {dsimp := false}) only [↓Zt, vz, vn, nq, Zp, Zh, Zd, Zb, Zg, Za, Zi, Ze, Zj, Zf, if_true, if_false, implies_true, forall_const, ne_eq, reduceIte, reduceCtorEq, Nat.reduceEqDiff, Nat.reduceAdd, Nat.reduceMul, Nat.reduceDiv, Nat.reduceLT, Nat.reduceSub, Nat.reduceLeDiff, Nat.reduceBNe, Nat.reduceBEq, Nat.reduceBeqDiff, List.range, List.range.loop, Zu, Tryd.ntmps26, Tryd.results26]
   refine gmk (Zav fun a w ha => ?_)
   subst hP
   refine ZW () ?_ (Zau (fun _ _ _ => trivial) (Zdd (sl := _) 9 rfl (Zdd (sl := _) 8 rfl ha)))
   rw [hres]
   exact ⟨[], [], [], ⟨rfl, rfl⟩, ⟨rfl, rfl⟩, ⟨by simp, by simp⟩, by simp, rfl, rfl, ⟨_, rfl, rfl⟩, ⟨_, rfl, rfl⟩, ZfO _ _ _ ([], [], _)⟩
  subst he0
  obtain ⟨p1, p2, p3, p4, p5⟩ := hpok rfl
  have hidx : CoIdx G blk h p.mat r st0 (k + 1) g' := ⟨hkl, p1, hk.rest.trans (ZfH.trans (if_neg (fun q => q rfl))), by have := hsk.2; omega, by have := hsk.1; omega, p4, p5⟩
  refine ZS hE ZE hl rfl (Nat.le_of_ble_eq_true rfl) ?_
  simp (config := {dsimp := false}) only [↓Zt, vz, vn, nq, Zp, Zh, Zd, Zb, Zg, Za, Zi, Ze, Zj, Zf, if_true, if_false, implies_true, forall_const, ne_eq, reduceIte, reduceCtorEq, Nat.reduceEqDiff, Nat.reduceAdd, Nat.reduceMul, Nat.reduceDiv, Nat.reduceLT, Nat.reduceSub, Nat.reduceLeDiff, Nat.reduceBNe, Nat.reduceBEq, Nat.reduceBeqDiff, List.range, List.range.loop, Zu, Tryd.ntmps26, Tryd.results26, show decide ((0 : Int) = 0) = true from rfl]
  refine gmk (ZI (b := false) rfl (fun hh => by cases hh) (fun _ => Zbg fun a w ha => Zby ?_ ha))
  refine Zh5 hE ZE hl rfl (Nat.le_of_ble_eq_true rfl) ?_
  simp (config := {dsimp := false}) only [↓Zt, vz, vn, nq, Zp, Zh, Zd, Zb, Zg, Za, Zi, Ze, Zj, Zf, if_true, if_false, implies_true, forall_const, ne_eq, reduceIte, reduceCtorEq, Nat.reduceEqDiff, Nat.reduceAdd, Nat.reduceMul, Nat.reduceDiv, Nat.reduceLT, Nat.reduceSub, Nat.reduceLeDiff, Nat.reduceBNe, Nat.reduceBEq, Nat.reduceBeqDiff, List.range, List.range.loop, Zu, Tryd.ntmps26, Tryd.results26]
  refine ZdM fun a w ha => ⟨⟨(k + 1, lv2, g'), hidx⟩, ZcH ZE hl (Nat.le_of_ble_eq_true rfl) ?_ ha, by (try simp only); omega⟩
  have e : IntKind.wrap .i64 (((k : Nat) : Int) + 1) = ((k + 1 : Nat) : Int) := by rw [ZaR (by omega) (by omega)]; omega
  rw [e]
  exact ⟨⟨Zc rfl, rfl, Zc rfl, rfl, Zc rfl, rfl, Zc rfl, rfl, Zc rfl, rfl, Zc rfl, rfl, Zc rfl, rfl, Zc rfl, rfl, Zc rfl, rfl, Zc rfl, rfl, trivial⟩, ⟨rfl, Nat.le_of_ble_eq_true rfl, rfl, rfl, Nat.le_of_ble_eq_true rfl, rfl, rfl, Nat.le_of_ble_eq_true rfl, rfl, rfl, Nat.le_of_ble_eq_true rfl, rfl, trivial⟩, ⟨rfl, Nat.le_of_ble_eq_true rfl, rfl, Nat.le_of_ble_eq_true rfl, trivial⟩⟩
end Go.Vi.CO
end

section
namespace Go.Vi.CO
open Go.Proofs
theorem Zuw {args args' : List D} {s : S} (h : Zeo args s = some (args', [], [])) (b : BF) (nm : Nat) : ZaV (fun _ _ _ => b) args s nm = b.toR [] [] nm := by
 unfold Zeo at h
 unfold ZaV
 cases hre : Zdb s 4 (D.idsL [] args) with
 | none => simp [hre] at h
 | some ids =>
  simp only [hre] at h ⊢
  cases hds : ZB s.box ids with
  | none => simp [hds] at h
  | some ds =>
   simp only [hds] at h ⊢
   cases htv : ZB s.tok (D.tksL (D.tksL [] args) ds) with
   | none => simp [htv] at h
   | some tv =>
    simp only [htv, Option.some.injEq, Prod.mk.injEq, List.map_eq_nil_iff] at h ⊢
    obtain ⟨_, rfl, rfl⟩ := h
    have h1 := (Zae hds).1
    have h2 := (Zae htv).1
    rw [List.length_eq_zero_iff.1 h1.symm]
    simp only [List.length_nil] at h2
    rw [List.length_eq_zero_iff.1 h2.symm]
theorem Zww (r : List CoinP × List CoinP × Int) (nm : Nat) : ((Zm7 r).toR [] [] nm).vc ∧ ((Zm7 r).toR [] [] nm).val = ZiD r ∧ ((Zm7 r).toR [] [] nm).ups = [] ∧ ((Zm7 r).toR [] [] nm).tups = [] := by
 refine ⟨⟨trivial, ⟨rfl, rfl⟩, ⟨by decide, by decide⟩, ⟨rfl, rfl⟩, Nat.zero_le _, Nat.zero_le _⟩, ?_, rfl, rfl⟩
 simp only [BF.toR, Zm7, ZiD, D.ren, D.rens, ZG, Zfb]
def Zwc : List NT := [.id, .st [.id, .sl 4 (.st [.id, .sl 36 (.st [.id, .ints .u8, .id, .sl 1 (.ints .u8)]), .sl 2 (.st [.id, .ints .u8])])]]
theorem Zv6 (s : S) (r : R) (h1 : r.ups = []) (h2 : r.tups = []) : s.upd r = s := by simp [S.upd, h1, h2]
theorem Zrr {gv : Value} {G : PtP → Option CoinP} (p : ParP) (a0 : Int) (a1 a2 : List Int) (a3 a4 a5 : Int) (txs : List TxP) (htx : ∀ t ∈ txs, t.Ok) (hlen : txs.length ≤ 100) (hsm : ∀ t ∈ txs, t.ins.length ≤ 1000 ∧ t.outs.length ≤ 1000) {blk : List Int} (hb : blk.length = 32 ∧ bytes blk) (h med : Int) (hsub : ZaD p.sub)
  {N : Nat} {g0 : Gh} {w0 : World} {Post : Exit → Act → World → Prop} {sl : List (Nat × D)} {s : S} {ops : Array Oper} {i nm : Nat} {o : Oper} {args : Array Operand} {Zp : Array TypeId} (ho : ops[i]? = some o) (hgd : o.guard = none) (dst : Option Tmp) (hdd : o.dst = dst) (hdst : ZbJ N dst) (hop : o.op = .call { callee := .value (.func 26), args := args, argTypes := Zp })
  (hin : Zeo (ZP Zwc (args.toList.map (ev E sl))) s = some ([Zfz p, .agg [ZhS a0 a1 a2 a3 a4 a5, .sl .no 4 (ZcJ txs)], Zdk blk h med, .raw gv], [], [])) (hnt0 : ∀ d ∈ args.toList.map (ev E sl), ∀ l, d ≠ .tup l)
  (hk : GOM (fun _ => False) (fun _ _ => True) E N g0 w0 Post ops (i + 1) (nm + 4) (ZaQ dst (ZiD (ZaH p.sub p.halv p.mat blk h txs G)) sl) s) :
  GOM (fun _ => False) (Zck gF (fun _ => False) gv G) E N g0 w0 Post ops i nm sl s := by
 subst hdd
 refine ZjQ (p := Zz (.raw gv) = true ∧ ∀ o c, G o = some c → c.pt = o ∧ c.Ok) (fun g w hh => ⟨?_, fun o c hc => ZoO hh hc⟩) fun hp => ?_
 ·exact (ZhL hh).1
 obtain ⟨hgv, hG⟩ := hp
 refine ZiT (fun _ : Unit => ZiD (ZaH p.sub p.halv p.mat blk h txs G)) (fun _ _ _ => True) (fun _ => s) ho hgd hdst hop ⟨_, Tryd.func26, rfl, rfl⟩ ?_ fun _ => hk
 intro g w a hsz hs hg hi hkm hh
 have hr := ZcT (ts := Zwc) (Zd5 hs hg args.toList (fun x hx l => hnt0 _ (List.mem_map_of_mem hx) l))
 have hbf := Zuw hin (Zm7 (ZaH p.sub p.halv p.mat blk h txs G)) nm
 obtain ⟨c1, c2, c3, c4⟩ := Zww (ZaH p.sub p.halv p.mat blk h txs G) nm
 rw [← hbf] at c1 c2 c3 c4
 have hc := Zgx hE hgl (show E.P.funcs[26]? = some Tryd.f26 from Tryd.func26) (show Tryd.f26.body = some Zpr from rfl) (fun _ : Unit => Zm7 (ZaH p.sub p.halv p.mat blk h txs G)) ⟨()⟩ (nm := nm) (F := after nm) hin (fun _ => c1) hg hi (ZcZ nm) hr
  (fun d hd l => by simp [Zfz, Zdk] at hd; rcases hd with rfl | rfl | rfl | rfl <;> simp) (by simp [Tryd.f26]) (fun _ => False) (fun b hb => hb.elim) (Zck gF (ZaC (fun _ => False) w) gv G) (fun _ _ _ => True)
  (fun g1 h1 h2 => Zn4 (Zjl hh (fun b => by rw [h2]; exact Nat.le_refl _) (fun b _ _ q => ⟨h1 b q.1, by rw [h2]; exact q.2⟩)) fun b hb q => q.elim id fun q => absurd hb (Nat.not_lt_of_le q)) (fun _ _ _ _ _ _ _ _ _ => trivial)
  (fun g1 h1 _ => ZmK p a0 a1 a2 a3 a4 a5 txs htx hlen hsm hb h med hsub gv hgv G hG g1 w h1)
 rw [show (args.toList.map a.eval).toArray = args.map a.eval by apply Array.ext'; simp] at hc
 refine hc.mono ?_
 rintro e w' ⟨x, v, g', h1, h2, h3, h4, h5⟩
 rw [c2] at h2
 rw [Zv6 _ _ c3 c4] at h3
 exact ⟨(), v, g', _, h1, h2, h4, fun b hb hm => hm, h3.less fun j hj => ⟨by unfold after at *; omega, by unfold after at hj; omega⟩, trivial⟩
theorem ZsF {H : Gh → World → Prop} {M : Nat → Prop} {N : Nat} {g0 : Gh} {w0 : World} {Post : Exit → Act → World → Prop} {sl : List (Nat × D)} {s : S} {ops : Array Oper} {i nm : Nat} {o : Oper} (t : Nat) (ho : ops[i]? = some o) (hgd : o.guard = none) (dst : Option Tmp) (hdd : o.dst = dst) (hdst : ZbJ N dst) (hop : o.op = .makeFunc (.func 27) #[.tmp t] #[])
  {d : D} (hl : Zm sl t = some d) (hnt : ∀ l, d ≠ .tup l) (l : List CoinP) (hd : D.strip false (Zal (.st [.sl 69 (.st [.id, .id, .id, .id, .st [.id, .ints .u8]])]) d) = .agg [.sl .no 69 (ZN l)]) (hok : ∀ c ∈ l, c.Ok) (hlen : l.length < 1000000000)
  (h : ∀ gv, Zz (.raw gv) = true → GOM M (Zck gF (fun _ => False) gv (Zah l)) E N g0 w0 Post ops (i + 1) nm (ZaQ dst (.raw gv) sl) s) : GOM M H E N g0 w0 Post ops i nm sl s := by
 subst hdd
 refine ZhK (fun gv : Value => D.raw gv) (fun gv => Zck gF (fun _ => False) gv (Zah l)) ho hgd (fun c => by rw [hop]; simp) _ rfl hdst ?_ fun gv => ?_
 ·intro g w a hsz hs hg hi hk _
  refine ⟨.func (.func 27) #[a.tmps.getD t undef] #[], _, w, fun _ => False, .inl (by rw [show execOp a.eval o = (do pure (.value (← Instr.makeFunc (.func 27) #[a.eval (.tmp t)] #[]))) by simp [execOp, hop]]; rfl), rfl, (Keeps.refl g w).m, fun _ _ h => h.elim, hi, .inr (.inl ⟨a.tmps.getD t undef, l, rfl, ?_, hok, hlen, rfl⟩)⟩
  have hr := (hs.2 _ _ hl).2
  have h1 : Zn g w d (a.tmps.getD t undef) := ZfT hr hnt
  have h2 := ZlL (t := .st [.sl 69 (.st [.id, .id, .id, .id, .st [.id, .ints .u8]])]) h1
  have h3 := Zn.strip (keep := false) (g1 := g) (fun _ => Nat.le_refl _) h2
  rw [hd] at h3
  exact ZbT h3 (by simp [ZkJ])
 ·refine ZjQ (p := Zz (.raw gv) = true) (fun g w hh => ?_) fun hgv => h gv hgv
  exact (ZhL hh).1
end Go.Vi.CO
end

section
namespace Go.Vi.CO
open Go.Proofs
theorem Zar : HOk (fun _ _ => True) := ⟨fun _ _ _ _ _ _ => trivial, fun _ _ _ _ _ _ => trivial⟩
def z32 : List Int := List.replicate 32 0
def z9 : List Int := 9 :: List.replicate 31 0
def ZdT : CoinP := ⟨z9, 1, z32, 1, false, 7, []⟩
def Zc6 : TxP := ⟨0, [⟨z32, 4294967295, [1, 2], 0, []⟩], [⟨50, []⟩], 0⟩
def txW : TxP := ⟨0, [⟨z9, 1, [], 0, []⟩], [⟨5, []⟩, ⟨1, []⟩], 0⟩
theorem Zy6 (ib it : List Int) (hne : ib ≠ it) (hb : idP Zc6 = ib) (ht : idP txW = it) : ZaH 50 9 0 z32 2 [Zc6, txW] (Zah [ZdT]) = ([ZdT], [⟨ib, 0, z32, 2, true, 50, []⟩, ⟨it, 0, z32, 2, false, 5, []⟩, ⟨it, 1, z32, 2, false, 1, []⟩], 0) := by
 unfold ZaH
 rw [if_neg (by decide)]
 simp only [Zcb, ZcF, hb, ht]
 rw [show Zc6.outs = [⟨50, []⟩] from rfl, show txW.outs = [⟨5, []⟩, ⟨1, []⟩] from rfl, show txW.ins = [⟨z9, 1, [], 0, []⟩] from rfl]
 have h1 : Zao ib z32 2 true 0 [⟨50, []⟩] Zde = ⟨[⟨ib, 0, z32, 2, true, 50, []⟩], [true], [], 0⟩ := rfl
 rw [h1]
 have h2 : Z6 (Zah [ZdT]) 2 0 [⟨z9, 1, [], 0, []⟩] 0 ⟨[⟨ib, 0, z32, 2, true, 50, []⟩], [true], [], 0⟩ = (⟨[⟨ib, 0, z32, 2, true, 50, []⟩], [true], [ZdT], 0⟩, 7, 0) := by
  have hl : ZbG [⟨ib, 0, z32, 2, true, 50, []⟩] [true] (z9, 1) = none := by simp [ZbG, CoinP.pt, List.range_succ]
  have hf : Zah [ZdT] (z9, 1) = some ZdT := by simp [Zah, ZdT, CoinP.pt]
  have hf2 : Zah [] (z9, 1) = none := rfl
  simp only [Z6, Zaw, hl, hf, hf2, Option.isSome_none, Bool.false_eq_true, if_false]
  simp [ZdT, ZcK, Zbl]
 rw [h2]
 have h3 : Zao it z32 2 false 0 [⟨5, []⟩, ⟨1, []⟩] ⟨[⟨ib, 0, z32, 2, true, 50, []⟩], [true], [ZdT], 1⟩ = ⟨[⟨ib, 0, z32, 2, true, 50, []⟩, ⟨it, 0, z32, 2, false, 5, []⟩, ⟨it, 1, z32, 2, false, 1, []⟩], [true, true, true], [ZdT], 1⟩ := by
  simp [Zao, ZiB, ZbO, ZbG, ZfB, mkC, CoinP.pt, List.range_succ, hne]
 have h4 : Zb6 0 [⟨5, []⟩, ⟨1, []⟩] = some 6 := by simp [Zb6]
 have h5 : Zb6 0 [⟨50, []⟩] = some 50 := by simp [Zb6]
 simp only [ne_eq, not_true_eq_false, if_false, h4]
 rw [if_neg (show ¬((7 : Int) < 6 ∨ Zbl < 0 + 7 - 6) by unfold Zbl; omega)]
 simp only [show (0 : Int) + (7 - 6) = 1 from rfl, h3, not_true_eq_false, if_false, h5]
 rw [if_neg (show ¬ ZL 50 9 2 < 50 - 1 by decide)]
 rfl
theorem Zy5 (ib it : List Int) (hb : idP Zc6 = ib) (ht : idP txW = it) : (ZaH 50 9 0 z32 2 [Zc6, txW] (fun _ => none)).2.2 = 30 := by
 unfold ZaH
 rw [if_neg (by decide)]
 simp only [Zcb, ZcF, hb, ht]
 rw [show Zc6.outs = [⟨50, []⟩] from rfl, show txW.outs = [⟨5, []⟩, ⟨1, []⟩] from rfl, show txW.ins = [⟨z9, 1, [], 0, []⟩] from rfl]
 have h1 : Zao ib z32 2 true 0 [⟨50, []⟩] Zde = ⟨[⟨ib, 0, z32, 2, true, 50, []⟩], [true], [], 0⟩ := rfl
 rw [h1]
 have h2 : Z6 (fun _ => none) 2 0 [⟨z9, 1, [], 0, []⟩] 0 ⟨[⟨ib, 0, z32, 2, true, 50, []⟩], [true], [], 0⟩ = (⟨[⟨ib, 0, z32, 2, true, 50, []⟩], [true], [], 0⟩, 0, 30) := by
  have hl : ZbG [⟨ib, 0, z32, 2, true, 50, []⟩] [true] (z9, 1) = none := by simp [ZbG, CoinP.pt, List.range_succ]
  have hf2 : Zah [] (z9, 1) = none := rfl
  simp only [Z6, Zaw, hl, hf2, Option.isSome_none, Bool.false_eq_true, if_false]
 rw [h2]
 rfl
theorem okC : ZdT.Ok := ⟨⟨rfl, by unfold bytes; decide, by constructor <;> decide⟩, rfl, by unfold bytes; decide, by constructor <;> decide, by constructor <;> decide, by unfold Zs5 bytes; decide⟩
theorem okB : Zc6.Ok := ⟨by constructor <;> decide, by intro x hx; simp [Zc6] at hx; subst hx; exact ⟨rfl, by unfold bytes; decide, by constructor <;> decide, by unfold scr bytes; decide, by constructor <;> decide, (by intro w hw; cases hw), by decide⟩, by intro x hx; simp [Zc6] at hx; subst hx; exact ⟨by decide, by unfold scr bytes; decide⟩, by constructor <;> decide, by decide, by decide⟩
theorem okX : txW.Ok := ⟨by constructor <;> decide, by intro x hx; simp [txW] at hx; subst hx; exact ⟨rfl, by unfold bytes; decide, by constructor <;> decide, by unfold scr bytes; decide, by constructor <;> decide, (by intro w hw; cases hw), by decide⟩, by intro x hx; simp [txW] at hx; rcases hx with rfl | rfl <;> exact ⟨by decide, by unfold scr bytes; decide⟩, by constructor <;> decide, by decide, by decide⟩
theorem ZxY : decide (idP Zc6 = idP txW) = false := by kernel_rfl
theorem ZxL {M : Nat → Prop} {H : Gh → World → Prop} {N : Nat} {g0 : Gh} {w0 : World} {Post : Exit → Act → World → Prop} {sl : List (Nat × D)} {s : S} {c : Code} (i : Nat) (t : NT) {d d' : D} (hbx : s.box i = some d) (hd : D.strip false (Zal t d) = d')
  (h : GM M H E N g0 w0 Post c sl { s with bs := ZaW s.bs i d' }) : GM M H E N g0 w0 Post c sl s := fun g w a hk hp => by
 obtain ⟨b, cs, ty, q1, q2, q3, q4, q5⟩ := hk.inv.box i _ hbx
 refine h g w a ⟨hk.size, hk.slots, hk.globs, ⟨fun j dj hj => ?_, hk.inv.tok, hk.inv.fresh, hk.inv.lim, hk.inv.own⟩⟩ hp
 simp only [S.box, ZbA] at hj
 split at hj
 ·rename_i e
  subst e
  cases hj
  refine ⟨b, cs, ty, q1, q2, q3, q4, ?_⟩
  rw [← hd]
  exact Zk.strip (fun _ => Nat.le_refl _) _ (ZfW t _ q5)
 ·exact hk.inv.box j dj hj
noncomputable def ZpQ : Code := (Tryd.f23.body).getD .skip
def opW : D := .agg [.arr .u8 32 ((List.replicate 32 0).set 0 9), .int .u32 1]
def cW : D := .agg [opW, .arr .u8 32 (List.replicate 32 0), .int .i64 1, .bool false, .agg [.int .i64 7, .sl .full 0 []]]
def tW : D := .agg [.int .u32 0, .sl .fresh 36 [(D.agg [opW, .sl .full 0 [], .int .u32 0, .sl .full 0 []]).bare], .sl .fresh 2 [(D.agg [.int .i64 5, .sl .full 0 []]).bare, (D.agg [.int .i64 1, .sl .full 0 []]).bare], .int .u32 0]
def baW : D := .agg [.int .u32 0, .sl .fresh 36 [(D.agg [.agg [.arr .u8 32 (List.replicate 32 0), .int .u32 4294967295], .sli .fresh .u8 [1, 2], .int .u32 0, .sl .full 0 []]).bare], .sl .fresh 2 [(D.agg [.int .i64 50, .sl .full 0 []]).bare], .int .u32 0]
def hdW : D := .agg [.int .u32 0, .arr .u8 32 (List.replicate 32 0), .arr .u8 32 (List.replicate 32 0), .int .u32 0, .int .u32 0, .int .u32 0]
def bW : D := .agg [hdW, .sl .fresh 4 [baW.bare, tW.bare]]
def pW : D := .agg [hdW, .int .u32 0, .int .i64 0, .int .i64 0, .int .i64 0, .int .i64 9, .int .i64 50, .int .i64 0, .int .i64 0, .int .u64 0, .int .i64 0]
def ZmF : ParP := ⟨0, z32, z32, 0, 0, 0, 0, 0, 0, 0, 9, 50, 0, 0, 0, 0⟩
theorem ZyL : D.sub .st 78 pW 0 = some pW := rfl
theorem ZyT : D.sub .st 69 bW 0 = some bW := rfl
theorem Zzg : D.sub .st 69 cW 0 = some cW := rfl
def stW (n : Nat) : S := ⟨[(20, opW), (40, cW), (112, tW), (136, bW), (148, pW)], [], n⟩
theorem Zza : D.strip false (Zal (.st [.sl 69 (.st [.id, .id, .id, .id, .st [.id, .ints .u8]])]) (.agg [.sl .fresh 69 [cW.bare]])) = .agg [.sl .no 69 (ZN [ZdT])] := by
 simp only [ZP, Zal, Zdm, Zc8, Zbm, Zdl, D.bare, ZlN, List.map_cons, List.map_nil, D.strip, D.strips, Zbt, Own.bare, List.isEmpty_cons, List.isEmpty_nil, Bool.false_eq_true, if_false, if_true, reduceIte, ite_self, if_pos, if_neg, cW, opW]
 rfl
def txN : NT := .st [.id, .sl 36 (.st [.id, .ints .u8, .id, .sl 1 (.ints .u8)]), .sl 2 (.st [.id, .ints .u8])]
theorem Zze : D.strip false (Zal txN tW) = txD txW := by
 simp only [ZP, Zal, Zdm, Zc8, Zbm, Zdl, D.bare, ZlN, List.map_cons, List.map_nil, D.strip, D.strips, Zbt, Own.bare, List.isEmpty_cons, List.isEmpty_nil, Bool.false_eq_true, if_false, if_true, reduceIte, ite_self, if_pos, if_neg, txN, tW, opW]
 rfl
def bW' : D := .agg [hdW, .sl .fresh 4 [.agg [.int .u32 0, .sl .fresh 36 [.agg [.agg [.arr .u8 32 (List.replicate 32 0), .int .u32 4294967295], .sli .fresh .u8 [1, 2], .int .u32 0, .sl .full 1 []]], .sl .fresh 2 [.agg [.int .i64 50, .sli .full .u8 []]], .int .u32 0],
 .agg [.int .u32 0, .sl .fresh 36 [.agg [.agg [.arr .u8 32 ((List.replicate 32 0).set 0 9), .int .u32 1], .sli .full .u8 [], .int .u32 0, .sl .full 1 []]], .sl .fresh 2 [.agg [.int .i64 5, .sli .full .u8 []], .agg [.int .i64 1, .sli .full .u8 []]], .int .u32 0]]]
theorem ZyN (x y : D) : ZP Zwc [pW, bW, x, y] = [pW, bW', x, y] := by
 simp only [ZP, Zal, Zdm, Zc8, Zbm, Zdl, D.bare, ZlN, List.map_cons, List.map_nil, D.strip, D.strips, Zbt, Own.bare, List.isEmpty_cons, List.isEmpty_nil, Bool.false_eq_true, if_false, if_true, reduceIte, ite_self, if_pos, if_neg, Zwc, bW, baW, tW, opW, hdW]
 rfl
theorem inW (n : Nat) (x : Value) : Zeo [pW, bW', .agg [.arr .u8 32 (List.replicate 32 0), .int .i64 2, .int .u32 0], .raw x] (stW n) = some ([Zfz ZmF, .agg [ZhS 0 z32 z32 0 0 0, .sl .no 4 (ZcJ [Zc6, txW])], Zdk z32 2 0, .raw x], [], []) := by
 rfl
theorem Zpl (g1 : Gh) (w0 : World) (hl : Low 8 g1) :
  GM (fun _ => False) (fun _ _ => True) E Tryd.f23.ntmps g1 w0 (Zcw (fun _ => False) E Tryd.f23 g1 w0 0 0 (fun _ : Unit => Zo [] [] []) (fun _ _ _ => True))
   ZpQ [] ⟨[], [], 8⟩ := by
 generalize hP : Zcw (fun _ => False) E Tryd.f23 g1 w0 0 0 _ _ = Post
 unfold ZpQ
 simp only [Tryd.f23, Option.getD_some]
 refine ZS hE Zar hl rfl (Nat.le_refl _) ?_
 simp (config := {dsimp := false}) only [↓Zt, vz, vn, nq, Zp, Zh, Zd, Zb, Zg, Za, Zi, Ze, Zj, Zf, if_true, if_false, implies_true, forall_const, ne_eq, reduceIte, reduceCtorEq, Nat.reduceEqDiff, Nat.reduceAdd, Nat.reduceMul, Nat.reduceDiv, Nat.reduceLT, Nat.reduceSub, Nat.reduceLeDiff, Nat.reduceBNe, Nat.reduceBEq, Nat.reduceBeqDiff, List.range, List.range.loop, Zu, Tryd.ntmps23, Tryd.results23]
 refine gmk (ZS hE Zar hl rfl (Nat.le_of_ble_eq_true rfl) ?_)
 simp (config := {dsimp := false}) only [↓Zt, vz, vn, nq, Zp, Zh, Zd, Zb, Zg, Za, Zi, Ze, Zj, Zf, if_true, if_false, implies_true, forall_const, ne_eq, reduceIte, reduceCtorEq, Nat.reduceEqDiff, Nat.reduceAdd, Nat.reduceMul, Nat.reduceDiv, Nat.reduceLT, Nat.reduceSub, Nat.reduceLeDiff, Nat.reduceBNe, Nat.reduceBEq, Nat.reduceBeqDiff, List.range, List.range.loop, Zu, Tryd.ntmps23, Tryd.results23]
 refine gmk (ZS hE Zar hl rfl (Nat.le_of_ble_eq_true rfl) ?_)
 simp (config := {dsimp := false}) only [↓Zt, vz, vn, nq, Zp, Zh, Zd, Zb, Zg, Za, Zi, Ze, Zj, Zf, if_true, if_false, implies_true, forall_const, ne_eq, reduceIte, reduceCtorEq, Nat.reduceEqDiff, Nat.reduceAdd, Nat.reduceMul, Nat.reduceDiv, Nat.reduceLT, Nat.reduceSub, Nat.reduceLeDiff, Nat.reduceBNe, Nat.reduceBEq, Nat.reduceBeqDiff, List.range, List.range.loop, Zu, Tryd.ntmps23, Tryd.results23]
 refine gmk (ZS hE Zar hl rfl (Nat.le_of_ble_eq_true rfl) ?_)
 simp (config := {dsimp := false}) only [↓Zt, vz, vn, nq, Zp, Zh, Zd, Zb, Zg, Za, Zi, Ze, Zj, Zf, if_true, if_false, implies_true, forall_const, ne_eq, reduceIte, reduceCtorEq, Nat.reduceEqDiff, Nat.reduceAdd, Nat.reduceMul, Nat.reduceDiv, Nat.reduceLT, Nat.reduceSub, Nat.reduceLeDiff, Nat.reduceBNe, Nat.reduceBEq, Nat.reduceBeqDiff, List.range, List.range.loop, Zu, Tryd.ntmps23, Tryd.results23]
 refine gmk (ZS hE Zar hl rfl (Nat.le_of_ble_eq_true rfl) ?_)
 simp (config := {dsimp := false}) only [↓Zt, vz, vn, nq, Zp, Zh, Zd, Zb, Zg, Za, Zi, Ze, Zj, Zf, if_true, if_false, implies_true, forall_const, ne_eq, reduceIte, reduceCtorEq, Nat.reduceEqDiff, Nat.reduceAdd, Nat.reduceMul, Nat.reduceDiv, Nat.reduceLT, Nat.reduceSub, Nat.reduceLeDiff, Nat.reduceBNe, Nat.reduceBEq, Nat.reduceBeqDiff, List.range, List.range.loop, Zu, Tryd.ntmps23, Tryd.results23]
 refine gmk (ZS hE Zar hl rfl (Nat.le_of_ble_eq_true rfl) ?_)
 simp (config := {dsimp := false}) only [↓Zt, vz, vn, nq, Zp, Zh, Zd, Zb, Zg, Za, Zi, Ze, Zj, Zf, if_true, if_false, implies_true, forall_const, ne_eq, reduceIte, reduceCtorEq, Nat.reduceEqDiff, Nat.reduceAdd, Nat.reduceMul, Nat.reduceDiv, Nat.reduceLT, Nat.reduceSub, Nat.reduceLeDiff, Nat.reduceBNe, Nat.reduceBEq, Nat.reduceBeqDiff, List.range, List.range.loop, Zu, Tryd.ntmps23, Tryd.results23]
 refine gmk (ZS hE Zar hl rfl (Nat.le_of_ble_eq_true rfl) ?_)
 simp (config := {dsimp := false}) only [↓Zt, vz, vn, nq, Zp, Zh, Zd, Zb, Zg, Za, Zi, Ze, Zj, Zf, if_true, if_false, implies_true, forall_const, ne_eq, reduceIte, reduceCtorEq, Nat.reduceEqDiff, Nat.reduceAdd, Nat.reduceMul, Nat.reduceDiv, Nat.reduceLT, Nat.reduceSub, Nat.reduceLeDiff, Nat.reduceBNe, Nat.reduceBEq, Nat.reduceBeqDiff, List.range, List.range.loop, Zu, Tryd.ntmps23, Tryd.results23]
 refine gmk (Zg8 Zar hl (sl' := [(1, .bp 20 0), (2, .bp 40 0), (4, .bp 112 0), (5, .bp 136 0), (6, .bp 148 0)]) (s' := stW 156) (Nat.le_of_ble_eq_true rfl) ⟨⟨Zc rfl, rfl, Zc rfl, rfl, Zc rfl, rfl, Zc rfl, rfl, Zc rfl, rfl, trivial⟩, ⟨rfl, Nat.le_of_ble_eq_true rfl, rfl, rfl, Nat.le_of_ble_eq_true rfl, rfl, rfl, Nat.le_of_ble_eq_true rfl, rfl, rfl, Nat.le_of_ble_eq_true rfl, rfl, rfl, Nat.le_of_ble_eq_true rfl, rfl, trivial⟩, trivial⟩ ?_)
 refine ZbH (Zai hE Zar 6 rfl rfl rfl ?_)
 simp (config := {dsimp := false}) only [↓Zt, vz, vn, nq, Zp, Zh, Zd, Zb, Zg, Za, Zi, Ze, Zj, Zf, if_true, if_false, implies_true, forall_const, ne_eq, reduceIte, reduceCtorEq, Nat.reduceEqDiff, Nat.reduceAdd, Nat.reduceMul, Nat.reduceDiv, Nat.reduceLT, Nat.reduceSub, Nat.reduceLeDiff, Nat.reduceBNe, Nat.reduceBEq, Nat.reduceBeqDiff, List.range, List.range.loop, Zu, Tryd.ntmps23, Tryd.results23, stW, ZyL, ZyT, Zzg, List.drop_zero, List.take_succ_cons, List.take_zero]
 refine ⟨rfl, rfl, ?_⟩
 refine Ze3 (ZsF 43 rfl rfl (some 44) rfl (show (44 : Nat) < 104 by decide) rfl (d := .agg [.sl .fresh 69 [cW.bare]]) rfl (fun l h => by cases h) [ZdT] Zza (by intro c hc; simp at hc; subst hc; exact okC) (by decide) fun gv hgv => ?_)
 refine Zrr ZmF 0 z32 z32 0 0 0 [Zc6, txW] (by intro c hc; simp at hc; rcases hc with rfl | rfl; exact okB; exact okX) (by decide) (by decide) (blk := z32) ⟨rfl, by unfold bytes; decide⟩ 2 0 (by constructor <;> decide) rfl rfl (some 45) rfl (show (45 : Nat) < 104 by decide) rfl ?_ ?_ ?_
 ·rw [show (#[Operand.tmp 38, .tmp 39, .tmp 40, .tmp 44] : Array Operand).toList.map _ = [pW, bW, _, _] from rfl, ZyN]
  exact inW _ _
 ·rw [show (#[Operand.tmp 38, .tmp 39, .tmp 40, .tmp 44] : Array Operand).toList.map _ = [pW, bW, .agg [.arr .u8 32 (List.replicate 32 0), .int .i64 2, .int .u32 0], .raw gv] from rfl]
  intro d hd l
  simp only [List.mem_cons, List.not_mem_nil, or_false] at hd
  rcases hd with rfl | rfl | rfl | rfl <;> (intro h; first | cases h | (simp [pW, bW] at h))
 refine Zax hE Zar (nx := 212) _ rfl rfl ?_
 generalize hr1 : ZaH ZmF.sub ZmF.halv ZmF.mat z32 2 [Zc6, txW] (Zah [ZdT]) = r1
 simp (config := {dsimp := false}) only [↓Zt, vz, vn, nq, Zp, Zh, Zd, Zb, Zg, Za, Zi, Ze, Zj, Zf, if_true, if_false, implies_true, forall_const, ne_eq, reduceIte, reduceCtorEq, Nat.reduceEqDiff, Nat.reduceAdd, Nat.reduceMul, Nat.reduceDiv, Nat.reduceLT, Nat.reduceSub, Nat.reduceLeDiff, Nat.reduceBNe, Nat.reduceBEq, Nat.reduceBeqDiff, List.range, List.range.loop, Zu, Tryd.ntmps23, Tryd.results23, stW, ZaQ, ZiD, List.drop_zero, List.drop_succ_cons]
 refine ZR (Zg8 Zar hl (sl' := [(1, .bp 20 0), (4, .bp 112 0), (5, .bp 136 0), (6, .bp 148 0), (7, .sl .no 69 (ZN r1.1)), (8, .sl .no 69 (ZN r1.2.1)), (9, .int .i64 r1.2.2)]) (s' := stW 212) (Nat.le_of_ble_eq_true rfl) ⟨⟨Zc rfl, rfl, Zc rfl, rfl, Zc rfl, rfl, Zc rfl, rfl, Zc rfl, rfl, Zc rfl, rfl, Zc rfl, rfl, trivial⟩, ⟨rfl, Nat.le_of_ble_eq_true rfl, rfl, rfl, Nat.le_of_ble_eq_true rfl, rfl, rfl, Nat.le_of_ble_eq_true rfl, rfl, rfl, Nat.le_of_ble_eq_true rfl, rfl, rfl, Nat.le_of_ble_eq_true rfl, rfl, trivial⟩, trivial⟩ ?_)
 refine ZeJ (H' := Zck gF (fun _ => False) .nilFunc (fun _ => none)) (fun _ _ _ => .inl ⟨rfl, rfl⟩) ?_
 refine ZbH (Zai hE ZaJ 3 rfl rfl rfl ?_)
 simp (config := {dsimp := false}) only [↓Zt, vz, vn, nq, Zp, Zh, Zd, Zb, Zg, Za, Zi, Ze, Zj, Zf, if_true, if_false, implies_true, forall_const, ne_eq, reduceIte, reduceCtorEq, Nat.reduceEqDiff, Nat.reduceAdd, Nat.reduceMul, Nat.reduceDiv, Nat.reduceLT, Nat.reduceSub, Nat.reduceLeDiff, Nat.reduceBNe, Nat.reduceBEq, Nat.reduceBeqDiff, List.range, List.range.loop, Zu, Tryd.ntmps23, Tryd.results23, stW, ZyL, ZyT, List.drop_zero, List.take_succ_cons, List.take_zero]
 refine Ze3 (Zrr ZmF 0 z32 z32 0 0 0 [Zc6, txW] (by intro c hc; simp at hc; rcases hc with rfl | rfl; exact okB; exact okX) (by decide) (by decide) (blk := z32) ⟨rfl, by unfold bytes; decide⟩ 2 0 (by constructor <;> decide) rfl rfl (some 53) rfl (show (53 : Nat) < 104 by decide) rfl ?_ ?_ ?_)
 ·rw [show (#[Operand.tmp 50, .tmp 51, .tmp 52, .const .nilFunc] : Array Operand).toList.map _ = [pW, bW, _, _] from rfl, ZyN]
  exact inW _ _
 ·rw [show (#[Operand.tmp 50, .tmp 51, .tmp 52, .const .nilFunc] : Array Operand).toList.map _ = [pW, bW, .agg [.arr .u8 32 (List.replicate 32 0), .int .i64 2, .int .u32 0], .raw .nilFunc] from rfl]
  intro d hd l
  simp only [List.mem_cons, List.not_mem_nil, or_false] at hd
  rcases hd with rfl | rfl | rfl | rfl <;> (intro h; first | cases h | (simp [pW, bW] at h))
 refine Zax hE Zar (nx := 256) _ rfl rfl ?_
 generalize hr2 : ZaH ZmF.sub ZmF.halv ZmF.mat z32 2 [Zc6, txW] (fun _ => none) = r2
 simp (config := {dsimp := false}) only [↓Zt, vz, vn, nq, Zp, Zh, Zd, Zb, Zg, Za, Zi, Ze, Zj, Zf, if_true, if_false, implies_true, forall_const, ne_eq, reduceIte, reduceCtorEq, Nat.reduceEqDiff, Nat.reduceAdd, Nat.reduceMul, Nat.reduceDiv, Nat.reduceLT, Nat.reduceSub, Nat.reduceLeDiff, Nat.reduceBNe, Nat.reduceBEq, Nat.reduceBeqDiff, List.range, List.range.loop, Zu, Tryd.ntmps23, Tryd.results23, stW, ZaQ, ZiD, List.drop_zero, List.drop_succ_cons]
 refine ZR (Zg8 Zar hl (sl' := [(1, .bp 20 0), (4, .bp 112 0), (7, .sl .no 69 (ZN r1.1)), (8, .sl .no 69 (ZN r1.2.1)), (9, .int .i64 r1.2.2), (12, .int .i64 r2.2.2)]) (s' := stW 256) (Nat.le_of_ble_eq_true rfl) ⟨⟨Zc rfl, rfl, Zc rfl, rfl, Zc rfl, rfl, Zc rfl, rfl, Zc rfl, rfl, Zc rfl, rfl, trivial⟩, ⟨rfl, Nat.le_of_ble_eq_true rfl, rfl, rfl, Nat.le_of_ble_eq_true rfl, rfl, rfl, Nat.le_of_ble_eq_true rfl, rfl, rfl, Nat.le_of_ble_eq_true rfl, rfl, rfl, Nat.le_of_ble_eq_true rfl, rfl, trivial⟩, trivial⟩ ?_)
 refine ZxL 112 (.st [.id, .sl 36 (.st [.id, .ints .u8, .id, .sl 1 (.ints .u8)]), .sl 2 (.st [.id, .ints .u8])]) (d' := txD txW) rfl Zze ?_
 refine Zg8 Zar hl (sl' := [(1, .bp 20 0), (4, .bp 112 0), (7, .sl .no 69 (ZN r1.1)), (8, .sl .no 69 (ZN r1.2.1)), (9, .int .i64 r1.2.2), (12, .int .i64 r2.2.2)]) (s' := ⟨[(20, .agg [.arr .u8 32 z9, .int .u32 1]), (112, .agg [.int .u32 0, .sl .no 36 (Zct txW.ins), .sl .no 2 (Za1 txW.outs), .int .u32 0])], [], 256⟩) (Nat.le_of_ble_eq_true rfl) ⟨⟨Zc rfl, rfl, Zc rfl, rfl, Zc rfl, rfl, Zc rfl, rfl, Zc rfl, rfl, Zc rfl, rfl, trivial⟩, ⟨rfl, Nat.le_of_ble_eq_true rfl, rfl, rfl, Nat.le_of_ble_eq_true rfl, rfl, trivial⟩, trivial⟩ ?_
 refine ZS hE Zar hl rfl (Nat.le_of_ble_eq_true rfl) ?_
 simp (config := {dsimp := false}) only [↓Zt, vz, vn, nq, Zp, Zh, Zd, Zb, Zg, Za, Zi, Ze, Zj, Zf, if_true, if_false, implies_true, forall_const, ne_eq, reduceIte, reduceCtorEq, Nat.reduceEqDiff, Nat.reduceAdd, Nat.reduceMul, Nat.reduceDiv, Nat.reduceLT, Nat.reduceSub, Nat.reduceLeDiff, Nat.reduceBNe, Nat.reduceBEq, Nat.reduceBeqDiff, List.range, List.range.loop, Zu, Tryd.ntmps23, Tryd.results23]
 refine Zb0 [1, 4, 7, 8, 9, 12] (by kernel_rfl) ?_
 have hr1 := hr1.symm.trans (Zy6 _ _ (of_decide_eq_false ZxY) rfl rfl)
 have hr2 : r2.2.2 = 30 := by rw [← hr2]; exact Zy5 _ _ rfl rfl
 subst hr1
 rw [hr2]
 have e1 : ZN [ZdT] = [.agg [.agg [.arr .u8 32 z9, .int .u32 1], .arr .u8 32 z32, .int .i64 1, .bool false, .agg [.int .i64 7, .sli .no .u8 []]]] := rfl
 have e3 : ZN [⟨idP Zc6, 0, z32, 2, true, 50, []⟩, ⟨idP txW, 0, z32, 2, false, 5, []⟩, ⟨idP txW, 1, z32, 2, false, 1, []⟩] = [.agg [.agg [.arr .u8 32 (idP Zc6), .int .u32 0], .arr .u8 32 z32, .int .i64 2, .bool true, .agg [.int .i64 50, .sli .no .u8 []]],
  .agg [.agg [.arr .u8 32 (idP txW), .int .u32 0], .arr .u8 32 z32, .int .i64 2, .bool false, .agg [.int .i64 5, .sli .no .u8 []]], .agg [.agg [.arr .u8 32 (idP txW), .int .u32 1], .arr .u8 32 z32, .int .i64 2, .bool false, .agg [.int .i64 1, .sli .no .u8 []]]] := rfl
 have he1 := Zt8 z9 z9 1 1
 have he2 := Zt8 (idP txW) (idP txW) 1 1
 have hid : idP ⟨0, txW.ins, txW.outs, 0⟩ = idP txW := rfl
 have hok := Zuz okX
 simp only [decide_true, Bool.and_self] at he1 he2
 simp (config := {dsimp := false}) only [↓Zt, vz, vn, nq, Zp, Zh, Zd, Zb, Zg, Za, Zi, Ze, Zj, Zf, if_true, if_false, implies_true, forall_const, ne_eq, reduceIte, reduceCtorEq, Nat.reduceEqDiff, Nat.reduceAdd, Nat.reduceMul, Nat.reduceDiv, Nat.reduceLT, Nat.reduceSub, Nat.reduceLeDiff, Nat.reduceBNe, Nat.reduceBEq, Nat.reduceBeqDiff, List.range, List.range.loop, Zu, Tryd.ntmps23, Tryd.results23, e1, e3, he1, he2, hid, decide_true, forall_const, List.length_cons, List.length_nil, List.getD_cons_zero, List.getD_cons_succ, show Int.toNat 0 = 0 from rfl, show Int.toNat 1 = 1 from rfl, show Int.toNat 2 = 2 from rfl, show decide (((0 + 1 : Nat) : Int) = 1) = true from rfl, show decide (((0 + 1 + 1 + 1 : Nat) : Int) = 3) = true from rfl, PF.toR, Zl, Zng, ZgG, Zxc, ZxC]
 refine ⟨by omega, by omega, by omega, by omega, hok, by omega, by omega, by omega, by omega, ?_⟩
 refine gmk (Zav fun a w ha => ?_)
 subst hP
 refine ZW () ?_ ha
 exact ⟨[], [], [], ⟨rfl, rfl⟩, ⟨rfl, rfl⟩, ⟨by simp, by simp⟩, by simp, rfl, rfl, ⟨_, rfl, rfl⟩, ⟨_, rfl, rfl⟩, rfl⟩
end Go.Vi.CO
end

section
namespace Go.Vi.CO
open Go.Proofs
theorem ZaF : Zw E 23 := by
 refine Zim hE hgl (show E.P.funcs[23]? = some Tryd.f23 from Tryd.func23) (show Tryd.f23.body = some ZpQ from rfl) (p := Zo) (ts := []) (fun args s nm => ZX args s nm) fun args ds tv hv h8 h9 => ?_
 cases args with
 | cons x l => simp [Zo, Zdu] at hv
 | nil =>
  cases ds with
  | cons x l => simp [Zo, Zdu] at hv
  | nil =>
   cases tv with
   | cons x l => simp [Zo, Zdu] at hv
   | nil => exact ⟨by simp, Nat.zero_le _, fun g1 w0 hl _ => Zpl g1 w0 hl⟩
end Go.Vi.CO
end

section
namespace Go.Vi.CO
open Go.Proofs
theorem Zlg {f n : Nat} (h : n ≠ 0) : Zda (f + 1) n = ((n % 256 : Nat) : Int) :: Zda f (n / 256) := if_neg h
theorem ZlD (f : Nat) : Zda f 0 = [] := by cases f <;> rfl
theorem Zjg : ∀ (f n : Nat), (Zda f n).length ≤ f
 | 0, n => Nat.le_refl _
 | f + 1, n => by
  simp only [Zda]
  split
  ·exact Nat.zero_le _
  ·simpa using Zjg f (n / 256)
structure DigI (n : Nat) (k : Nat) (xs : List Int) (r : Nat) : Prop where
 le : k ≤ 8
 eq : Zda 8 n = xs ++ Zda (8 - k) r
 lt : r < 256 ^ (8 - k)
 len : xs.length = k
theorem Zur {n k r : Nat} {xs : List Int} (h : DigI n k xs r) (hr : r ≠ 0) : DigI n (k + 1) (xs ++ [((r % 256 : Nat) : Int)]) (r / 256) := by
 obtain ⟨h1, h2, h3, h4⟩ := h
 have hk : k < 8 := by
  rcases Nat.lt_or_ge k 8 with q | q
  ·exact q
  ·have : 8 - k = 0 := by omega
   rw [this] at h3
   omega
 have e : 8 - k = (8 - (k + 1)) + 1 := by omega
 refine ⟨hk, ?_, ?_, by simp [h4]⟩
 ·rw [h2, e, Zlg hr]; simp
 ·rw [e, Nat.pow_succ] at h3
  exact Nat.div_lt_of_lt_mul (by omega)
theorem Zwl {M : Nat → Prop} {H : Gh → World → Prop} {N : Nat} {g0 : Gh} {w0 : World} {sl : List (Nat × D)} {s : S} {a : Act} {w : World} (t : Nat) (k : IntKind) {o : Own} {z : Nat} (ht : Zm sl t = some (.sl o z [])) (h : AtM M H E N g0 w0 sl s a w) : AtM M H E N g0 w0 ((t, .sli .no k []) :: sl) s a w := by
 obtain ⟨g, hk, hp⟩ := h
 refine ⟨g, ⟨hk.size, ⟨trivial, fun t' d hl => ?_⟩, hk.globs, hk.inv⟩, hp⟩
 simp only [Zm] at hl
 split at hl
 ·rename_i e
  subst e
  cases hl
  obtain ⟨q1, q2⟩ := hk.slots.2 _ _ ht
  refine ⟨q1, ?_⟩
  obtain ⟨ad, c', vs, e1, e2, e3, e4, e5⟩ := q2
  have e3 : vs = [] := e3
  subst e3
  exact ⟨ad, c', by simpa using e1, by simpa using e2, fun hne => absurd rfl hne, trivial⟩
 ·exact hk.slots.2 _ _ hl
noncomputable def ZpS : Code := (Tryd.f24.body).getD .skip
theorem Zs0 (h : Int) (hh : ZaD h) (g1 : Gh) (w0 : World) (hl : Low 8 g1) :
  GM (fun _ => False) (fun _ _ => True) E Tryd.f24.ntmps g1 w0 (Zcw (fun _ => False) E Tryd.f24 g1 w0 0 0 (fun _ : Unit => (⟨ZaD h, .sli .no .u8 (ZK h), [], [], [], []⟩ : BF)) (fun _ _ _ => True))
   ZpS [(0, .int .i64 h)] ⟨[], [], 8⟩ := by
 generalize hP : Zcw (fun _ => False) E Tryd.f24 g1 w0 0 0 _ _ = Post
 unfold ZpS
 simp only [Tryd.f24, Option.getD_some]
 refine ZS hE Zar hl rfl (Nat.le_refl _) ?_
 simp (config := {dsimp := false}) only [↓Zt, vz, vn, nq, Zp, Zh, Zd, Zb, Zg, Za, Zi, Ze, Zj, Zf, if_true, if_false, implies_true, forall_const, ne_eq, reduceIte, reduceCtorEq, Nat.reduceEqDiff, Nat.reduceAdd, Nat.reduceMul, Nat.reduceDiv, Nat.reduceLT, Nat.reduceSub, Nat.reduceLeDiff, Nat.reduceBNe, Nat.reduceBEq, Nat.reduceBeqDiff, List.range, List.range.loop, Zu, Tryd.ntmps24, Tryd.results24]
 refine gmk (Z5 (ZS hE Zar hl rfl (Nat.le_of_ble_eq_true rfl) ?_))
 simp (config := {dsimp := false}) only [↓Zt, vz, vn, nq, Zp, Zh, Zd, Zb, Zg, Za, Zi, Ze, Zj, Zf, if_true, if_false, implies_true, forall_const, ne_eq, reduceIte, reduceCtorEq, Nat.reduceEqDiff, Nat.reduceAdd, Nat.reduceMul, Nat.reduceDiv, Nat.reduceLT, Nat.reduceSub, Nat.reduceLeDiff, Nat.reduceBNe, Nat.reduceBEq, Nat.reduceBeqDiff, List.range, List.range.loop, Zu, Tryd.ntmps24, Tryd.results24]
 by_cases h0 : h < 0
 ·have d0 : decide (h < 0) = true := decide_eq_true h0
  refine gmk (ZI (b := decide (h < 0)) rfl (fun _ => ?_) (fun e => by rw [d0] at e; cases e))
  refine ZS hE Zar hl rfl (Nat.le_of_ble_eq_true rfl) ?_
  simp (config := {dsimp := false}) only [↓Zt, vz, vn, nq, Zp, Zh, Zd, Zb, Zg, Za, Zi, Ze, Zj, Zf, if_true, if_false, implies_true, forall_const, ne_eq, reduceIte, reduceCtorEq, Nat.reduceEqDiff, Nat.reduceAdd, Nat.reduceMul, Nat.reduceDiv, Nat.reduceLT, Nat.reduceSub, Nat.reduceLeDiff, Nat.reduceBNe, Nat.reduceBEq, Nat.reduceBeqDiff, List.range, List.range.loop, Zu, Tryd.ntmps24, Tryd.results24]
  refine gmk (Zav fun a w ha => ?_)
  subst hP
  refine ZW () ?_ (Zwl 2 .u8 rfl ha)
  have hres : ZK h = [] := if_pos h0
  rw [hres]
  exact ⟨[], [], [], ⟨rfl, rfl⟩, ⟨rfl, rfl⟩, ⟨by simp, by simp⟩, by simp, rfl, rfl, ⟨_, rfl, rfl⟩, ⟨_, rfl, rfl⟩, rfl⟩
 have d0 : decide (h < 0) = false := decide_eq_false h0
 have hres : ZK h = ((ZcX (Zda 8 h.toNat)).length : Int) :: ZcX (Zda 8 h.toNat) := if_neg h0
 obtain ⟨n, rfl⟩ : ∃ n : Nat, h = (n : Nat) := ⟨h.toNat, by omega⟩
 rw [Int.toNat_natCast] at hres
 have hn : n < 256 ^ 8 := by have := hh.2; omega
 refine gmk (ZI (b := decide (((n : Nat) : Int) < 0)) rfl (fun e => by rw [d0] at e; cases e) (fun _ => Zbg fun a w ha => Zby ?_ ha))
 refine ZbH (ZtD hE ZwB rfl ty5 rfl (k := .u8) (c := 0) rfl rfl rfl rfl (by decide) fun v0 => ?_)
 refine Zax hE Zcx (nx := 24) _ rfl rfl ?_
 simp (config := {dsimp := false}) only [↓Zt, vz, vn, nq, Zp, Zh, Zd, Zb, Zg, Za, Zi, Ze, Zj, Zf, if_true, if_false, implies_true, forall_const, ne_eq, reduceIte, reduceCtorEq, Nat.reduceEqDiff, Nat.reduceAdd, Nat.reduceMul, Nat.reduceDiv, Nat.reduceLT, Nat.reduceSub, Nat.reduceLeDiff, Nat.reduceBNe, Nat.reduceBEq, Nat.reduceBeqDiff, List.range, List.range.loop, Zu, Tryd.ntmps24, Tryd.results24, List.drop_zero, List.drop_succ_cons]
 refine ZR (Z5 (ZS hE Zcx hl rfl (Nat.le_of_ble_eq_true rfl) ?_))
 simp (config := {dsimp := false}) only [↓Zt, vz, vn, nq, Zp, Zh, Zd, Zb, Zg, Za, Zi, Ze, Zj, Zf, if_true, if_false, implies_true, forall_const, ne_eq, reduceIte, reduceCtorEq, Nat.reduceEqDiff, Nat.reduceAdd, Nat.reduceMul, Nat.reduceDiv, Nat.reduceLT, Nat.reduceSub, Nat.reduceLeDiff, Nat.reduceBNe, Nat.reduceBEq, Nat.reduceBeqDiff, List.range, List.range.loop, Zu, Tryd.ntmps24, Tryd.results24]
 refine gmk (Zbn ?_)
 refine ZfE hl (ι := {q : Nat × Value × List Int × Nat // DigI n q.1 q.2.2.1 q.2.2.2})
  (fun q => [(3, .raw q.1.2.1), (4, .int .i64 (q.1.2.2.2 : Nat))]) (fun _ => ⟨[], [], 32⟩) (fun q => HV w0.heap.size .u8 q.1.2.1 (0 :: q.1.2.2.1)) (fun _ => Zcx) (fun q => 8 - q.1.1) ⟨(0, v0, [], n), ⟨Nat.zero_le _, rfl, hn, rfl⟩⟩ (Nat.le_of_ble_eq_true rfl) (fun _ _ h => h) ⟨⟨Zc rfl, rfl, Zc rfl, rfl, trivial⟩, trivial, trivial⟩ ?_
 rintro ⟨⟨k, v, xs, r⟩, hk⟩
 simp only at hk ⊢
 refine Z5 (ZS hE Zcx hl rfl (Nat.le_of_ble_eq_true rfl) ?_)
 simp (config := {dsimp := false}) only [↓Zt, vz, vn, nq, Zp, Zh, Zd, Zb, Zg, Za, Zi, Ze, Zj, Zf, if_true, if_false, implies_true, forall_const, ne_eq, reduceIte, reduceCtorEq, Nat.reduceEqDiff, Nat.reduceAdd, Nat.reduceMul, Nat.reduceDiv, Nat.reduceLT, Nat.reduceSub, Nat.reduceLeDiff, Nat.reduceBNe, Nat.reduceBEq, Nat.reduceBeqDiff, List.range, List.range.loop, Zu, Tryd.ntmps24, Tryd.results24]
 have hlen := hk.len
 have hle := hk.le
 by_cases hr : r = 0
 case neg =>
  have d1 : decide ((0 : Int) < ((r : Nat) : Int)) = true := decide_eq_true (by omega)
  refine gmk (ZI (b := decide ((0 : Int) < ((r : Nat) : Int))) rfl (fun _ => Zbg fun a w ha => Zby ?_ ha) (fun e => by rw [d1] at e; cases e))
  have hnx := Zur hk hr
  have hkb := hnx.le
  have hrb : r < 256 ^ 8 := Nat.lt_of_lt_of_le hk.lt (Nat.pow_le_pow_right (by decide) (by omega))
  refine Z5 (Zbn ?_)
  refine Zmm (Zai hE Zcx 4 rfl rfl rfl ?_)
  simp (config := {dsimp := false}) only [↓Zt, vz, vn, nq, Zp, Zh, Zd, Zb, Zg, Za, Zi, Ze, Zj, Zf, if_true, if_false, implies_true, forall_const, ne_eq, reduceIte, reduceCtorEq, Nat.reduceEqDiff, Nat.reduceAdd, Nat.reduceMul, Nat.reduceDiv, Nat.reduceLT, Nat.reduceSub, Nat.reduceLeDiff, Nat.reduceBNe, Nat.reduceBEq, Nat.reduceBeqDiff, List.range, List.range.loop, Zu, Tryd.ntmps24, Tryd.results24, List.drop_zero, List.take_succ_cons, List.take_zero]
  refine Ze3 (Zkz hE (dst := 17) (ta := 13) (tb := 16) (t1 := 44) (t2 := 44) (e := 5) (ys := [((r % 256 : Nat) : Int)]) rfl rfl rfl (by decide) rfl rfl rfl rfl rfl rfl rfl (by decide) rfl rfl ?_ (by simp; omega) fun v' => ?_)
  ·have hw : IntKind.wrap .u8 ((r : Nat) : Int) = ((r % 256 : Nat) : Int) := by rw [IntKind.wrap_u8]; omega
   rw [← hw]
   rfl
  refine Zax hE Zcx (nx := 60) _ rfl rfl ?_
  simp (config := {dsimp := false}) only [↓Zt, vz, vn, nq, Zp, Zh, Zd, Zb, Zg, Za, Zi, Ze, Zj, Zf, if_true, if_false, implies_true, forall_const, ne_eq, reduceIte, reduceCtorEq, Nat.reduceEqDiff, Nat.reduceAdd, Nat.reduceMul, Nat.reduceDiv, Nat.reduceLT, Nat.reduceSub, Nat.reduceLeDiff, Nat.reduceBNe, Nat.reduceBEq, Nat.reduceBeqDiff, List.range, List.range.loop, Zu, Tryd.ntmps24, Tryd.results24, List.drop_zero, List.drop_succ_cons]
  intro a w ha
  refine Zby ?_ ha
  refine Zh5 hE Zcx hl rfl (Nat.le_of_ble_eq_true rfl) ?_
  simp (config := {dsimp := false}) only [↓Zt, vz, vn, nq, Zp, Zh, Zd, Zb, Zg, Za, Zi, Ze, Zj, Zf, if_true, if_false, implies_true, forall_const, ne_eq, reduceIte, reduceCtorEq, Nat.reduceEqDiff, Nat.reduceAdd, Nat.reduceMul, Nat.reduceDiv, Nat.reduceLT, Nat.reduceSub, Nat.reduceLeDiff, Nat.reduceBNe, Nat.reduceBEq, Nat.reduceBeqDiff, List.range, List.range.loop, Zu, Tryd.ntmps24, Tryd.results24]
  have hsh : ZeY .i64 ((r : Nat) : Int) 8 = ((r / 256 : Nat) : Int) := by
   unfold ZeY
   rw [show (2 : Int) ^ min (8 : Int).toNat (IntKind.bits .i64) = 256 from rfl, Int.fdiv_eq_ediv_of_nonneg _ (by decide)]
   omega
  rw [hsh]
  refine ⟨by decide, ZdM fun a w ha => ⟨⟨(k + 1, v', xs ++ [((r % 256 : Nat) : Int)], r / 256), hnx⟩, ZcH Zcx hl (Nat.le_of_ble_eq_true rfl) ?_ ha, by (try simp only); omega⟩⟩
  exact ⟨⟨Zc rfl, rfl, Zc rfl, rfl, trivial⟩, trivial, trivial⟩
 subst hr
 have d1 : decide ((0 : Int) < (((0 : Nat) : Nat) : Int)) = false := rfl
 refine gmk (ZI (b := decide ((0 : Int) < (((0 : Nat) : Nat) : Int))) rfl (fun e => by rw [d1] at e; cases e) (fun _ => ZiG fun a w ha => Zby ?_ ha))
 have hdg : Zda 8 n = xs := by rw [hk.eq, ZlD, List.append_nil]
 rw [hdg] at hres
 refine ZqN (α := Value) (fun v' => [(3, .raw v')]) (fun _ => ⟨[], [], 108⟩) (fun v' => HV w0.heap.size .u8 v' (0 :: ZcX xs)) ?_ fun v2 => ?_
 ·by_cases hx : xs = []
  ·subst hx
   have ht : ZcX [] = [] := rfl
   refine ZbH (Zai hE Zcx 1 rfl rfl rfl ?_)
   simp (config := {dsimp := false}) only [↓Zt, vz, vn, nq, Zp, Zh, Zd, Zb, Zg, Za, Zi, Ze, Zj, Zf, if_true, if_false, implies_true, forall_const, ne_eq, reduceIte, reduceCtorEq, Nat.reduceEqDiff, Nat.reduceAdd, Nat.reduceMul, Nat.reduceDiv, Nat.reduceLT, Nat.reduceSub, Nat.reduceLeDiff, Nat.reduceBNe, Nat.reduceBEq, Nat.reduceBeqDiff, List.range, List.range.loop, Zu, Tryd.ntmps24, Tryd.results24, List.drop_zero, List.take_succ_cons, List.take_zero]
   refine Ze3 (Zh3 hE (te := 5) rfl (.inl rfl) rfl (by decide) rfl rfl rfl ?_)
   refine Zax hE Zcx (nx := 84) _ rfl rfl ?_
   simp (config := {dsimp := false}) only [↓Zt, vz, vn, nq, Zp, Zh, Zd, Zb, Zg, Za, Zi, Ze, Zj, Zf, if_true, if_false, implies_true, forall_const, ne_eq, reduceIte, reduceCtorEq, Nat.reduceEqDiff, Nat.reduceAdd, Nat.reduceMul, Nat.reduceDiv, Nat.reduceLT, Nat.reduceSub, Nat.reduceLeDiff, Nat.reduceBNe, Nat.reduceBEq, Nat.reduceBeqDiff, List.range, List.range.loop, Zu, Tryd.ntmps24, Tryd.results24, List.drop_zero, List.drop_succ_cons]
   have d3 : decide ((1 : Int) < ((1 : Nat) : Int)) = false := rfl
   refine ⟨fun e => absurd (d3.symm.trans e) (by decide), fun _ => ZR ?_⟩
   refine ZI (b := false) rfl (fun e => by cases e) (fun _ => Zbg fun a w ha => ⟨v, ZcH Zcx hl (Nat.le_of_ble_eq_true rfl) ?_ ha⟩)
   exact ⟨⟨Zc rfl, rfl, trivial⟩, trivial, trivial⟩
  obtain ⟨m, hm⟩ : ∃ m, xs.length = m + 1 := ⟨xs.length - 1, by have := List.length_pos_iff.2 hx; omega⟩
  have d2 : decide ((1 : Int) < ((xs.length + 1 : Nat) : Int)) = true := decide_eq_true (by omega)
  have hw1 : IntKind.wrap .i64 (((xs.length + 1 : Nat) : Int) - 1) = ((m + 1 : Nat) : Int) := by rw [ZaR (by omega) (by omega)]; omega
  have hla : (0 :: xs).getD (m + 1) 0 = xs.getD m 0 := rfl
  refine ZbH (Zai hE Zcx 1 rfl rfl rfl ?_)
  simp (config := {dsimp := false}) only [↓Zt, vz, vn, nq, Zp, Zh, Zd, Zb, Zg, Za, Zi, Ze, Zj, Zf, if_true, if_false, implies_true, forall_const, ne_eq, reduceIte, reduceCtorEq, Nat.reduceEqDiff, Nat.reduceAdd, Nat.reduceMul, Nat.reduceDiv, Nat.reduceLT, Nat.reduceSub, Nat.reduceLeDiff, Nat.reduceBNe, Nat.reduceBEq, Nat.reduceBeqDiff, List.range, List.range.loop, Zu, Tryd.ntmps24, Tryd.results24, List.drop_zero, List.take_succ_cons, List.take_zero]
  refine Ze3 (Zh3 hE (te := 5) rfl (.inl rfl) rfl (by decide) rfl rfl rfl ?_)
  refine Zai hE Zcx 4 rfl rfl rfl ?_
  simp (config := {dsimp := false}) only [↓Zt, vz, vn, nq, Zp, Zh, Zd, Zb, Zg, Za, Zi, Ze, Zj, Zf, if_true, if_false, implies_true, forall_const, ne_eq, reduceIte, reduceCtorEq, Nat.reduceEqDiff, Nat.reduceAdd, Nat.reduceMul, Nat.reduceDiv, Nat.reduceLT, Nat.reduceSub, Nat.reduceLeDiff, Nat.reduceBNe, Nat.reduceBEq, Nat.reduceBeqDiff, List.range, List.range.loop, Zu, Tryd.ntmps24, Tryd.results24, List.drop_zero, List.drop_succ_cons, List.take_succ_cons, List.take_zero]
  refine ⟨fun _ => ?_, fun e => absurd (d2.symm.trans e) (by decide)⟩
  refine Ze3 (Zh3 hE (te := 5) rfl (.inr ⟨3, 21, true, rfl, rfl⟩) rfl (by decide) rfl rfl rfl ?_)
  refine Zai hE Zcx 1 rfl rfl rfl ?_
  simp (config := {dsimp := false}) only [↓Zt, vz, vn, nq, Zp, Zh, Zd, Zb, Zg, Za, Zi, Ze, Zj, Zf, if_true, if_false, implies_true, forall_const, ne_eq, reduceIte, reduceCtorEq, Nat.reduceEqDiff, Nat.reduceAdd, Nat.reduceMul, Nat.reduceDiv, Nat.reduceLT, Nat.reduceSub, Nat.reduceLeDiff, Nat.reduceBNe, Nat.reduceBEq, Nat.reduceBeqDiff, List.range, List.range.loop, Zu, Tryd.ntmps24, Tryd.results24, List.drop_zero, List.drop_succ_cons, List.take_succ_cons, List.take_zero, hw1]
  refine Ze3 (Zts hE ZwB rfl ty5 rfl rfl (n := m + 1) rfl (.inr ⟨3, 21, true, rfl, rfl⟩) rfl rfl (by decide) rfl (fun b => .inr ⟨3, 21, true, rfl, rfl⟩) rfl rfl (by decide) rfl rfl (by simp [hm]) fun b => ?_)
  rw [hla]
  refine Zax hE Zcx (nx := 72) _ rfl rfl ?_
  simp (config := {dsimp := false}) only [↓Zt, vz, vn, nq, Zp, Zh, Zd, Zb, Zg, Za, Zi, Ze, Zj, Zf, if_true, if_false, implies_true, forall_const, ne_eq, reduceIte, reduceCtorEq, Nat.reduceEqDiff, Nat.reduceAdd, Nat.reduceMul, Nat.reduceDiv, Nat.reduceLT, Nat.reduceSub, Nat.reduceLeDiff, Nat.reduceBNe, Nat.reduceBEq, Nat.reduceBeqDiff, List.range, List.range.loop, Zu, Tryd.ntmps24, Tryd.results24, List.drop_zero, List.drop_succ_cons]
  have hm1 : xs.length - 1 = m := by omega
  by_cases hb : 127 < xs.getD m 0
  ·have ht : ZcX xs = xs ++ [0] := by unfold ZcX; rw [hm1, if_pos ⟨by omega, hb⟩]
   have d4 : decide ((128 : Int) ≤ xs.getD m 0) = true := decide_eq_true (by omega)
   refine ZR (ZI (b := decide ((128 : Int) ≤ xs.getD m 0)) rfl (fun _ => ?_) (fun e => by rw [d4] at e; cases e))
   refine Zmm (Zai hE Zcx 2 rfl rfl rfl ?_)
   simp (config := {dsimp := false}) only [↓Zt, vz, vn, nq, Zp, Zh, Zd, Zb, Zg, Za, Zi, Ze, Zj, Zf, if_true, if_false, implies_true, forall_const, ne_eq, reduceIte, reduceCtorEq, Nat.reduceEqDiff, Nat.reduceAdd, Nat.reduceMul, Nat.reduceDiv, Nat.reduceLT, Nat.reduceSub, Nat.reduceLeDiff, Nat.reduceBNe, Nat.reduceBEq, Nat.reduceBeqDiff, List.range, List.range.loop, Zu, Tryd.ntmps24, Tryd.results24, List.drop_zero, List.take_succ_cons, List.take_zero]
   refine Ze3 (Zkz hE (dst := 32) (ta := 30) (tb := 31) (t1 := 44) (t2 := 44) (e := 5) (ys := [0]) rfl rfl rfl (by decide) rfl rfl rfl rfl rfl rfl rfl (by decide) rfl rfl rfl (by simp; omega) fun v' => ?_)
   refine Zax hE Zcx (nx := 84) _ rfl rfl ?_
   simp (config := {dsimp := false}) only [↓Zt, vz, vn, nq, Zp, Zh, Zd, Zb, Zg, Za, Zi, Ze, Zj, Zf, if_true, if_false, implies_true, forall_const, ne_eq, reduceIte, reduceCtorEq, Nat.reduceEqDiff, Nat.reduceAdd, Nat.reduceMul, Nat.reduceDiv, Nat.reduceLT, Nat.reduceSub, Nat.reduceLeDiff, Nat.reduceBNe, Nat.reduceBEq, Nat.reduceBeqDiff, List.range, List.range.loop, Zu, Tryd.ntmps24, Tryd.results24, List.drop_zero, List.drop_succ_cons]
   refine ZdM fun a w ha => ⟨v', ?_⟩
   rw [ht]
   refine ZcH Zcx hl (Nat.le_of_ble_eq_true rfl) ?_ ha
   exact ⟨⟨Zc rfl, rfl, trivial⟩, trivial, trivial⟩
  ·have ht : ZcX xs = xs := by unfold ZcX; rw [hm1, if_neg (by omega)]
   have d4 : decide ((128 : Int) ≤ xs.getD m 0) = false := decide_eq_false (by omega)
   refine ZR (ZI (b := decide ((128 : Int) ≤ xs.getD m 0)) rfl (fun e => by rw [d4] at e; cases e) (fun _ => Zbg fun a w ha => ⟨v, ?_⟩))
   rw [ht]
   refine ZcH Zcx hl (Nat.le_of_ble_eq_true rfl) ?_ ha
   exact ⟨⟨Zc rfl, rfl, trivial⟩, trivial, trivial⟩
 have hlt : (ZcX xs).length ≤ 9 := by
  unfold ZcX
  split
  ·simp; omega
  ·omega
 generalize ZcX xs = d at *
 refine ZvS 3 (by simp) rfl fun zs => ?_
 simp only [ZaW]
 refine ZS hE Zar hl rfl (Nat.le_of_ble_eq_true rfl) ?_
 simp (config := {dsimp := false}) only [↓Zt, vz, vn, nq, Zp, Zh, Zd, Zb, Zg, Za, Zi, Ze, Zj, Zf, if_true, if_false, implies_true, forall_const, ne_eq, reduceIte, reduceCtorEq, Nat.reduceEqDiff, Nat.reduceAdd, Nat.reduceMul, Nat.reduceDiv, Nat.reduceLT, Nat.reduceSub, Nat.reduceLeDiff, Nat.reduceBNe, Nat.reduceBEq, Nat.reduceBeqDiff, List.range, List.range.loop, Zu, Tryd.ntmps24, Tryd.results24]
 have hwd : IntKind.wrap .u8 (IntKind.wrap .i64 (((d.length + 1 : Nat) : Int) - 1)) = (d.length : Int) := by rw [ZaR (by omega) (by omega), IntKind.wrap_u8]; omega
 rw [hwd]
 refine ⟨by omega, by omega, gmk (ZS hE Zar hl rfl (Nat.le_of_ble_eq_true rfl) ?_)⟩
 simp (config := {dsimp := false}) only [↓Zt, vz, vn, nq, Zp, Zh, Zd, Zb, Zg, Za, Zi, Ze, Zj, Zf, if_true, if_false, implies_true, forall_const, ne_eq, reduceIte, reduceCtorEq, Nat.reduceEqDiff, Nat.reduceAdd, Nat.reduceMul, Nat.reduceDiv, Nat.reduceLT, Nat.reduceSub, Nat.reduceLeDiff, Nat.reduceBNe, Nat.reduceBEq, Nat.reduceBeqDiff, List.range, List.range.loop, Zu, Tryd.ntmps24, Tryd.results24]
 refine gmk (Zav fun a w ha => ?_)
 subst hP
 refine ZW () ?_ ha
 have hfin : ∀ (q : Nat), ZgX ⟨[(108, .arr .u8 ((d ++ zs).length + 1) ((0 :: (d ++ zs)).set (0 + 0 : Int).toNat (d.length : Int)))], [], q⟩ 0 0 [] [] [108] (.bsl 108 0 ((d ++ zs).length + 1) 0 ((d.length + 1 : Nat) : Int)) = .sli .no .u8 ((d.length : Int) :: d) := by
  intro q
  simp [ZgX, D.frz, S.box, Zm, D.ren, Zfb]
 rw [hres]
 exact ⟨[], [], [108], ⟨rfl, rfl⟩, ⟨rfl, rfl⟩, ⟨by simp, by simp⟩, by intro i hi; simp at hi; subst hi; exact ⟨by decide, by simp, rfl⟩, rfl, rfl, ⟨_, rfl, rfl⟩, ⟨_, rfl, rfl⟩, hfin _⟩
theorem Zdi : Zw E 24 := by
 refine Zim hE hgl (show E.P.funcs[24]? = some Tryd.f24 from Tryd.func24) (show Tryd.f24.body = some ZpS from rfl) (p := Zba) (ts := []) (fun args s nm => Za3 args s nm) fun args ds tv hv h8 h9 => ?_
 unfold Zba at hv ⊢
 split at hv
 ·rename_i h
  exact ⟨by simp, Nat.le_of_ble_eq_true rfl, fun g1 w0 hl _ => Zs0 h hv g1 w0 hl⟩
 ·exact hv.elim
end Go.Vi.CO
end

section
namespace Go.Vi.CO
open Go.Proofs
end Go.Vi.CO
end

section
namespace Go.Vi.CO
open Go.Proofs
end Go.Vi.CO
end

section
namespace Go.Vi.CO
open Go.Proofs
end Go.Vi.CO
end

section
namespace Go.Vi.CO
open Go.Proofs
end Go.Vi.CO
end

section
namespace Go.Vi.CO
open Go.Proofs
theorem Zti {xs : List Int} (h : bytes xs) : bytes (ZcX xs) := by
 unfold ZcX
 split
 ·exact Zsz h (Zs9 (by decide))
 ·exact h
theorem ZlV : ∀ (f n : Nat), bytes (Zda f n)
 | 0, n => Zh1
 | f + 1, n => by
  simp only [Zda]
  split
  ·exact Zh1
  ·intro x hx
   rcases List.mem_cons.1 hx with rfl | hx
   ·omega
   ·exact ZlV f _ x hx
theorem Zqk (xs : List Int) : (ZcX xs).length ≤ xs.length + 1 := by
 unfold ZcX
 split <;> simp
theorem Zi8 (h : Int) : bytes (ZK h) := by
 have h2 := Zqk (Zda 8 h.toNat)
 have h3 := Zjg 8 h.toNat
 unfold ZK
 split
 ·exact Zh1
 ·intro x hx
  rcases List.mem_cons.1 hx with rfl | hx
  ·omega
  ·exact Zti (ZlV _ _) x hx
theorem Zn9 (h : Int) : (ZK h).length ≤ 10 := by
 have h2 := Zqk (Zda 8 h.toNat)
 have h3 := Zjg 8 h.toNat
 unfold ZK
 split
 ·simp
 ·simp only [List.length_cons]; omega
end Go.Vi.CO
end

section
namespace Go.Vi.CO
open Go.Proofs
end Go.Vi.CO
end

section
namespace Go.Vi.CO
open Go.Proofs
def Zl9 : List Int → Int
 | [] => 0
 | x :: r => x + 256 * Zl9 r
theorem ZrY (xs : List Int) : Zl9 (ZcX xs) = Zl9 xs := by
 have h : ∀ l : List Int, Zl9 (l ++ [0]) = Zl9 l := by
  intro l
  induction l with
  | nil => rfl
  | cons x r ih => simp only [List.cons_append, Zl9, ih]
 unfold ZcX
 split
 ·exact h xs
 ·rfl
theorem Zmr : ∀ (f n : Nat), n < 256 ^ f → Zl9 (Zda f n) = (n : Int)
 | 0, n, h => by simp at h; subst h; rfl
 | f + 1, n, h => by
  by_cases hn : n = 0
  ·subst hn; rw [ZlD]; rfl
  ·rw [Zlg hn]
   simp only [Zl9]
   rw [Zmr f (n / 256) (by rw [Nat.pow_succ] at h; exact Nat.div_lt_of_lt_mul (by omega))]
   omega
theorem Zs2 {a b : Int} (ha : 0 ≤ a) (hb : 0 ≤ b) (ka : ZaD a) (kb : ZaD b) {n : Nat} (hn : n = min (ZK a).length (ZK b).length) (h : (ZK a).take n = (ZK b).take n) : a = b := by
 have ea : ZK a = ((ZcX (Zda 8 a.toNat)).length : Int) :: ZcX (Zda 8 a.toNat) := if_neg (by omega)
 have eb : ZK b = ((ZcX (Zda 8 b.toNat)).length : Int) :: ZcX (Zda 8 b.toNat) := if_neg (by omega)
 rw [ea, eb] at hn h
 simp only [List.length_cons] at hn
 obtain ⟨m, hm⟩ : ∃ m, n = m + 1 := ⟨n - 1, by omega⟩
 subst hm
 simp only [List.take_succ_cons, List.cons.injEq] at h
 obtain ⟨h1, h2⟩ := h
 have h3 : (ZcX (Zda 8 a.toNat)).length = (ZcX (Zda 8 b.toNat)).length := by omega
 rw [List.take_of_length_le (by omega), List.take_of_length_le (by omega)] at h2
 have h4 := congrArg Zl9 h2
 rw [ZrY, ZrY, Zmr _ _ (by have := ka.2; omega), Zmr _ _ (by have := kb.2; omega)] at h4
 omega
theorem ZuD {a b : Int} (ha : 0 ≤ a) (hb : 0 ≤ b) (ka : ZaD a) (kb : ZaD b) {n : Nat} (hn : n = min (ZK a).length (ZK b).length) : decide (strOfNums ((ZK a).take n) = strOfNums ((ZK b).take n)) = decide (a = b) := by
 apply decide_eq_decide.2
 rw [ZtS (fun x hx => Zi8 a x (List.mem_of_mem_take hx)) (fun x hx => Zi8 b x (List.mem_of_mem_take hx))]
 exact ⟨Zs2 ha hb ka kb hn, fun e => by rw [e]⟩
theorem Za0 {a : Int} (ha : 0 ≤ a) : 0 < (ZK a).length := by
 rw [show ZK a = ((ZcX (Zda 8 a.toNat)).length : Int) :: ZcX (Zda 8 a.toNat) from if_neg (by omega)]
 simp
theorem ZmJ (sub halv h : Int) : 0 ≤ ZL sub halv h := by
 unfold ZL
 split
 ·omega
 ·exact Int.ediv_nonneg (by omega) (Int.le_of_lt (Int.pow_pos (by decide)))
theorem Zvo {sub halv a b : Int} (ha : 0 ≤ a) (hab : a ≤ b) : ZL sub halv b ≤ ZL sub halv a := by
 have hp := ZmJ sub halv a
 by_cases hb : b < 0 ∨ halv < 1 ∨ sub < 1 ∨ 63 ≤ b / halv
 ·have e : ZL sub halv b = 0 := if_pos hb
  omega
 have hq : a / halv ≤ b / halv := Int.ediv_le_ediv (by omega) hab
 have q0 : 0 ≤ a / halv := Int.ediv_nonneg ha (by omega)
 have e1 : ZL sub halv b = sub / 2 ^ (b / halv).toNat := if_neg hb
 have e2 : ZL sub halv a = sub / 2 ^ (a / halv).toNat := if_neg (by omega)
 rw [e1, e2]
 obtain ⟨m, hm⟩ : ∃ m : Nat, (b / halv).toNat = (a / halv).toNat + m := ⟨(b / halv).toNat - (a / halv).toNat, by omega⟩
 rw [hm, Int.pow_add, ← Int.ediv_ediv_of_nonneg (Int.le_of_lt (Int.pow_pos (by decide)))]
 exact Int.ediv_le_self _ (Int.ediv_nonneg (by omega) (Int.le_of_lt (Int.pow_pos (by decide))))
theorem ZuZ {sub halv a : Int} (ha : 0 ≤ a) (hh : 1 ≤ halv) (ks : ZaD sub) : ZL sub halv (a + halv) = ZL sub halv a / 2 := by
 have hq : (a + halv) / halv = a / halv + 1 := Int.add_ediv_of_dvd_right (Int.dvd_refl _) |>.trans (by rw [Int.ediv_self (by omega)])
 have q0 : 0 ≤ a / halv := Int.ediv_nonneg ha (by omega)
 by_cases hs : sub < 1
 ·rw [show ZL sub halv a = 0 from if_pos (.inr (.inr (.inl hs))), show ZL sub halv (a + halv) = 0 from if_pos (.inr (.inr (.inl hs)))]; rfl
 by_cases h1 : 63 ≤ a / halv
 ·rw [show ZL sub halv a = 0 from if_pos (.inr (.inr (.inr h1))), show ZL sub halv (a + halv) = 0 from if_pos (.inr (.inr (.inr (by rw [hq]; omega))))]; rfl
 have e2 : ZL sub halv a = sub / 2 ^ (a / halv).toNat := if_neg (by omega)
 have e3 : sub / 2 ^ (a / halv).toNat / 2 = sub / 2 ^ ((a / halv).toNat + 1) := by
  rw [Int.ediv_ediv_of_nonneg (Int.le_of_lt (Int.pow_pos (by decide))), show (2 : Int) ^ (a / halv).toNat * 2 = 2 ^ ((a / halv).toNat + 1) from (Int.pow_succ 2 _).symm]
 rw [e2, e3]
 by_cases h2 : a / halv = 62
 ·rw [show ZL sub halv (a + halv) = 0 from if_pos (.inr (.inr (.inr (by rw [hq]; omega)))), h2]
  have := ks.2
  rw [Int.ediv_eq_zero_of_lt (by omega) (by show sub < 2 ^ 63; have : (2 : Int) ^ 63 = 9223372036854775808 := (by decide); omega)]
 ·rw [show ZL sub halv (a + halv) = sub / 2 ^ ((a + halv) / halv).toNat from if_neg (by rw [hq]; omega), hq]
  congr 2
  omega
end Go.Vi.CO
end

section
namespace Go.Vi.CO
open Go.Proofs
end Go.Vi.CO
end

section
namespace Go.Vi.CO
open Go.Proofs
theorem ZoU : Zw E 8 := by
 refine Zy hE hgl (show E.P.funcs[8]? = some Tryd.f8 from Tryd.func8) rfl (p := ZbS) (fun _ _ _ => rfl) ?_
 intro args hv
 unfold ZbS at hv ⊢
 split at hv
 case h_2 => exact hv.elim
 rename_i a0 a1 a2 a3 a4 a5 b0 b1 b2 b3 halv sub b4 b5 b6 b7 a b
 refine ⟨by simp, Nat.le_of_ble_eq_true rfl, ?_⟩
 simp only [Zl] at hv
 obtain ⟨⟨hsub, hhalv⟩, ka, kb⟩ := hv
 simp (config := {dsimp := false}) only [↓Zt, vz, vn, nq, Zp, Zh, Zd, Zb, Zg, Za, Zi, Ze, Zj, Zf, if_true, if_false, implies_true, forall_const, ne_eq, reduceIte, reduceCtorEq, Nat.reduceEqDiff, Nat.reduceAdd, Nat.reduceMul, Nat.reduceDiv, Nat.reduceLT, Nat.reduceSub, Nat.reduceLeDiff, Nat.reduceBNe, Nat.reduceBEq, Nat.reduceBeqDiff, List.range, List.range.loop, Zu, Tryd.ntmps8, Tryd.results8]
 refine Zb0 [1, 2, 3] (by kernel_rfl) ?_
 have px := ZmJ sub halv a
 have py := ZmJ sub halv b
 have dx : decide (ZL sub halv a < 0) = false := decide_eq_false (by omega)
 have dy : decide (ZL sub halv b < 0) = false := decide_eq_false (by omega)
 have hm := fun h1 h2 => Zvo (sub := sub) (halv := halv) (a := a) (b := b) h1 h2
 have hf := fun h1 h2 => ZuZ (sub := sub) (halv := halv) (a := a) h1 h2 hsub
 have hpd := fun h1 h2 n hn => ZuD (a := a) (b := b) h1 h2 ka kb (n := n) hn
 have hwx : IntKind.wrap .i64 ((ZL sub halv a).tdiv 2) = ZL sub halv a / 2 := by
  have hb : ZL sub halv a ≤ 9223372036854775807 := by
   unfold ZL
   split
   ·omega
   ·refine Int.le_trans (Int.ediv_le_self _ (by omega)) hsub.2
  rw [Int.tdiv_eq_ediv_of_nonneg px]
  exact ZaR (by omega) (by omega)
 generalize hX : ZL sub halv a = X at *
 generalize hY : ZL sub halv b = Y at *
 by_cases ca : 0 ≤ a
 case neg =>
  have d1 : decide (0 ≤ a) = false := decide_eq_false ca
  by_cases ch : 1 ≤ halv
  ·have d2 : decide (1 ≤ halv) = true := decide_eq_true ch
   simp (config := {dsimp := false}) only [↓Zt, vz, vn, nq, Zp, Zh, Zd, Zb, Zg, Za, Zi, Ze, Zj, Zf, if_true, if_false, implies_true, forall_const, ne_eq, reduceIte, reduceCtorEq, Nat.reduceEqDiff, Nat.reduceAdd, Nat.reduceMul, Nat.reduceDiv, Nat.reduceLT, Nat.reduceSub, Nat.reduceLeDiff, Nat.reduceBNe, Nat.reduceBEq, Nat.reduceBeqDiff, List.range, List.range.loop, Zu, Tryd.ntmps8, Tryd.results8, PF.toR, Zl, vb, hX, hY, d1, d2, dx, dy, Zo, Z7, Z4, ZaB, ZaA, ZX, Zo, ZaF, ZaG]
   exact ⟨hsub, ka, hsub, kb⟩
  ·have d2 : decide (1 ≤ halv) = false := decide_eq_false ch
   simp (config := {dsimp := false}) only [↓Zt, vz, vn, nq, Zp, Zh, Zd, Zb, Zg, Za, Zi, Ze, Zj, Zf, if_true, if_false, implies_true, forall_const, ne_eq, reduceIte, reduceCtorEq, Nat.reduceEqDiff, Nat.reduceAdd, Nat.reduceMul, Nat.reduceDiv, Nat.reduceLT, Nat.reduceSub, Nat.reduceLeDiff, Nat.reduceBNe, Nat.reduceBEq, Nat.reduceBeqDiff, List.range, List.range.loop, Zu, Tryd.ntmps8, Tryd.results8, PF.toR, Zl, vb, hX, hY, d1, d2, dx, dy, Zo, Z7, Z4, ZaB, ZaA, ZX, Zo, ZaF, ZaG]
   exact ⟨hsub, ka, hsub, kb⟩
 have d1 : decide (0 ≤ a) = true := decide_eq_true ca
 have hnn : (if (((ZK b).length : Nat) : Int) < (((ZK a).length : Nat) : Int) then (((ZK b).length : Nat) : Int) else (((ZK a).length : Nat) : Int)) = ((min (ZK a).length (ZK b).length : Nat) : Int) := by split <;> omega
 have hla := Zn9 a
 have hlb := Zn9 b
 by_cases cab : a ≤ b
 ·have dab : decide (a ≤ b) = true := decide_eq_true cab
  have cB : 0 ≤ b := by omega
  have dB : decide (0 ≤ b) = true := decide_eq_true cB
  have hlt : decide (X < Y) = false := decide_eq_false (by have := hm ca cab; omega)
  by_cases c4 : 1 ≤ halv
  case neg =>
   have d2 : decide (1 ≤ halv) = false := decide_eq_false c4
   simp (config := {dsimp := false}) only [↓Zt, vz, vn, nq, Zp, Zh, Zd, Zb, Zg, Za, Zi, Ze, Zj, Zf, if_true, if_false, implies_true, forall_const, ne_eq, reduceIte, reduceCtorEq, Nat.reduceEqDiff, Nat.reduceAdd, Nat.reduceMul, Nat.reduceDiv, Nat.reduceLT, Nat.reduceSub, Nat.reduceLeDiff, Nat.reduceBNe, Nat.reduceBEq, Nat.reduceBeqDiff, List.range, List.range.loop, Zu, Tryd.ntmps8, Tryd.results8, PF.toR, Zl, vb, hX, hY, hnn, dab, hlt, dB, dx, dy, d1, d2, Zo, decide_true, Z7, Z4, ZaB, ZaA, ZX, Zo, ZaF, ZaG, Za3, Zba, Zdi, Zdf]
   refine ⟨hsub, ka, hsub, kb, ka, kb, ?_⟩
   refine Zb0 [1, 2, 9, 10, 11] (by kernel_rfl) ?_
   obtain ⟨n, hn⟩ : ∃ n, n = min (ZK a).length (ZK b).length := ⟨_, rfl⟩
   rw [← hn]
   have dn : decide (((n : Nat) : Int) = 0) = false := decide_eq_false (by have := Za0 ca; have := Za0 cB; omega)
   have s1 : List.drop (Int.toNat 0) (List.take ((n : Nat) : Int).toNat (ZK a)) = (ZK a).take n := by rw [Int.toNat_natCast]; rfl
   have s2 : List.drop (Int.toNat 0) (List.take ((n : Nat) : Int).toNat (ZK b)) = (ZK b).take n := by rw [Int.toNat_natCast]; rfl
   have hq := hpd ca cB n hn
   cases hab : decide (a = b)
   all_goals (rw [hab] at hq; simp (config := {dsimp := false}) only [↓Zt, vz, vn, nq, Zp, Zh, Zd, Zb, Zg, Za, Zi, Ze, Zj, Zf, if_true, if_false, implies_true, forall_const, ne_eq, reduceIte, reduceCtorEq, Nat.reduceEqDiff, Nat.reduceAdd, Nat.reduceMul, Nat.reduceDiv, Nat.reduceLT, Nat.reduceSub, Nat.reduceLeDiff, Nat.reduceBNe, Nat.reduceBEq, Nat.reduceBeqDiff, List.range, List.range.loop, Zu, Tryd.ntmps8, Tryd.results8, vb, dn, s1, s2, hq, hab, Zo, ZX, Zo, ZaF, ZaG])
   all_goals exact ⟨Int.le_refl _, by omega, by omega, by omega, Int.le_refl _, by omega, by omega, by omega, fun h => absurd h (by decide), fun _ => rfl⟩
  have d2 : decide (1 ≤ halv) = true := decide_eq_true c4
  by_cases c5 : a ≤ 1099511627776
  case neg =>
   have d3 : decide (a ≤ 1099511627776) = false := decide_eq_false c5
   simp (config := {dsimp := false}) only [↓Zt, vz, vn, nq, Zp, Zh, Zd, Zb, Zg, Za, Zi, Ze, Zj, Zf, if_true, if_false, implies_true, forall_const, ne_eq, reduceIte, reduceCtorEq, Nat.reduceEqDiff, Nat.reduceAdd, Nat.reduceMul, Nat.reduceDiv, Nat.reduceLT, Nat.reduceSub, Nat.reduceLeDiff, Nat.reduceBNe, Nat.reduceBEq, Nat.reduceBeqDiff, List.range, List.range.loop, Zu, Tryd.ntmps8, Tryd.results8, PF.toR, Zl, vb, hX, hY, hnn, dab, hlt, dB, dx, dy, d1, d2, d3, Zo, decide_true, Z7, Z4, ZaB, ZaA, ZX, Zo, ZaF, ZaG, Za3, Zba, Zdi, Zdf]
   refine ⟨hsub, ka, hsub, kb, ka, kb, ?_⟩
   refine Zb0 [1, 2, 9, 10, 11] (by kernel_rfl) ?_
   obtain ⟨n, hn⟩ : ∃ n, n = min (ZK a).length (ZK b).length := ⟨_, rfl⟩
   rw [← hn]
   have dn : decide (((n : Nat) : Int) = 0) = false := decide_eq_false (by have := Za0 ca; have := Za0 cB; omega)
   have s1 : List.drop (Int.toNat 0) (List.take ((n : Nat) : Int).toNat (ZK a)) = (ZK a).take n := by rw [Int.toNat_natCast]; rfl
   have s2 : List.drop (Int.toNat 0) (List.take ((n : Nat) : Int).toNat (ZK b)) = (ZK b).take n := by rw [Int.toNat_natCast]; rfl
   have hq := hpd ca cB n hn
   cases hab : decide (a = b)
   all_goals (rw [hab] at hq; simp (config := {dsimp := false}) only [↓Zt, vz, vn, nq, Zp, Zh, Zd, Zb, Zg, Za, Zi, Ze, Zj, Zf, if_true, if_false, implies_true, forall_const, ne_eq, reduceIte, reduceCtorEq, Nat.reduceEqDiff, Nat.reduceAdd, Nat.reduceMul, Nat.reduceDiv, Nat.reduceLT, Nat.reduceSub, Nat.reduceLeDiff, Nat.reduceBNe, Nat.reduceBEq, Nat.reduceBeqDiff, List.range, List.range.loop, Zu, Tryd.ntmps8, Tryd.results8, vb, dn, s1, s2, hq, hab, Zo, ZX, Zo, ZaF, ZaG])
   all_goals exact ⟨Int.le_refl _, by omega, by omega, by omega, Int.le_refl _, by omega, by omega, by omega, fun h => absurd h (by decide), fun _ => rfl⟩
  have d3 : decide (a ≤ 1099511627776) = true := decide_eq_true c5
  by_cases c6 : halv ≤ 1099511627776
  case neg =>
   have d4 : decide (halv ≤ 1099511627776) = false := decide_eq_false c6
   simp (config := {dsimp := false}) only [↓Zt, vz, vn, nq, Zp, Zh, Zd, Zb, Zg, Za, Zi, Ze, Zj, Zf, if_true, if_false, implies_true, forall_const, ne_eq, reduceIte, reduceCtorEq, Nat.reduceEqDiff, Nat.reduceAdd, Nat.reduceMul, Nat.reduceDiv, Nat.reduceLT, Nat.reduceSub, Nat.reduceLeDiff, Nat.reduceBNe, Nat.reduceBEq, Nat.reduceBeqDiff, List.range, List.range.loop, Zu, Tryd.ntmps8, Tryd.results8, PF.toR, Zl, vb, hX, hY, hnn, dab, hlt, dB, dx, dy, d1, d2, d3, d4, Zo, decide_true, Z7, Z4, ZaB, ZaA, ZX, Zo, ZaF, ZaG, Za3, Zba, Zdi, Zdf]
   refine ⟨hsub, ka, hsub, kb, ka, kb, ?_⟩
   refine Zb0 [1, 2, 9, 10, 11] (by kernel_rfl) ?_
   obtain ⟨n, hn⟩ : ∃ n, n = min (ZK a).length (ZK b).length := ⟨_, rfl⟩
   rw [← hn]
   have dn : decide (((n : Nat) : Int) = 0) = false := decide_eq_false (by have := Za0 ca; have := Za0 cB; omega)
   have s1 : List.drop (Int.toNat 0) (List.take ((n : Nat) : Int).toNat (ZK a)) = (ZK a).take n := by rw [Int.toNat_natCast]; rfl
   have s2 : List.drop (Int.toNat 0) (List.take ((n : Nat) : Int).toNat (ZK b)) = (ZK b).take n := by rw [Int.toNat_natCast]; rfl
   have hq := hpd ca cB n hn
   cases hab : decide (a = b)
   all_goals (rw [hab] at hq; simp (config := {dsimp := false}) only [↓Zt, vz, vn, nq, Zp, Zh, Zd, Zb, Zg, Za, Zi, Ze, Zj, Zf, if_true, if_false, implies_true, forall_const, ne_eq, reduceIte, reduceCtorEq, Nat.reduceEqDiff, Nat.reduceAdd, Nat.reduceMul, Nat.reduceDiv, Nat.reduceLT, Nat.reduceSub, Nat.reduceLeDiff, Nat.reduceBNe, Nat.reduceBEq, Nat.reduceBeqDiff, List.range, List.range.loop, Zu, Tryd.ntmps8, Tryd.results8, vb, dn, s1, s2, hq, hab, Zo, ZX, Zo, ZaF, ZaG])
   all_goals exact ⟨Int.le_refl _, by omega, by omega, by omega, Int.le_refl _, by omega, by omega, by omega, fun h => absurd h (by decide), fun _ => rfl⟩
  have d4 : decide (halv ≤ 1099511627776) = true := decide_eq_true c6
  have hw : IntKind.wrap .i64 (a + halv) = a + halv := ZaR (by omega) (by omega)
  have hX2 := hf ca c4
  simp (config := {dsimp := false}) only [↓Zt, vz, vn, nq, Zp, Zh, Zd, Zb, Zg, Za, Zi, Ze, Zj, Zf, if_true, if_false, implies_true, forall_const, ne_eq, reduceIte, reduceCtorEq, Nat.reduceEqDiff, Nat.reduceAdd, Nat.reduceMul, Nat.reduceDiv, Nat.reduceLT, Nat.reduceSub, Nat.reduceLeDiff, Nat.reduceBNe, Nat.reduceBEq, Nat.reduceBeqDiff, List.range, List.range.loop, Zu, Tryd.ntmps8, Tryd.results8, PF.toR, Zl, vb, hX, hY, hnn, dab, hlt, dB, dx, dy, d1, d2, d3, d4, hw, hX2, hwx, Zo, decide_true, Z7, Z4, ZaB, ZaA, ZX, Zo, ZaF, ZaG, Za3, Zba, Zdi, Zdf]
  refine ⟨hsub, ka, hsub, kb, hsub, ⟨by omega, by omega⟩, by decide, ka, kb, ?_⟩
  refine Zb0 [1, 2, 9, 10, 11] (by kernel_rfl) ?_
  obtain ⟨n, hn⟩ : ∃ n, n = min (ZK a).length (ZK b).length := ⟨_, rfl⟩
  rw [← hn]
  have dn : decide (((n : Nat) : Int) = 0) = false := decide_eq_false (by have := Za0 ca; have := Za0 cB; omega)
  have s1 : List.drop (Int.toNat 0) (List.take ((n : Nat) : Int).toNat (ZK a)) = (ZK a).take n := by rw [Int.toNat_natCast]; rfl
  have s2 : List.drop (Int.toNat 0) (List.take ((n : Nat) : Int).toNat (ZK b)) = (ZK b).take n := by rw [Int.toNat_natCast]; rfl
  have hq := hpd ca cB n hn
  cases hab : decide (a = b)
  all_goals (rw [hab] at hq; simp (config := {dsimp := false}) only [↓Zt, vz, vn, nq, Zp, Zh, Zd, Zb, Zg, Za, Zi, Ze, Zj, Zf, if_true, if_false, implies_true, forall_const, ne_eq, reduceIte, reduceCtorEq, Nat.reduceEqDiff, Nat.reduceAdd, Nat.reduceMul, Nat.reduceDiv, Nat.reduceLT, Nat.reduceSub, Nat.reduceLeDiff, Nat.reduceBNe, Nat.reduceBEq, Nat.reduceBeqDiff, List.range, List.range.loop, Zu, Tryd.ntmps8, Tryd.results8, vb, dn, s1, s2, hq, hab, Zo, ZX, Zo, ZaF, ZaG])
  all_goals exact ⟨Int.le_refl _, by omega, by omega, by omega, Int.le_refl _, by omega, by omega, by omega, fun h => absurd h (by decide), fun _ => rfl⟩
 have dab : decide (a ≤ b) = false := decide_eq_false cab
 by_cases cB : 0 ≤ b
 ·have dB : decide (0 ≤ b) = true := decide_eq_true cB
  by_cases c4 : 1 ≤ halv
  case neg =>
   have d2 : decide (1 ≤ halv) = false := decide_eq_false c4
   simp (config := {dsimp := false}) only [↓Zt, vz, vn, nq, Zp, Zh, Zd, Zb, Zg, Za, Zi, Ze, Zj, Zf, if_true, if_false, implies_true, forall_const, ne_eq, reduceIte, reduceCtorEq, Nat.reduceEqDiff, Nat.reduceAdd, Nat.reduceMul, Nat.reduceDiv, Nat.reduceLT, Nat.reduceSub, Nat.reduceLeDiff, Nat.reduceBNe, Nat.reduceBEq, Nat.reduceBeqDiff, List.range, List.range.loop, Zu, Tryd.ntmps8, Tryd.results8, PF.toR, Zl, vb, hX, hY, hnn, dab, dB, dx, dy, d1, d2, Zo, decide_true, Z7, Z4, ZaB, ZaA, ZX, Zo, ZaF, ZaG, Za3, Zba, Zdi, Zdf]
   refine ⟨hsub, ka, hsub, kb, ka, kb, ?_⟩
   refine Zb0 [1, 2, 9, 10, 11] (by kernel_rfl) ?_
   obtain ⟨n, hn⟩ : ∃ n, n = min (ZK a).length (ZK b).length := ⟨_, rfl⟩
   rw [← hn]
   have dn : decide (((n : Nat) : Int) = 0) = false := decide_eq_false (by have := Za0 ca; have := Za0 cB; omega)
   have s1 : List.drop (Int.toNat 0) (List.take ((n : Nat) : Int).toNat (ZK a)) = (ZK a).take n := by rw [Int.toNat_natCast]; rfl
   have s2 : List.drop (Int.toNat 0) (List.take ((n : Nat) : Int).toNat (ZK b)) = (ZK b).take n := by rw [Int.toNat_natCast]; rfl
   have hq := hpd ca cB n hn
   cases hab : decide (a = b)
   all_goals (rw [hab] at hq; simp (config := {dsimp := false}) only [↓Zt, vz, vn, nq, Zp, Zh, Zd, Zb, Zg, Za, Zi, Ze, Zj, Zf, if_true, if_false, implies_true, forall_const, ne_eq, reduceIte, reduceCtorEq, Nat.reduceEqDiff, Nat.reduceAdd, Nat.reduceMul, Nat.reduceDiv, Nat.reduceLT, Nat.reduceSub, Nat.reduceLeDiff, Nat.reduceBNe, Nat.reduceBEq, Nat.reduceBeqDiff, List.range, List.range.loop, Zu, Tryd.ntmps8, Tryd.results8, vb, dn, s1, s2, hq, hab, Zo, ZX, Zo, ZaF, ZaG])
   all_goals exact ⟨Int.le_refl _, by omega, by omega, by omega, Int.le_refl _, by omega, by omega, by omega, fun h => absurd h (by decide), fun _ => rfl⟩
  have d2 : decide (1 ≤ halv) = true := decide_eq_true c4
  by_cases c5 : a ≤ 1099511627776
  case neg =>
   have d3 : decide (a ≤ 1099511627776) = false := decide_eq_false c5
   simp (config := {dsimp := false}) only [↓Zt, vz, vn, nq, Zp, Zh, Zd, Zb, Zg, Za, Zi, Ze, Zj, Zf, if_true, if_false, implies_true, forall_const, ne_eq, reduceIte, reduceCtorEq, Nat.reduceEqDiff, Nat.reduceAdd, Nat.reduceMul, Nat.reduceDiv, Nat.reduceLT, Nat.reduceSub, Nat.reduceLeDiff, Nat.reduceBNe, Nat.reduceBEq, Nat.reduceBeqDiff, List.range, List.range.loop, Zu, Tryd.ntmps8, Tryd.results8, PF.toR, Zl, vb, hX, hY, hnn, dab, dB, dx, dy, d1, d2, d3, Zo, decide_true, Z7, Z4, ZaB, ZaA, ZX, Zo, ZaF, ZaG, Za3, Zba, Zdi, Zdf]
   refine ⟨hsub, ka, hsub, kb, ka, kb, ?_⟩
   refine Zb0 [1, 2, 9, 10, 11] (by kernel_rfl) ?_
   obtain ⟨n, hn⟩ : ∃ n, n = min (ZK a).length (ZK b).length := ⟨_, rfl⟩
   rw [← hn]
   have dn : decide (((n : Nat) : Int) = 0) = false := decide_eq_false (by have := Za0 ca; have := Za0 cB; omega)
   have s1 : List.drop (Int.toNat 0) (List.take ((n : Nat) : Int).toNat (ZK a)) = (ZK a).take n := by rw [Int.toNat_natCast]; rfl
   have s2 : List.drop (Int.toNat 0) (List.take ((n : Nat) : Int).toNat (ZK b)) = (ZK b).take n := by rw [Int.toNat_natCast]; rfl
   have hq := hpd ca cB n hn
   cases hab : decide (a = b)
   all_goals (rw [hab] at hq; simp (config := {dsimp := false}) only [↓Zt, vz, vn, nq, Zp, Zh, Zd, Zb, Zg, Za, Zi, Ze, Zj, Zf, if_true, if_false, implies_true, forall_const, ne_eq, reduceIte, reduceCtorEq, Nat.reduceEqDiff, Nat.reduceAdd, Nat.reduceMul, Nat.reduceDiv, Nat.reduceLT, Nat.reduceSub, Nat.reduceLeDiff, Nat.reduceBNe, Nat.reduceBEq, Nat.reduceBeqDiff, List.range, List.range.loop, Zu, Tryd.ntmps8, Tryd.results8, vb, dn, s1, s2, hq, hab, Zo, ZX, Zo, ZaF, ZaG])
   all_goals exact ⟨Int.le_refl _, by omega, by omega, by omega, Int.le_refl _, by omega, by omega, by omega, fun h => absurd h (by decide), fun _ => rfl⟩
  have d3 : decide (a ≤ 1099511627776) = true := decide_eq_true c5
  by_cases c6 : halv ≤ 1099511627776
  case neg =>
   have d4 : decide (halv ≤ 1099511627776) = false := decide_eq_false c6
   simp (config := {dsimp := false}) only [↓Zt, vz, vn, nq, Zp, Zh, Zd, Zb, Zg, Za, Zi, Ze, Zj, Zf, if_true, if_false, implies_true, forall_const, ne_eq, reduceIte, reduceCtorEq, Nat.reduceEqDiff, Nat.reduceAdd, Nat.reduceMul, Nat.reduceDiv, Nat.reduceLT, Nat.reduceSub, Nat.reduceLeDiff, Nat.reduceBNe, Nat.reduceBEq, Nat.reduceBeqDiff, List.range, List.range.loop, Zu, Tryd.ntmps8, Tryd.results8, PF.toR, Zl, vb, hX, hY, hnn, dab, dB, dx, dy, d1, d2, d3, d4, Zo, decide_true, Z7, Z4, ZaB, ZaA, ZX, Zo, ZaF, ZaG, Za3, Zba, Zdi, Zdf]
   refine ⟨hsub, ka, hsub, kb, ka, kb, ?_⟩
   refine Zb0 [1, 2, 9, 10, 11] (by kernel_rfl) ?_
   obtain ⟨n, hn⟩ : ∃ n, n = min (ZK a).length (ZK b).length := ⟨_, rfl⟩
   rw [← hn]
   have dn : decide (((n : Nat) : Int) = 0) = false := decide_eq_false (by have := Za0 ca; have := Za0 cB; omega)
   have s1 : List.drop (Int.toNat 0) (List.take ((n : Nat) : Int).toNat (ZK a)) = (ZK a).take n := by rw [Int.toNat_natCast]; rfl
   have s2 : List.drop (Int.toNat 0) (List.take ((n : Nat) : Int).toNat (ZK b)) = (ZK b).take n := by rw [Int.toNat_natCast]; rfl
   have hq := hpd ca cB n hn
   cases hab : decide (a = b)
   all_goals (rw [hab] at hq; simp (config := {dsimp := false}) only [↓Zt, vz, vn, nq, Zp, Zh, Zd, Zb, Zg, Za, Zi, Ze, Zj, Zf, if_true, if_false, implies_true, forall_const, ne_eq, reduceIte, reduceCtorEq, Nat.reduceEqDiff, Nat.reduceAdd, Nat.reduceMul, Nat.reduceDiv, Nat.reduceLT, Nat.reduceSub, Nat.reduceLeDiff, Nat.reduceBNe, Nat.reduceBEq, Nat.reduceBeqDiff, List.range, List.range.loop, Zu, Tryd.ntmps8, Tryd.results8, vb, dn, s1, s2, hq, hab, Zo, ZX, Zo, ZaF, ZaG])
   all_goals exact ⟨Int.le_refl _, by omega, by omega, by omega, Int.le_refl _, by omega, by omega, by omega, fun h => absurd h (by decide), fun _ => rfl⟩
  have d4 : decide (halv ≤ 1099511627776) = true := decide_eq_true c6
  have hw : IntKind.wrap .i64 (a + halv) = a + halv := ZaR (by omega) (by omega)
  have hX2 := hf ca c4
  simp (config := {dsimp := false}) only [↓Zt, vz, vn, nq, Zp, Zh, Zd, Zb, Zg, Za, Zi, Ze, Zj, Zf, if_true, if_false, implies_true, forall_const, ne_eq, reduceIte, reduceCtorEq, Nat.reduceEqDiff, Nat.reduceAdd, Nat.reduceMul, Nat.reduceDiv, Nat.reduceLT, Nat.reduceSub, Nat.reduceLeDiff, Nat.reduceBNe, Nat.reduceBEq, Nat.reduceBeqDiff, List.range, List.range.loop, Zu, Tryd.ntmps8, Tryd.results8, PF.toR, Zl, vb, hX, hY, hnn, dab, dB, dx, dy, d1, d2, d3, d4, hw, hX2, hwx, Zo, decide_true, Z7, Z4, ZaB, ZaA, ZX, Zo, ZaF, ZaG, Za3, Zba, Zdi, Zdf]
  refine ⟨hsub, ka, hsub, kb, hsub, ⟨by omega, by omega⟩, by decide, ka, kb, ?_⟩
  refine Zb0 [1, 2, 9, 10, 11] (by kernel_rfl) ?_
  obtain ⟨n, hn⟩ : ∃ n, n = min (ZK a).length (ZK b).length := ⟨_, rfl⟩
  rw [← hn]
  have dn : decide (((n : Nat) : Int) = 0) = false := decide_eq_false (by have := Za0 ca; have := Za0 cB; omega)
  have s1 : List.drop (Int.toNat 0) (List.take ((n : Nat) : Int).toNat (ZK a)) = (ZK a).take n := by rw [Int.toNat_natCast]; rfl
  have s2 : List.drop (Int.toNat 0) (List.take ((n : Nat) : Int).toNat (ZK b)) = (ZK b).take n := by rw [Int.toNat_natCast]; rfl
  have hq := hpd ca cB n hn
  cases hab : decide (a = b)
  all_goals (rw [hab] at hq; simp (config := {dsimp := false}) only [↓Zt, vz, vn, nq, Zp, Zh, Zd, Zb, Zg, Za, Zi, Ze, Zj, Zf, if_true, if_false, implies_true, forall_const, ne_eq, reduceIte, reduceCtorEq, Nat.reduceEqDiff, Nat.reduceAdd, Nat.reduceMul, Nat.reduceDiv, Nat.reduceLT, Nat.reduceSub, Nat.reduceLeDiff, Nat.reduceBNe, Nat.reduceBEq, Nat.reduceBeqDiff, List.range, List.range.loop, Zu, Tryd.ntmps8, Tryd.results8, vb, dn, s1, s2, hq, hab, Zo, ZX, Zo, ZaF, ZaG])
  all_goals exact ⟨Int.le_refl _, by omega, by omega, by omega, Int.le_refl _, by omega, by omega, by omega, fun h => absurd h (by decide), fun _ => rfl⟩
 have dB : decide (0 ≤ b) = false := decide_eq_false cB
 by_cases c4 : 1 ≤ halv
 case neg =>
  have d2 : decide (1 ≤ halv) = false := decide_eq_false c4
  simp (config := {dsimp := false}) only [↓Zt, vz, vn, nq, Zp, Zh, Zd, Zb, Zg, Za, Zi, Ze, Zj, Zf, if_true, if_false, implies_true, forall_const, ne_eq, reduceIte, reduceCtorEq, Nat.reduceEqDiff, Nat.reduceAdd, Nat.reduceMul, Nat.reduceDiv, Nat.reduceLT, Nat.reduceSub, Nat.reduceLeDiff, Nat.reduceBNe, Nat.reduceBEq, Nat.reduceBeqDiff, List.range, List.range.loop, Zu, Tryd.ntmps8, Tryd.results8, PF.toR, Zl, vb, hX, hY, hnn, dab, dB, dx, dy, d1, d2, Zo, decide_true, Z7, Z4, ZaB, ZaA, ZX, Zo, ZaF, ZaG, Za3, Zba, Zdi, Zdf]
  exact ⟨hsub, ka, hsub, kb⟩
 have d2 : decide (1 ≤ halv) = true := decide_eq_true c4
 by_cases c5 : a ≤ 1099511627776
 case neg =>
  have d3 : decide (a ≤ 1099511627776) = false := decide_eq_false c5
  simp (config := {dsimp := false}) only [↓Zt, vz, vn, nq, Zp, Zh, Zd, Zb, Zg, Za, Zi, Ze, Zj, Zf, if_true, if_false, implies_true, forall_const, ne_eq, reduceIte, reduceCtorEq, Nat.reduceEqDiff, Nat.reduceAdd, Nat.reduceMul, Nat.reduceDiv, Nat.reduceLT, Nat.reduceSub, Nat.reduceLeDiff, Nat.reduceBNe, Nat.reduceBEq, Nat.reduceBeqDiff, List.range, List.range.loop, Zu, Tryd.ntmps8, Tryd.results8, PF.toR, Zl, vb, hX, hY, hnn, dab, dB, dx, dy, d1, d2, d3, Zo, decide_true, Z7, Z4, ZaB, ZaA, ZX, Zo, ZaF, ZaG, Za3, Zba, Zdi, Zdf]
  exact ⟨hsub, ka, hsub, kb⟩
 have d3 : decide (a ≤ 1099511627776) = true := decide_eq_true c5
 by_cases c6 : halv ≤ 1099511627776
 case neg =>
  have d4 : decide (halv ≤ 1099511627776) = false := decide_eq_false c6
  simp (config := {dsimp := false}) only [↓Zt, vz, vn, nq, Zp, Zh, Zd, Zb, Zg, Za, Zi, Ze, Zj, Zf, if_true, if_false, implies_true, forall_const, ne_eq, reduceIte, reduceCtorEq, Nat.reduceEqDiff, Nat.reduceAdd, Nat.reduceMul, Nat.reduceDiv, Nat.reduceLT, Nat.reduceSub, Nat.reduceLeDiff, Nat.reduceBNe, Nat.reduceBEq, Nat.reduceBeqDiff, List.range, List.range.loop, Zu, Tryd.ntmps8, Tryd.results8, PF.toR, Zl, vb, hX, hY, hnn, dab, dB, dx, dy, d1, d2, d3, d4, Zo, decide_true, Z7, Z4, ZaB, ZaA, ZX, Zo, ZaF, ZaG, Za3, Zba, Zdi, Zdf]
  exact ⟨hsub, ka, hsub, kb⟩
 have d4 : decide (halv ≤ 1099511627776) = true := decide_eq_true c6
 have hw : IntKind.wrap .i64 (a + halv) = a + halv := ZaR (by omega) (by omega)
 have hX2 := hf ca c4
 simp (config := {dsimp := false}) only [↓Zt, vz, vn, nq, Zp, Zh, Zd, Zb, Zg, Za, Zi, Ze, Zj, Zf, if_true, if_false, implies_true, forall_const, ne_eq, reduceIte, reduceCtorEq, Nat.reduceEqDiff, Nat.reduceAdd, Nat.reduceMul, Nat.reduceDiv, Nat.reduceLT, Nat.reduceSub, Nat.reduceLeDiff, Nat.reduceBNe, Nat.reduceBEq, Nat.reduceBeqDiff, List.range, List.range.loop, Zu, Tryd.ntmps8, Tryd.results8, PF.toR, Zl, vb, hX, hY, hnn, dab, dB, dx, dy, d1, d2, d3, d4, hw, hX2, hwx, Zo, decide_true, Z7, Z4, ZaB, ZaA, ZX, Zo, ZaF, ZaG, Za3, Zba, Zdi, Zdf]
 exact ⟨hsub, ka, hsub, kb, hsub, ⟨by omega, by omega⟩, by decide⟩
end Go.Vi.CO
end

section
namespace Go.Proofs.YtnjepgcjlgglhaaDoor
open Go.ChangeShapes Go.WideShapes Go.RowKit Go.Vi Go.Vi.CO
theorem Tryd.own : ownKnob Tryd.prog.godebug = none := by kernel_rfl
theorem Tryd.laidOut : laidOutB Tryd.prog = true := by kernel_rfl
theorem Zkj {W : World} (h : laidMetH Tryd.prog [("spinney/sha.roundNumbers", Rows.laid_spinney_sha_roundNumbers)] W) : ZO Go.Vi.CO.E (g0 W) W := by
 rw [MakeChecks.laidMetH_plain _ _ _ (by kernel_rfl)] at h
 obtain ⟨ps, ⟨g, t, cs, fuel, p, q, hg, ht, hv, hd, _, _⟩, _, _⟩ := h
 obtain rfl := Option.some.inj ((show Tryd.prog.globalNamed "spinney/sha.roundNumbers" = some 0 by kernel_rfl).symm.trans hg)
 obtain rfl := Option.some.inj ((show (Tryd.prog.globals[0]?).map (·.type) = some 194 by kernel_rfl).symm.trans ht)
 obtain ⟨xs, m, _, ex, hcl, hl, hel⟩ := DataW.trod_array Tryd.underlying194 hd
 have c5 : Tryd.prog.cellsOf 41 = 1 := by kernel_rfl
 have hlen : Zc3.length = 64 := by decide
 have e3 : (xs.map (·.1)) = Zc3.map fun n => .lit (.int .u32 n) :=
  (DataW.agg.inj (Prod.mk.inj ex).1).symm
 have cell : ∀ r, r < 64 → cs.toList[r]? = some (.int .u32 (Zc3.getD r 0)) := by
  intro r hr
  have hE := hel r hr
  rw [c5, Nat.mul_one, List.getElem?_eq_getElem (by omega)] at hE
  obtain ⟨z, e1, e2, _⟩ := DataW.trod_int Tryd.underlying41 hE
  have e4 : (xs.map (·.1))[r]? = (Zc3.map fun n => (DataW.lit (.int .u32 n) : DataW Unit))[r]? := by rw [e3]
  rw [List.getElem?_map, List.getElem?_map, List.getElem?_eq_getElem (by omega : r < xs.length), List.getElem?_eq_getElem (by omega : r < Zc3.length), e2] at e4
  have hz : z = Zc3.getD r 0 := by
   simp only [Option.map_some, Option.some.injEq, DataW.lit.injEq, Lit.int.injEq, true_and] at e4
   rw [e4, List.getD, List.getElem?_eq_getElem (by omega : r < Zc3.length)]; rfl
  rw [← hz]
  have h0 : ((cs.toList.drop r).take 1)[0]? = some (.int .u32 z) := by rw [e1]; rfl
  simpa using h0
 have at0 : At W 0 0 (ints .u32 Zc3) := by
  intro i v hi
  simp only [ints, List.getElem?_map, Option.map_eq_some_iff] at hi
  obtain ⟨z, hz, rfl⟩ := hi
  have hil : i < 64 := by
   have := (List.getElem?_eq_some_iff.1 hz).1
   omega
  have := cell i hil
  rw [List.getD_eq_getElem?_getD, hz] at this
  rw [Nat.zero_add, World.var?_cell hg hv i]
  simpa using this
 intro i d hi
 change glC i = some d at hi
 unfold glC at hi
 split at hi <;> cases hi
 refine ⟨0, 0, ints .u32 Zc3, rfl, ⟨hlen, rfl⟩, ?_, at0⟩
 have := at0 63 _ (by rw [ints, List.getElem?_map, List.getElem?_eq_getElem (by omega : 63 < Zc3.length)]; rfl)
 have := Zwx this
 show 0 + (ints .u32 Zc3).length ≤ Zat W 0
 simp only [ints, List.length_map, hlen]
 omega
end Go.Proofs.YtnjepgcjlgglhaaDoor
end
