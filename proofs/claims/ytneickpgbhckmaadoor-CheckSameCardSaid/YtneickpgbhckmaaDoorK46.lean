/- Lemmas for the law proved in the text whose name ends with Law. -/
import Derived.Test.YtneickpgbhckmaaDoorK45
import Derived.ProofKit
import Derived.KernelRfl
import Derived.RangeFuncNested
import Derived.RangeFuncBound
import Derived.RangeFuncLeaves
import Derived.Shelf.Abstract
import Derived.Shelf.RegionOpen
import Derived.WalkKit
import Derived.OwnWalkIn
import Derived.TacticsInMore
import Derived.LoopNIn
import Derived.LoopIn
import Derived.Laws.Rows
import Derived.Test.YtneickpgbhckmaaDoorTie
import Derived.Test.YtneickpgbhckmaaDoorCards
import Derived.SevenTiedAt

section
set_option linter.unusedVariables false
set_option linter.unusedSimpArgs false
namespace Go.Proofs
open Go.RowKit Go.Shelf
attribute [local go_sem] Oper.semAt_some

set_option maxRecDepth 100000 in
set_option maxHeartbeats 2000000 in
theorem Tryd.back1_in (F : Fence) (n : Nat) (h52 : F.fn 49) (hro : F.round = none) (hn : 1 ≤ n) (l B1 o1 b off len cap : Nat) (a : Option Addr) (c0 c1 : Nat → Value) (Kp : World → World → Prop) (hlen : len ≤ cap) (hb : len < 1000000000) (hsome : len ≠ 0 → a = some ⟨b, off, none⟩) (J Jx : List Nat → World → Prop)
    (hK1 : ∀ A B, Kp A B → B.cell? ⟨B1, o1, none⟩ = A.cell? ⟨B1, o1, none⟩) (hK2 : ∀ A B, Kp A B → ∀ j, j < 2 * len → B.cell? ⟨b, off + j, none⟩ = A.cell? ⟨b, off + j, none⟩)
    (hY : ∀ pre i W, J pre W → pre.length + 1 + i = len → YieldAt F (n - 1) Tryd.prog l #[.int .i64 (i : Nat), .agg #[c0 i, c1 i]] W fun e W' =>
      (e = .returned (.bool true) ∧ J (pre ++ [i]) W' ∧ Kp W W') ∨ (e = .returned (.bool false) ∧ Jx (pre ++ [i]) W'))
    (W : World) (h1 : W.cell? ⟨B1, o1, none⟩ = some (.slice a len cap)) (hc : ∀ i, i < len → W.cell? ⟨b, off + i * 2, none⟩ = some (c0 i) ∧ W.cell? ⟨b, off + i * 2 + 1, none⟩ = some (c1 i)) (h0 : J [] W) :
    CallsIn F n Tryd.prog 49 #[.func (.yield l) #[] #[], .pointer (some ⟨B1, o1, none⟩)] W fun e W' => (∃ v, e = .returned v) ∧
      (J ((List.range len).reverse) W' ∨ (∃ k, k < len ∧ Jx (((List.range len).drop k).reverse) W')) := by
  refine callsIn_of_wp Tryd.func49 rfl h52 ?_ hro
  simp only [Tryd.ntmps49, List.size_toArray, List.length_cons, List.length_nil, Nat.reduceAdd, Nat.reduceSub, Array.replicate_succ, Array.replicate_zero, List.push_toArray, List.append_toArray, List.nil_append, List.cons_append]
  gi_wp2
  gi_loopw [3] (fun i wr => ∃ k : Nat, k ≤ len ∧ i = .int .i64 ((k : Int) - 1) ∧ J (((List.range len).drop k).reverse) wr ∧ wr.cell? ⟨B1, o1, none⟩ = some (.slice a len cap) ∧ (∀ i, i < len → wr.cell? ⟨b, off + i * 2, none⟩ = some (c0 i) ∧ wr.cell? ⟨b, off + i * 2 + 1, none⟩ = some (c1 i)))
    (fun i _ => (intOf i + 1).toNat)
  case atStart => exact ⟨len, Nat.le_refl _, rfl, by rw [List.drop_of_length_le (by simp)]; exact h0, h1, hc⟩
  case round =>
    obtain ⟨k, hk, rfl, hJs, hc1, hcc⟩ := hrel
    cases k with
    | zero =>
      gi_wp2
      go_end0
      exact ⟨⟨_, rfl⟩, .inl (by simpa using hJs)⟩
    | succ k =>
      have ha := hsome (by omega)
      subst ha
      have hd : ((List.range len).drop k).reverse = ((List.range len).drop (k + 1)).reverse ++ [k] := by
        have : (List.range len).drop k = k :: (List.range len).drop (k + 1) := by
          rw [List.drop_eq_getElem_cons (by simp; omega)]
          simp
        rw [this, List.reverse_cons]
      obtain ⟨fn, tmps, assign, body, hy, hR⟩ := hY _ k wr hJs (by simp; omega)
      obtain ⟨hx0, hx1⟩ := hcc k (by omega)
      have hi : ((k + 1 : Nat) : Int) - 1 = (k : Int) := by omega
      rw [hi]
      gi_wp2
      refine hR.mono ?_
      rintro e W3 (⟨rfl, hJ3, hk3⟩ | ⟨rfl, hJx3⟩)
      · have hd1 : W3.cell? ⟨B1, o1, none⟩ = some (.slice (some ⟨b, off, none⟩) len cap) := (hK1 _ _ hk3).trans hc1
        have hcc3 : ∀ i, i < len → W3.cell? ⟨b, off + i * 2, none⟩ = some (c0 i) ∧ W3.cell? ⟨b, off + i * 2 + 1, none⟩ = some (c1 i) := fun i hi =>
          ⟨(hK2 _ _ hk3 (i * 2) (by omega)).trans (hcc i hi).1, (hK2 _ _ hk3 (i * 2 + 1) (by omega)).trans (hcc i hi).2⟩
        gi_wp2
        go_roundw
        case rel => exact ⟨k, by omega, rfl, by rw [hd]; exact hJ3, hd1, hcc3⟩
        case measure => simp [intOf]
      · gi_wp2
        refine bodyPost_ret (results_none rfl _ _ _) rfl ?_
        exact ⟨⟨_, rfl⟩, .inr ⟨k, by omega, by rw [hd]; exact hJx3⟩⟩
end Go.Proofs
namespace Go.Vi.CD
open Go.Proofs Go.RowKit
def upB (m : Nat) (l : List Nat) : List (Fin m) := l.filterMap fun i => if h : i < m then some ⟨m - 1 - i, by omega⟩ else none
theorem upB_snoc {m : Nat} (l : List Nat) (i : Nat) (h : i < m) : upB m (l ++ [i]) = upB m l ++ [⟨m - 1 - i, by omega⟩] := by simp [upB, h]
theorem upB_drop {m : Nat} : ∀ (d k : Nat), k + d = m → upB m (((List.range m).drop k).reverse) = (List.finRange m).take d
  | 0, k, h => by
    obtain rfl : k = m := by omega
    rw [List.drop_of_length_le (by simp)]; rfl
  | d + 1, k, h => by
    have hk : k < m := by omega
    have hd : ((List.range m).drop k).reverse = ((List.range m).drop (k + 1)).reverse ++ [k] := by
      have : (List.range m).drop k = k :: (List.range m).drop (k + 1) := by
        rw [List.drop_eq_getElem_cons (by simp; omega)]
        simp
      rw [this, List.reverse_cons]
    rw [hd, upB_snoc _ k hk, upB_drop d (k + 1) (by omega), List.take_add_one]
    congr 1
    have hdm : d < m := by omega
    simp [hdm]
    omega
theorem iter_back (l : List OutP) (hb : l.length < 1000000000) : IterP E 49 [.ip (.sl .no 2 (outsD l)) 0] (m := l.length) (fun i => [.int .i64 ((l.length - 1 - i.1 : Nat) : Int), outD (l.getD (l.length - 1 - i.1) default)]) := by
  refine ⟨by rw [show E.P = Tryd.prog from rfl, Tryd.func49]; simp, fun g w vs n hn hl hr => ?_⟩
  obtain ⟨c1, c2, rfl, ⟨B1, o1, vs1, rfl, ⟨a, c, vsE, rfl, hc, hes, hrow, _⟩, hl1, ha1⟩, h4⟩ := hr
  have h4 : c2 = [] := h4
  subst h4
  have hlen := es_length (outsD l) hes
  rw [outsD_length] at hlen hc
  have hsome : ∃ b off, (l.length ≠ 0 → a = some ⟨b, off, none⟩) ∧ (l.length ≠ 0 → off + vsE.length ≤ g.lim b ∧ At w b off vsE) := by
    by_cases h0 : l.length = 0
    · exact ⟨0, 0, fun h => absurd h0 h, fun h => absurd h0 h⟩
    · obtain ⟨b, off, e, h1, h2⟩ := hrow (by intro e; subst e; simp at hlen; omega)
      exact ⟨b, off, fun _ => e, fun _ => ⟨h1, h2⟩⟩
  obtain ⟨b, off, hs1, hs2⟩ := hsome
  have k1 : w.cell? ⟨B1, o1, none⟩ = some (.slice a l.length c) := by
    have := ha1 0 _ rfl
    rw [outsD_length] at this
    exact this
  have hB1 : B1 < w.heap.size := by
    rcases Nat.lt_or_ge B1 w.heap.size with h | h
    · exact h
    · rw [hl B1 h] at hl1; simp at hl1
  have hB : l.length ≠ 0 → b < w.heap.size := fun h0 => by
    obtain ⟨h1, h2⟩ := hs2 h0
    rcases Nat.lt_or_ge b w.heap.size with h | h
    · exact h
    · rw [hl b h] at h1; omega
  let c0 : Nat → Value := fun i => vsE.getD (i * 2) undef
  let c1 : Nat → Value := fun i => vsE.getD (i * 2 + 1) undef
  have hcel : ∀ i, i < l.length → w.cell? ⟨b, off + i * 2, none⟩ = some (c0 i) ∧ w.cell? ⟨b, off + i * 2 + 1, none⟩ = some (c1 i) := fun i hi => by
    obtain ⟨h1, h2⟩ := hs2 (by omega)
    have q0 : vsE[i * 2]? = some (c0 i) := by simp only [c0, List.getD]; rw [List.getElem?_eq_getElem (by omega)]; rfl
    have q1 : vsE[i * 2 + 1]? = some (c1 i) := by simp only [c1, List.getD]; rw [List.getElem?_eq_getElem (by omega)]; rfl
    exact ⟨h2 _ _ q0, h2 _ _ q1⟩
  refine ⟨fun args w => enters_of Tryd.func49 (by kernel_rfl) rfl args w, fun i => #[.int .i64 ((l.length - 1 - i.1 : Nat) : Int), .agg #[c0 (l.length - 1 - i.1), c1 (l.length - 1 - i.1)]], fun i => ?_, ?_⟩
  · have hil : l.length - 1 - i.1 < l.length := by have := i.2; omega
    obtain ⟨pre, mid, post, e', hpl, hm, hr⟩ := es_at (outsD l) (l.length - 1 - i.1) (by rw [outsD_length]; exact hil) hes
    have he : (outsD l)[l.length - 1 - i.1]'(by rw [outsD_length]; exact hil) = outD (l.getD (l.length - 1 - i.1) default) := by
      rw [← outsD_get l _ hil]
      simp [List.getD, outsD_length, hil]
    rw [he] at hr
    have hmid : mid = [c0 (l.length - 1 - i.1), c1 (l.length - 1 - i.1)] := by
      match mid, hm with
      | [x, y], _ =>
        have q0 : vsE[(l.length - 1 - i.1) * 2]? = some x := by
          rw [e', List.append_assoc, List.getElem?_append_right (by omega), hpl, Nat.sub_self]; rfl
        have q1 : vsE[(l.length - 1 - i.1) * 2 + 1]? = some y := by
          rw [e', List.append_assoc, List.getElem?_append_right (by omega), hpl, Nat.add_sub_cancel_left]; rfl
        simp [c0, c1, List.getD, q0, q1]
    refine ⟨_, [_], rfl, rfl, _, [], rfl, ⟨mid, by rw [hmid], ?_⟩, rfl⟩
    exact RepC.ext (g := g.bare) (g' := g) ⟨fun _ => Nat.le_refl _, fun _ _ _ => rfl, fun _ _ h => by simp [Gh.bare] at h, fun _ _ _ _ h => by simp [Gh.bare] at h, fun _ _ h => h⟩ _ hr
  · intro y J Jx W hW hJ hJx hY hJ0
    have kW1 : W.cell? ⟨B1, o1, none⟩ = some (.slice a l.length c) := (hW.cell (p := ⟨B1, o1, none⟩) hB1).trans k1
    have kWc : ∀ i, i < l.length → W.cell? ⟨b, off + i * 2, none⟩ = some (c0 i) ∧ W.cell? ⟨b, off + i * 2 + 1, none⟩ = some (c1 i) := fun i hi =>
      ⟨(hW.cell (p := ⟨b, off + i * 2, none⟩) (hB (by omega))).trans (hcel i hi).1, (hW.cell (p := ⟨b, off + i * 2 + 1, none⟩) (hB (by omega))).trans (hcel i hi).2⟩
    refine (Tryd.back1_in (FR none) n trivial rfl hn y B1 o1 b off l.length c a c0 c1 (KpOf g w) hc hb hs1 (fun p W => (∀ i ∈ p, i < l.length) ∧ J (upB l.length p) W) (fun p W => Jx (upB l.length p) W)
      (fun A B h => h B1 o1 hB1 (by simp at hl1; omega)) (fun A B h j hj => h b (off + j) (hB (by omega)) (by have := (hs2 (by omega)).1; omega)) ?_ W kW1 kWc ⟨by simp, hJ0⟩).mono ?_
    · rintro pre i W1 ⟨hp, hj⟩ hi
      have hlt : i < l.length := by omega
      have hul : (upB l.length pre).length = pre.length := by
        have : ∀ q : List Nat, (∀ i ∈ q, i < l.length) → (upB l.length q).length = q.length := by
          intro q
          induction q with
          | nil => intro _; rfl
          | cons x r ih =>
            intro h
            have hx := h x (List.mem_cons_self ..)
            have := ih fun i hi => h i (List.mem_cons_of_mem _ hi)
            simp only [upB, List.filterMap_cons, hx, dif_pos, List.length_cons]
            exact congrArg (· + 1) this
        exact this pre hp
      have := hY (upB l.length pre) ⟨l.length - 1 - i, by omega⟩ W1 hj (by rw [hul]; omega)
      have ei : l.length - 1 - (l.length - 1 - i) = i := by omega
      simp only [ei] at this
      obtain ⟨fn, tmps, assign, body, hy, hR⟩ := this
      refine ⟨fn, tmps, assign, body, hy, hR.mono ?_⟩
      rintro e W' (⟨rfl, h1, h2⟩ | ⟨rfl, h1⟩)
      · refine .inl ⟨rfl, ⟨fun j hj => ?_, by rw [upB_snoc pre i hlt]; exact h1⟩, h2⟩
        rcases List.mem_append.1 hj with h | h
        · exact hp j h
        · simp at h; subst h; exact hlt
      · exact .inr ⟨rfl, by rw [upB_snoc pre i hlt]; exact h1⟩
    · rintro e W' ⟨hv, ⟨_, hj⟩ | ⟨k, hk, hj⟩⟩
      · refine ⟨hv, .inl ⟨_, ?_, hj⟩⟩
        have := upB_drop (m := l.length) l.length 0 (by omega)
        rw [List.drop_zero] at this
        rw [this, List.take_of_length_le (by simp)]
      · exact ⟨hv, .inr ⟨_, ⟨l.length - k, upB_drop (l.length - k) k (by omega)⟩, hj⟩⟩
end Go.Vi.CD
namespace Go.Proofs
open Go.RowKit Go.Shelf
attribute [local go_sem] Oper.semAt_some
set_option maxHeartbeats 1000000 in
theorem Tryd.back_in (F : Fence) (n : Nat) (h5 : F.fn 29) (hro : F.round = none) (a : Option Addr) (len cap : Nat) (w : World) :
    CallsIn F n Tryd.prog 29 #[.slice a len cap] w fun e w' => e = .returned (.func (.func 49) #[] #[.pointer (some ⟨w.heap.size, 0, none⟩)]) ∧ w' = w.alloc (.cells #[.slice a len cap] 24) := by
  refine callsIn_of_wp Tryd.func29 rfl h5 ?_ hro
  simp only [Tryd.ntmps29, List.size_toArray, List.length_cons, List.length_nil, Nat.reduceAdd, Nat.reduceSub, Array.replicate_succ, Array.replicate_zero, List.push_toArray, List.append_toArray, List.nil_append, List.cons_append]
  gi_wp2
  go_ret
  exact ⟨rfl, rfl⟩
end Go.Proofs
namespace Go.Vi.CD
open Go.Proofs Go.RowKit
theorem c_back : Contract E 29 := by
  refine contract_callsT (p := sp_back 49) (fun args s nm => spec_back args s nm) ?_
  intro xs hv g w vs hl0 hr
  unfold sp_back at hv ⊢
  split at hv
  case h_2 => exact hv.elim
  rename_i es
  obtain ⟨v1, r1, rfl, ⟨a, c, vE, e1, hc, hes, hrow, _⟩, e3⟩ := hr
  have e3 : r1 = [] := e3
  simp only [List.cons.injEq, and_true] at e1
  subst e1 e3
  refine (callsIn_wide (n := 0)).1 ((Tryd.back_in Fence.wide 0 trivial rfl a es.length c w).mono ?_)
  rintro e w' ⟨rfl, rfl⟩
  have hb : Below w.heap.size w (w.alloc (.cells #[.slice a es.length c] 24)) := (Below.refl _ w).alloc (Nat.le_refl _) _
  refine ⟨_, rfl, ?_, hb⟩
  have hx : Ext g w (g.newer w (w.alloc (.cells #[.slice a es.length c] 24))) _ := Gh.newer_ext hl0 hb
  have c1 : (w.alloc (.cells #[.slice a es.length c] 24)).heap[w.heap.size]? = some (.cells #[.slice a es.length c] 24) := World.alloc_heap_new w _
  generalize (w.alloc (.cells #[.slice a es.length c] 24)) = w' at hx c1
  refine ⟨[.pointer (some ⟨w.heap.size, 0, none⟩)], rfl, [.pointer (some ⟨w.heap.size, 0, none⟩)], [], rfl,
    ⟨w.heap.size, 0, [.slice a es.length c], rfl, ⟨a, c, vE, rfl, hc, RepEs.ext hx.bare es hes, Row.ext (g := g.bare) (g' := (g.newer w w').bare) hx.bare hrow, trivial⟩, ?_, ?_⟩, rfl⟩
  · simp [Gh.newer, rowSize, c1]
  · intro i v hv
    cases i with
    | zero => simp at hv; subst hv; simp [World.cell?, c1]
    | succ i => simp at hv
end Go.Vi.CD
end

section
set_option linter.unusedVariables false
set_option linter.unusedSimpArgs false
set_option maxHeartbeats 0
set_option maxRecDepth 20000
namespace Go.Vi.CD
open Go.Proofs

theorem c_hp2 : Contract E 50 := by
  refine contract_seeT hE hgl (show E.P.funcs[50]? = some Tryd.f50 from Tryd.func50) rfl (p := sp_hp2) (fun _ _ _ => rfl) ?_
  intro args hv
  unfold sp_hp2 at hv ⊢
  split at hv
  case h_2 => exact hv.elim
  rename_i a b
  refine ⟨by simp, Nat.le_of_ble_eq_true rfl, ?_⟩
  simp only [givesIf] at hv
  obtain ⟨h6, ha⟩ := hv
  have d1 : decide (((b.size : Nat) : Int) ≤ ((a.size : Nat) : Int)) = true := decide_eq_true (by omega)
  have e1 : a.extract (Int.toNat 0) (((b.size : Nat) : Int)).toNat = a.extract 0 6 := by rw [h6]; rfl
  simp (config := {dsimp := false}) only [↓vp0, vz, vn, nq, tys, cellD, wideIR, if_true, if_false, implies_true, forall_const, ne_eq, reduceIte, reduceCtorEq, Nat.reduceEqDiff, Nat.reduceAdd, Nat.reduceMul, Nat.reduceLT, Nat.reduceSub, Nat.reduceLeDiff, Nat.reduceBNe, Nat.reduceBEq, Nat.reduceBeqDiff, List.range, List.range.loop, gl0, Tryd.ntmps50, Tryd.results50, d1, e1, givesIf]
  exact ⟨Int.le_refl _, by omega, by omega⟩
theorem c_hasPrefix : Contract E 30 := by
  refine contract_seeT hE hgl (show E.P.funcs[30]? = some Tryd.f30 from Tryd.func30) rfl (p := sp_hasPrefix) (fun _ _ _ => rfl) ?_
  intro args hv
  unfold sp_hasPrefix at hv ⊢
  split at hv
  case h_2 => exact hv.elim
  rename_i a b
  refine ⟨by simp, Nat.le_of_ble_eq_true rfl, ?_⟩
  simp only [givesIf] at hv
  simp (config := {dsimp := false}) only [↓vp0, vz, vn, nq, tys, cellD, wideIR, if_true, if_false, implies_true, forall_const, ne_eq, reduceIte, reduceCtorEq, Nat.reduceEqDiff, Nat.reduceAdd, Nat.reduceMul, Nat.reduceLT, Nat.reduceSub, Nat.reduceLeDiff, Nat.reduceBNe, Nat.reduceBEq, Nat.reduceBeqDiff, List.range, List.range.loop, gl0, Tryd.ntmps30, Tryd.results30, PF.toR, givesIf, spec_hp2, sp_hp2, c_hp2, b_hp2]
  exact hv
theorem c_gcommit : Contract E 17 := by
  refine contract_seeT hE hgl (show E.P.funcs[17]? = some Tryd.f17 from Tryd.func17) rfl (p := sp_gcommit) (fun _ _ _ => rfl) ?_
  intro args hv
  unfold sp_gcommit at hv ⊢
  split at hv
  case h_2 => exact hv.elim
  rename_i h0 hp hr h1 h2 h3 es
  refine ⟨by simp, Nat.le_of_ble_eq_true rfl, ?_⟩
  simp only [givesIf] at hv
  obtain ⟨hhd, l, rfl, hok, hl⟩ := hv
  simp only [txs_D]
  cases l with
  | nil =>
    simp (config := {dsimp := false}) only [↓vp0, vz, vn, nq, tys, cellD, wideIR, if_true, if_false, implies_true, forall_const, ne_eq, reduceIte, reduceCtorEq, Nat.reduceEqDiff, Nat.reduceAdd, Nat.reduceMul, Nat.reduceLT, Nat.reduceSub, Nat.reduceLeDiff, Nat.reduceBNe, Nat.reduceBEq, Nat.reduceBeqDiff, List.range, List.range.loop, gl0, Tryd.ntmps17, Tryd.results17, show txsD [] = [] from rfl, show decide (((0 : Nat) : Int) = 0) = true from rfl, commitP, hashV, givesIf]
    all_goals rfl
  | cons t r =>
    have ht := hok t (List.mem_cons_self ..)
    have d0 : decide (((r.length + 1 : Nat) : Int) = 0) = false := decide_eq_false (by omega)
    simp (config := {dsimp := false}) only [↓vp0, vz, vn, nq, tys, cellD, wideIR, if_true, if_false, implies_true, forall_const, ne_eq, reduceIte, reduceCtorEq, Nat.reduceEqDiff, Nat.reduceAdd, Nat.reduceMul, Nat.reduceLT, Nat.reduceSub, Nat.reduceLeDiff, Nat.reduceBNe, Nat.reduceBEq, Nat.reduceBeqDiff, List.range, List.range.loop, gl0, Tryd.ntmps17, Tryd.results17, PF.toR, gives, show txsD (t :: r) = txD t :: txsD r from rfl, txD, d0, show Int.toNat 0 = 0 from rfl, List.getD_cons_zero, commitP, spec_back, sp_back, c_back, b_back]
    refine ⟨Int.le_refl _, by omega, ?_⟩
    refine rangeF [(17, .fn 49 [.ip (.sl .no 2 (outsD t.outs)) 0]), (2, .bp 4 0), (3, .bp 8 0)] ⟨[(4, .arr .u8 32 (List.replicate 32 0)), (8, .bool false)], [], 52⟩ (fun i => markedP (t.outs.getD (t.outs.length - 1 - i.1) default).script = false) (iter_back t.outs ht.mo) rfl (fun i => rfl) ⟨rfl, rfl⟩ rfl ?_ ?_ ?_
    · exact ⟨⟨wkD_eq rfl, rfl, wkD_eq rfl, rfl, wkD_eq rfl, rfl, trivial⟩, ⟨rfl, Nat.le_of_ble_eq_true rfl, rfl, rfl, Nat.le_of_ble_eq_true rfl, rfl, trivial⟩, trivial⟩
    · intro i
      have hi : t.outs.length - 1 - i.1 < t.outs.length := by have := i.2; omega
      have hx := ht.outs _ (getD_memI hi)
      obtain ⟨x, hxe⟩ : ∃ x, t.outs.getD (t.outs.length - 1 - i.1) default = x := ⟨_, rfl⟩
      rw [hxe] at hx ⊢
      have hsc := hx.script
      by_cases hlen : 38 ≤ x.script.length
      · have d1 : decide ((38 : Int) ≤ (((strOfNums x.script).size : Nat) : Int)) = true := decide_eq_true (by rw [strN_size]; omega)
        have mk := mark_dec hsc.1
        simp (config := {dsimp := false}) only [↓vp0, vz, vn, nq, tys, cellD, wideIR, if_true, if_false, implies_true, forall_const, ne_eq, reduceIte, reduceCtorEq, Nat.reduceEqDiff, Nat.reduceAdd, Nat.reduceMul, Nat.reduceLT, Nat.reduceSub, Nat.reduceLeDiff, Nat.reduceBNe, Nat.reduceBEq, Nat.reduceBeqDiff, List.range, List.range.loop, gl0, Tryd.ntmps17, Tryd.results17, opsOf, outD, vb, PF.toR, givesIf, d1, mark_str, mk, spec_hasPrefix, sp_hasPrefix, c_hasPrefix, b_hasPrefix]
        have hcut : bytesOf ((strOfNums x.script).extract (Int.toNat 6) (Int.toNat 38)) = (x.script.drop 6).take 32 := by
          rw [show Int.toNat 6 = 6 from rfl, show Int.toNat 38 = 38 from rfl, strN_extract, bytesOf_strN (bytes_part hsc.1 6 38), List.drop_take]
        have hcl : ((x.script.drop 6).take 32).length = 32 := by simp only [List.length_take, List.length_drop]; omega
        rw [hcut]
        refine ⟨⟨trivial, ⟨rfl, Nat.le_of_ble_eq_true rfl, rfl, rfl, Nat.le_of_ble_eq_true rfl, rfl, trivial⟩, trivial⟩, by rw [strN_size]; rfl, by rw [strN_size]; omega, fun hm => ⟨by decide, by decide, by rw [strN_size]; omega, by rw [hcl]; exact Nat.le_refl _, ⟨[(4, .arr .u8 32 ((x.script.drop 6).take 32)), (8, .bool true)], [], 52⟩, rfl, ⟨trivial, ⟨?_, Nat.le_of_ble_eq_true rfl, rfl, rfl, Nat.le_of_ble_eq_true rfl, rfl, trivial⟩, trivial⟩, fun hA => ?_⟩, fun hm => ⟨⟨trivial, ⟨rfl, Nat.le_of_ble_eq_true rfl, rfl, rfl, Nat.le_of_ble_eq_true rfl, rfl, trivial⟩, trivial⟩, ?_⟩⟩
        · show some _ = some _
          rw [List.take_of_length_le (by rw [hcl]; exact Nat.le_refl _)]
        · have hmk : markedP x.script = true := by
            have h6 : x.script.take 6 = markB := of_decide_eq_true hm
            simp only [markedP]
            rw [decide_eq_true hlen, decide_eq_true (show x.script.take 6 = [106, 36, 170, 33, 169, 237] from h6)]; rfl
          have hl : lastMark t.outs = some ((x.script.drop 6).take 32) := by
            have := lastMark_some hi (by rw [hxe]; exact hmk) fun j h1 h2 => by
              have := hA ⟨t.outs.length - 1 - j, by omega⟩ (show t.outs.length - 1 - j < i.1 by have := i.2; omega)
              have e : t.outs.length - 1 - (t.outs.length - 1 - j) = j := by omega
              simpa only [e] using this
            rw [hxe] at this
            exact this
          simp (config := {dsimp := false}) only [↓vp0, vz, vn, nq, tys, cellD, wideIR, if_true, if_false, implies_true, forall_const, ne_eq, reduceIte, reduceCtorEq, Nat.reduceEqDiff, Nat.reduceAdd, Nat.reduceMul, Nat.reduceLT, Nat.reduceSub, Nat.reduceLeDiff, Nat.reduceBNe, Nat.reduceBEq, Nat.reduceBeqDiff, List.range, List.range.loop, gl0, Tryd.ntmps17, Tryd.results17, commitP, hl, hashV]
          all_goals rfl
        · have h6 : ¬ x.script.take 6 = markB := of_decide_eq_false hm
          simp only [markedP]
          rw [decide_eq_false (show ¬ x.script.take 6 = [106, 36, 170, 33, 169, 237] from h6), Bool.and_false]
      · have d1 : decide ((38 : Int) ≤ (((strOfNums x.script).size : Nat) : Int)) = false := decide_eq_false (by rw [strN_size]; omega)
        simp (config := {dsimp := false}) only [↓vp0, vz, vn, nq, tys, cellD, wideIR, if_true, if_false, implies_true, forall_const, ne_eq, reduceIte, reduceCtorEq, Nat.reduceEqDiff, Nat.reduceAdd, Nat.reduceMul, Nat.reduceLT, Nat.reduceSub, Nat.reduceLeDiff, Nat.reduceBNe, Nat.reduceBEq, Nat.reduceBeqDiff, List.range, List.range.loop, gl0, Tryd.ntmps17, Tryd.results17, opsOf, outD, vb, PF.toR, givesIf, d1]
        exact ⟨⟨trivial, ⟨rfl, Nat.le_of_ble_eq_true rfl, rfl, rfl, Nat.le_of_ble_eq_true rfl, rfl, trivial⟩, trivial⟩, ⟨trivial, ⟨rfl, Nat.le_of_ble_eq_true rfl, rfl, rfl, Nat.le_of_ble_eq_true rfl, rfl, trivial⟩, trivial⟩, by simp only [markedP]; rw [decide_eq_false hlen, Bool.false_and]⟩
    · intro hA
      have hl : lastMark t.outs = none := lastMark_none fun j hj => by
        have := hA ⟨t.outs.length - 1 - j, by omega⟩
        have e : t.outs.length - 1 - (t.outs.length - 1 - j) = j := by omega
        simpa only [e] using this
      simp (config := {dsimp := false}) only [↓vp0, vz, vn, nq, tys, cellD, wideIR, if_true, if_false, implies_true, forall_const, ne_eq, reduceIte, reduceCtorEq, Nat.reduceEqDiff, Nat.reduceAdd, Nat.reduceMul, Nat.reduceLT, Nat.reduceSub, Nat.reduceLeDiff, Nat.reduceBNe, Nat.reduceBEq, Nat.reduceBeqDiff, List.range, List.range.loop, gl0, Tryd.ntmps17, Tryd.results17, commitP, hl, hashV, givesIf]
      all_goals rfl
end Go.Vi.CD
end

section
set_option linter.unusedVariables false
set_option linter.unusedSimpArgs false
set_option maxHeartbeats 0
set_option maxRecDepth 20000
namespace Go.Vi.CD
open Go.Proofs

theorem take_all {α : Type} (l : List α) (n : Nat) (h : l.length ≤ n) : List.take n (List.drop (Int.toNat 0) l) = l := by
  rw [show Int.toNat 0 = 0 from rfl, List.drop_zero]
  exact List.take_of_length_le h
theorem c_pair : Contract E 46 := by
  refine contract_seeT hE hgl (show E.P.funcs[46]? = some Tryd.f46 from Tryd.func46) rfl (p := sp_pair) (fun _ _ _ => rfl) ?_
  intro args hv
  unfold sp_pair at hv ⊢
  split at hv
  case h_2 => exact hv.elim
  rename_i a b
  refine ⟨by simp, Nat.le_of_ble_eq_true rfl, ?_⟩
  simp only [givesIf] at hv
  obtain ⟨ha, hb⟩ := hv
  simp (config := {dsimp := false}) only [↓vp0, vz, vn, nq, tys, cellD, wideIR, if_true, if_false, implies_true, forall_const, ne_eq, reduceIte, reduceCtorEq, Nat.reduceEqDiff, Nat.reduceAdd, Nat.reduceMul, Nat.reduceLT, Nat.reduceSub, Nat.reduceLeDiff, Nat.reduceBNe, Nat.reduceBEq, Nat.reduceBeqDiff, List.range, List.range.loop, gl0, Tryd.ntmps46, Tryd.results46, show ((0 : Int) = 64) = False from by simp]
  refine ⟨by decide, by decide, ?_⟩
  refine drawX [2, 3, 5] [(2, [3])] [(2, [12])] (by kernel_rfl) (wild_of rfl) ?_
  have e1 : List.take ((32 : Int) - 0).toNat (List.drop (Int.toNat 0) a) = a := take_all a _ (by rw [ha]; decide)
  have e2 : List.take ((32 : Int) - 0).toNat (List.drop (Int.toNat 0) b) = b := take_all b _ (by rw [hb]; decide)
  simp (config := {dsimp := false}) only [↓vp0, vz, vn, nq, tys, cellD, wideIR, if_true, if_false, implies_true, forall_const, ne_eq, reduceIte, reduceCtorEq, Nat.reduceEqDiff, Nat.reduceAdd, Nat.reduceMul, Nat.reduceLT, Nat.reduceSub, Nat.reduceLeDiff, Nat.reduceBNe, Nat.reduceBEq, Nat.reduceBeqDiff, List.range, List.range.loop, gl0, Tryd.ntmps46, Tryd.results46, vb, ↓vy0, vx0, e1, e2, ha, hb]
  ((repeat' apply And.intro) <;> first | decide | omega | exact okUps_of (by kernel_rfl) rfl | exact okUps_all rfl (by kernel_rfl) | rfl)
theorem c_rootEach : Contract E 25 := by
  refine contract_boxT hE hgl (show E.P.funcs[25]? = some Tryd.f25 from Tryd.func25) rfl (p := sp_rootEach) (fun _ _ _ => rfl) ?_
  intro args ds tv hv hdl htl
  unfold sp_rootEach at hv ⊢
  split at hv
  case h_2 => exact hv.elim
  rename_i a b alone t m
  refine ⟨by simp, Nat.le_of_ble_eq_true rfl, ?_⟩
  cases m <;> cases alone
  all_goals simp (config := {dsimp := false}) only [↓vp0, vz, vn, nq, tys, cellD, wideIR, if_true, if_false, implies_true, forall_const, ne_eq, reduceIte, reduceCtorEq, Nat.reduceEqDiff, Nat.reduceAdd, Nat.reduceMul, Nat.reduceLT, Nat.reduceSub, Nat.reduceLeDiff, Nat.reduceBNe, Nat.reduceBEq, Nat.reduceBeqDiff, List.range, List.range.loop, gl0, Tryd.ntmps25, Tryd.results25, retB, vb]
  · exact ⟨[], [], [], ⟨rfl, rfl⟩, ⟨rfl, rfl⟩, ⟨by simp, by simp⟩, by simp, rfl, rfl, ⟨_, rfl, rfl⟩, ⟨_, rfl, rfl⟩, id rfl⟩
  · exact ⟨[], [], [], ⟨rfl, rfl⟩, ⟨rfl, rfl⟩, ⟨by simp, by simp⟩, by simp, rfl, rfl, ⟨_, rfl, rfl⟩, ⟨_, rfl, rfl⟩, id rfl⟩
  · exact ⟨[], [], [], ⟨rfl, rfl⟩, ⟨rfl, rfl⟩, ⟨by simp, by simp⟩, by simp, rfl, rfl, ⟨_, rfl, rfl⟩, ⟨_, rfl, rfl⟩, id rfl⟩
  · exact ⟨[], [], [], ⟨rfl, rfl⟩, ⟨rfl, rfl⟩, ⟨by simp, by simp⟩, by simp, rfl, rfl, ⟨_, rfl, rfl⟩, ⟨_, rfl, rfl⟩, id rfl⟩
theorem c_textsEach : Contract E 33 := by
  refine contract_boxT hE hgl (show E.P.funcs[33]? = some Tryd.f33 from Tryd.func33) rfl (p := sp_textsEach) (fun _ _ _ => rfl) ?_
  intro args ds tv hv hdl htl
  unfold sp_textsEach at hv ⊢
  split at hv
  case h_2 => exact hv.elim
  rename_i a b alone t es n
  refine ⟨by simp, Nat.le_of_ble_eq_true rfl, ?_⟩
  obtain ⟨rfl, hn, l, rfl⟩ := hv
  simp (config := {dsimp := false}) only [↓vp0, vz, vn, nq, tys, cellD, wideIR, if_true, if_false, implies_true, forall_const, ne_eq, reduceIte, reduceCtorEq, Nat.reduceEqDiff, Nat.reduceAdd, Nat.reduceMul, Nat.reduceLT, Nat.reduceSub, Nat.reduceLeDiff, Nat.reduceBNe, Nat.reduceBEq, Nat.reduceBeqDiff, List.range, List.range.loop, gl0, Tryd.ntmps33, Tryd.results33, retB, vb]
  refine ⟨by have := slis_length l; omega, .inr trivial, .inr trivial, [], [], [], ⟨rfl, rfl⟩, ⟨rfl, rfl⟩, ⟨by simp, by simp⟩, by simp, rfl, rfl, ⟨_, rfl, ?_⟩, ⟨_, rfl, rfl⟩, id rfl⟩
  simp only [List.map_cons, List.map_nil, show (D.sli Own.no .u8 t).bare = .sli .no .u8 t from rfl, show [D.sli Own.no .u8 t] = slis [t] from rfl, slis_append]
  exact congrArg (fun x => [D.sl (.tok 0) 1 x]) (strips_slis' true _)
end Go.Vi.CD
end

section
set_option linter.unusedVariables false
set_option linter.unusedSimpArgs false
set_option maxHeartbeats 0
set_option maxRecDepth 20000
namespace Go.Vi.CD
open Go.Proofs

theorem w64' {a b : Int} (h : a = b) (hb : -1000000 ≤ b ∧ b < 1000000) : IntKind.wrap .i64 a = b := by rw [h]; exact IntWalk.i64_in _ (by omega)
theorem half (n : Nat) (h : n < 10000000) : IntKind.wrap .i64 ((n : Int).tdiv 2) = ((n / 2 : Nat) : Int) := by
  rw [Int.tdiv_eq_ediv_of_nonneg (by omega), IntWalk.i64_in _ (by omega)]
  omega
theorem halfup (n : Nat) (h : n < 10000000) : IntKind.wrap .i64 ((IntKind.wrap .i64 ((n : Int) + 1)).tdiv 2) = (((n + 1) / 2 : Nat) : Int) := by
  rw [IntWalk.i64_in ((n : Int) + 1) (by omega), Int.tdiv_eq_ediv_of_nonneg (by omega), IntWalk.i64_in _ (by omega)]
  omega
theorem odd_dec (n : Nat) : decide ((n : Int).tmod 2 = 1) = decide (n % 2 = 1) := by
  rw [Int.tmod_eq_emod_of_nonneg (by omega)]
  apply decide_eq_decide.2
  omega
theorem even_dec (n : Nat) : decide ((n : Int).tmod 2 = 0) = decide (n % 2 = 0) := by
  rw [Int.tmod_eq_emod_of_nonneg (by omega)]
  apply decide_eq_decide.2
  omega
end Go.Vi.CD
end

section
set_option linter.unusedVariables false
namespace Go.Proofs
open Go.RowKit Go.Shelf
attribute [local go_sem] Oper.semAt_some
set_option maxHeartbeats 1000000 in
theorem Tryd.Chunk_in (F : Fence) (n : Nat) (h5 : F.fn 45) (hro : F.round = none) (a : Option Addr) (len cap : Nat) (w : World) :
    CallsIn F n Tryd.prog 45 #[.slice a len cap, .int .i64 2] w fun e w' => e = .returned (.func (.func 56) #[] #[.pointer (some ⟨w.heap.size, 0, none⟩), .pointer (some ⟨w.heap.size + 1, 0, none⟩)]) ∧ w' = (w.alloc (.cells #[.slice a len cap] 43)).alloc (.cells #[.int .i64 2] 3) := by
  refine callsIn_of_wp Tryd.func45 rfl h5 ?_ hro
  simp only [Tryd.ntmps45, List.size_toArray, List.length_cons, List.length_nil, Nat.reduceAdd, Nat.reduceSub, Array.replicate_succ, Array.replicate_zero, List.push_toArray, List.append_toArray, List.nil_append, List.cons_append]
  gi_wp2
  go_ret
  exact ⟨rfl, rfl⟩
end Go.Proofs
namespace Go.Vi.CD
open Go.Proofs Go.RowKit
theorem c_chunk : Contract E 45 := by
  refine contract_calls2 (p := sp_chunk 56) (ks := []) (fun args s nm => spec_chunk args s nm) ?_
  · intro xs hv g w vs hl0 hr
    unfold sp_chunk at hv ⊢
    split at hv
    case h_2 => exact hv.elim
    rename_i es
    obtain ⟨v1, r1, rfl, ⟨a, c, vE, e1, hc, hes, hrow, _⟩, v2, r2, rfl, e2, e3⟩ := hr
    have e2 : [v2] = [.int .i64 2] := e2
    have e3 : r2 = [] := e3
    simp only [List.cons.injEq, and_true] at e1 e2
    subst e1 e2 e3
    refine (callsIn_wide (n := 0)).1 ((Tryd.Chunk_in Fence.wide 0 trivial rfl a es.length c w).mono ?_)
    rintro e w' ⟨rfl, rfl⟩
    have hb : Below w.heap.size w ((w.alloc (.cells #[.slice a es.length c] 43)).alloc (.cells #[.int .i64 2] 3)) := ((Below.refl _ w).alloc (Nat.le_refl _) _).alloc (by simp) _
    refine ⟨_, rfl, ?_, hb⟩
    have hx : Ext g w (g.newer w ((w.alloc (.cells #[.slice a es.length c] 43)).alloc (.cells #[.int .i64 2] 3))) _ := Gh.newer_ext hl0 hb
    have c1 : ((w.alloc (.cells #[.slice a es.length c] 43)).alloc (.cells #[.int .i64 2] 3)).heap[w.heap.size]? = some (.cells #[.slice a es.length c] 43) := by
      rw [Below.heap_alloc _ _ _ (by simp)]; exact World.alloc_heap_new w _
    have c2 : ((w.alloc (.cells #[.slice a es.length c] 43)).alloc (.cells #[.int .i64 2] 3)).heap[w.heap.size + 1]? = some (.cells #[.int .i64 2] 3) := by
      have := World.alloc_heap_new (w.alloc (.cells #[.slice a es.length c] 43)) (.cells #[.int .i64 2] 3)
      rwa [World.size_alloc] at this
    generalize ((w.alloc (.cells #[.slice a es.length c] 43)).alloc (.cells #[.int .i64 2] 3)) = w' at hx c1 c2
    refine ⟨[.pointer (some ⟨w.heap.size, 0, none⟩), .pointer (some ⟨w.heap.size + 1, 0, none⟩)], rfl, [.pointer (some ⟨w.heap.size, 0, none⟩)], [.pointer (some ⟨w.heap.size + 1, 0, none⟩)], rfl,
      ⟨w.heap.size, 0, [.slice a es.length c], rfl, ⟨a, c, vE, rfl, hc, RepEs.ext hx.bare es hes, Row.ext (g := g.bare) (g' := (g.newer w w').bare) hx.bare hrow, trivial⟩, ?_, ?_⟩,
      [.pointer (some ⟨w.heap.size + 1, 0, none⟩)], [], rfl, ⟨w.heap.size + 1, 0, [.int .i64 2], rfl, rfl, ?_, ?_⟩, rfl⟩
    · simp [Gh.newer, rowSize, c1]
    · intro i v hv
      cases i with
      | zero => simp at hv; subst hv; simp [World.cell?, c1]
      | succ i => simp at hv
    · simp [Gh.newer, rowSize, c2, show ¬ (w.heap.size + 1 < w.heap.size) by omega]
    · intro i v hv
      cases i with
      | zero => simp at hv; subst hv; simp [World.cell?, c2]
      | succ i => simp at hv
end Go.Vi.CD
end

section
set_option linter.unusedVariables false
set_option linter.unusedSimpArgs false
set_option maxHeartbeats 0
set_option maxRecDepth 20000
namespace Go.Vi.CD
open Go.Proofs

theorem bs_eta (st : BS) : ((st.1, st.2.1, st.2.2.1, st.2.2.2) : BS) = st := rfl
def okB (A B C : Nat) (st : BS) : Prop := st.1 ≤ A ∧ st.2.1 ≤ B ∧ st.2.2.1.length ≤ A ∧ h32 st.2.2.1 ∧ st.2.2.2 ≤ C
theorem okB_step {A B C : Nat} (hC : 1 ≤ C) {p : Pr} (hp : p.1.length = 32 ∧ p.2.1.length = 32) {st : BS} (h : okB A B C st) : okB (A + 1) B C (stepB st p) := by
  obtain ⟨k, a, o, n⟩ := st
  obtain ⟨h1, h2, h3, h4, h5⟩ := h
  simp only at h1 h2 h3 h4 h5
  have ho : ∀ (c : Prop) [Decidable c] (x : List Int), x.length = 32 → (if c then o ++ [x] else o).length ≤ A + 1 ∧ h32 (if c then o ++ [x] else o) := by
    intro c _ x hx
    split
    · refine ⟨by simp; omega, fun y hy => ?_⟩
      rcases List.mem_append.1 hy with h | h
      · exact h4 y h
      · simp at h; rw [h]; exact hx
    · exact ⟨by omega, h4⟩
  have hx : (if a % 2 = 0 then p.2.1 else p.1).length = 32 := by
    split
    · exact hp.2
    · exact hp.1
  obtain ⟨o1, o2⟩ := ho (k = a / 2 ∧ p.2.2 = false) _ hx
  unfold stepB
  simp only
  split
  · exact ⟨Nat.zero_le _, by simp only; omega, o1, o2, by simp only; omega⟩
  · exact ⟨by simp only; omega, by simp only; omega, o1, o2, by simp only; omega⟩
theorem okB_fold {B C : Nat} (hC : 1 ≤ C) : ∀ {A : Nat} (ps : List Pr), (∀ p ∈ ps, p.1.length = 32 ∧ p.2.1.length = 32) → ∀ st : BS, okB A B C st → okB (A + ps.length) B C (ps.foldl stepB st)
  | A, [], _, st, h => h
  | A, p :: r, hp, st, h => by
    have := okB_fold hC r (fun q hq => hp q (List.mem_cons_of_mem _ hq)) _ (okB_step hC (hp p (List.mem_cons_self ..)) h)
    rw [List.length_cons, Nat.add_comm r.length 1, ← Nat.add_assoc]
    exact this
theorem pairAt_len {r : L2} (hr : h32 r) {i : Nat} (hi : i < (r.length + 1) / 2) : (pairAt r i).1.length = 32 ∧ (pairAt r i).2.1.length = 32 := by
  have hm := hr _ (getD_mem (show 2 * i < r.length by omega))
  simp only [pairAt]
  split
  · exact ⟨hm, hr _ (getD_mem (show 2 * i + 1 < r.length by omega))⟩
  · exact ⟨hm, hm⟩
theorem pairsTo_len32 {l : L2} (hl : h32 l) : ∀ k, ∀ p ∈ pairsTo l k, p.1.length = 32 ∧ p.2.1.length = 32
  | 0, p, hp => absurd hp List.not_mem_nil
  | k + 1, p, hp => by
    rcases List.mem_append.1 hp with h | h
    · exact pairsTo_len32 hl k p h
    · obtain ⟨i, hi, rfl⟩ := List.mem_map.1 h
      exact pairAt_len (row_h32 hl k) (by simpa using hi)
theorem strips_snoc (T l : L2) (x : List Int) : D.strips true (slis (T ++ l) ++ [.sli .no .u8 x]) = slis (T ++ (l ++ [x])) := by
  rw [show [D.sli .no .u8 x] = slis [x] from rfl, slis_append, strips_slis', List.append_assoc]
theorem w21 : IntKind.wrap .i64 (((2 : Nat) : Int) - 1) = 1 := rfl
theorem w10 : IntKind.wrap .i64 (((1 : Nat) : Int) - 1) = 0 := rfl
theorem chunk_two (l : L2) (i : Nat) (h : 2 * i + 2 ≤ l.length) : chunkEl (arrs l) i = .sl .full 32 [.arr .u8 32 (l.getD (2 * i) []), .arr .u8 32 (l.getD (2 * i + 1) [])] := by
  unfold chunkEl
  congr 1
  apply List.ext_getElem
  · simp [arrs]; omega
  · intro j h1 h2
    simp [arrs] at h1 h2 ⊢
    match j with
    | 0 => simp [List.getD, show 2 * i < l.length by omega]
    | 1 => simp [List.getD, show 2 * i + 1 < l.length by omega]
theorem chunk_one (l : L2) (i : Nat) (h : 2 * i + 1 = l.length) : chunkEl (arrs l) i = .sl .full 32 [.arr .u8 32 (l.getD (2 * i) [])] := by
  unfold chunkEl
  congr 1
  apply List.ext_getElem
  · simp [arrs]; omega
  · intro j h1 h2
    simp [arrs] at h1 h2 ⊢
    obtain rfl : j = 0 := by omega
    simp [List.getD, show 2 * i < l.length by omega]
theorem c_rows : Contract E 24 := by
  refine contract_boxT hE hgl (show E.P.funcs[24]? = some Tryd.f24 from Tryd.func24) rfl (p := (sp_rows 25 33 0)) (fun _ _ _ => rfl) ?_
  intro args ds tv hv hdl htl
  unfold sp_rows at hv ⊢
  split at hv
  case h_6 => exact hv.elim
  case h_1 =>
    rename_i es g m
    obtain ⟨rfl, ⟨l, rfl, hl⟩, hlen⟩ := hv
    simp only [arrs_length] at hlen
    refine ⟨by simp, Nat.le_of_ble_eq_true rfl, ?_⟩
    simp (config := {dsimp := false}) only [↓vp0, vz, vn, nq, tys, cellD, wideIR, if_true, if_false, implies_true, forall_const, ne_eq, reduceIte, reduceCtorEq, Nat.reduceEqDiff, Nat.reduceAdd, Nat.reduceMul, Nat.reduceLT, Nat.reduceSub, Nat.reduceLeDiff, Nat.reduceBNe, Nat.reduceBEq, Nat.reduceBeqDiff, List.range, List.range.loop, gl0, Tryd.ntmps24, Tryd.results24, retB, vb, arrs_length, hs_arrs]
    refine ⟨fun h0 => ?_, fun h0 => ?_⟩
    · have h0 := of_decide_eq_true h0
      obtain rfl : l = [] := List.eq_nil_of_length_eq_zero (by omega)
      exact ⟨[], [], [], ⟨rfl, rfl⟩, ⟨rfl, rfl⟩, ⟨by simp, by simp⟩, by simp, rfl, rfl, ⟨_, rfl, (by rw [allP_nil]; rfl)⟩, ⟨_, rfl, rfl⟩, id (by rw [rootP_nil]; rfl)⟩
    have h0 := of_decide_eq_false h0
    have hne : l ≠ [] := fun e => by subst e; simp at h0
    refine loopI {k : Nat // k ≤ dep l.length} (fun k => [(0, .sl .no 32 (arrs (rowAt l k.1))), (3, .bp 8 0), (4, .bp 12 0)]) (fun k => ⟨[(0, .bool ((pairsTo l k.1).foldl mutS m)), (8, .fn 25 [.bp 0 0]), (12, .arr .u8 32 (List.replicate 32 0))], [], 28⟩) (fun k => dep l.length - k.1) ⟨0, Nat.zero_le _⟩ (fun _ => rfl) ?_ ?_
    · exact ⟨⟨wkD_eq rfl, rfl, wkD_eq rfl, rfl, wkD_eq rfl, rfl, trivial⟩, ⟨rfl, Nat.le_of_ble_eq_true rfl, rfl, rfl, Nat.le_of_ble_eq_true rfl, rfl, rfl, Nat.le_of_ble_eq_true rfl, rfl, trivial⟩, trivial⟩
    rintro ⟨k, hk⟩
    have hk1 := row_more k l
    have hk2 := row_h32 hl k
    have hk3 := row_len_le l k
    simp (config := {dsimp := false}) only [↓vp0, vz, vn, nq, tys, cellD, wideIR, if_true, if_false, implies_true, forall_const, ne_eq, reduceIte, reduceCtorEq, Nat.reduceEqDiff, Nat.reduceAdd, Nat.reduceMul, Nat.reduceLT, Nat.reduceSub, Nat.reduceLeDiff, Nat.reduceBNe, Nat.reduceBEq, Nat.reduceBeqDiff, List.range, List.range.loop, gl0, Tryd.ntmps24, Tryd.results24, retB, vb, arrs_length, spec_chunk, sp_chunk, c_chunk, b_chunk, gives, PF.toR]
    refine ⟨fun h => ?_, fun h => ?_⟩
    · have h := of_decide_eq_true h
      have hkd : k < dep l.length := hk1.1 (by omega)
      generalize hr : rowAt l k = r at hk1 hk2 hk3 h
      rw [strips_arrs]
      refine rangeB [(40, none, 32)] ?_
      simp (config := {dsimp := false}) only [↓vp0, vz, vn, nq, tys, cellD, wideIR, if_true, if_false, implies_true, forall_const, ne_eq, reduceIte, reduceCtorEq, Nat.reduceEqDiff, Nat.reduceAdd, Nat.reduceMul, Nat.reduceLT, Nat.reduceSub, Nat.reduceLeDiff, Nat.reduceBNe, Nat.reduceBEq, Nat.reduceBeqDiff, List.range, List.range.loop, gl0, Tryd.ntmps24, Tryd.results24, adoptB]
      generalize hm' : (pairsTo l k).foldl mutS m = m'
      refine rangeI [(3, .bp 8 0), (4, .bp 12 0), (5, .bp 40 0), (18, .fn 56 [.ip (.sl .no 32 (arrs r)) 0, .ip (.int .i64 2) 0])]
        (fun pre => ⟨[(0, .bool ((pre.map fun i => pairAt r i.1).foldl mutS m')), (8, .fn 25 [.bp 0 0]), (12, .arr .u8 32 (List.replicate 32 0)), (40, .sl (.tok 52) 32 (arrs (pre.map fun i => joinP (pairAt r i.1))))], [(52, (pre.length, 32))], 56⟩)
        [(6, .tmp 19)] (iter_chunk rfl (arrs r) (by intro e; have := congrArg List.length e; simp [arrs] at this; subst this; simp at h) (by rw [arrs_length]; omega)) rfl (fun _ => rfl) ⟨rfl, by kernel_rfl, by kernel_rfl, by kernel_rfl⟩ (fun _ => rfl) ⟨⟨wkD_eq rfl, rfl, wkD_eq rfl, rfl, wkD_eq rfl, rfl, wkD_eq rfl, rfl, trivial⟩, ⟨rfl, Nat.le_of_ble_eq_true rfl, rfl, rfl, Nat.le_of_ble_eq_true rfl, rfl, rfl, Nat.le_of_ble_eq_true rfl, rfl, rfl, Nat.le_of_ble_eq_true rfl, rfl, trivial⟩, ⟨rfl, Nat.le_of_ble_eq_true rfl, trivial⟩⟩ ?_ ?_
      · rintro pre ⟨i, hi⟩ hpre
        have hi' : i < (r.length + 1) / 2 := by have := hi; rwa [arrs_length] at this
        have hpre' : pre.length < (r.length + 1) / 2 := by have := arrs_length r; omega
        by_cases h2 : 2 * i + 2 ≤ r.length
        · have hpa : ∀ q : List (Fin (((arrs r).length + 1) / 2)), (q ++ [(⟨i, hi⟩ : Fin (((arrs r).length + 1) / 2))]).map (fun i : Fin (((arrs r).length + 1) / 2) => pairAt r i.1) = q.map (fun i : Fin (((arrs r).length + 1) / 2) => pairAt r i.1) ++ [(r.getD (2 * i) [], r.getD (2 * i + 1) [], false)] := fun q => by simp [pairAt, h2]
          have hpb : ∀ q : List (Fin (((arrs r).length + 1) / 2)), (q ++ [(⟨i, hi⟩ : Fin (((arrs r).length + 1) / 2))]).map (fun i : Fin (((arrs r).length + 1) / 2) => joinP (pairAt r i.1)) = q.map (fun i : Fin (((arrs r).length + 1) / 2) => joinP (pairAt r i.1)) ++ [H2 (r.getD (2 * i) []) (r.getD (2 * i + 1) [])] := fun q => by simp [pairAt, h2, joinP]
          simp only [chunk_two r i h2, hpa, hpb]
          have ha := hk2 _ (getD_mem (show 2 * i < r.length by omega))
          have hb := hk2 _ (getD_mem (show 2 * i + 1 < r.length by omega))
          generalize r.getD (2 * i) [] = a at ha
          generalize r.getD (2 * i + 1) [] = b at hb
          simp (config := {dsimp := false}) only [↓vp0, vz, vn, nq, tys, cellD, wideIR, if_true, if_false, implies_true, forall_const, ne_eq, reduceIte, reduceCtorEq, Nat.reduceEqDiff, Nat.reduceAdd, Nat.reduceMul, Nat.reduceLT, Nat.reduceSub, Nat.reduceLeDiff, Nat.reduceBNe, Nat.reduceBEq, Nat.reduceBeqDiff, List.range, List.range.loop, gl0, Tryd.ntmps24, Tryd.results24, arrs_length]
          refine drawX [6, 3, 4, 5, 18] [(9, [0, 1, 2, 3, 4, 5, 6, 7, 8, 10]), (10, [0, 1, 2, 3, 4, 5, 6, 7, 8, 9]), (11, [3, 4, 5, 6, 7, 8])] [(11, [92])] (by kernel_rfl) (wild_of rfl) ?_
          simp (config := {dsimp := false}) only [↓vp0, vz, vn, nq, tys, cellD, wideIR, if_true, if_false, implies_true, forall_const, ne_eq, reduceIte, reduceCtorEq, Nat.reduceEqDiff, Nat.reduceAdd, Nat.reduceMul, Nat.reduceLT, Nat.reduceSub, Nat.reduceLeDiff, Nat.reduceBNe, Nat.reduceBEq, Nat.reduceBeqDiff, List.range, List.range.loop, gl0, Tryd.ntmps24, Tryd.results24, vb, ↓vy0, vx0, arrs_length, w21, show Int.toNat 0 = 0 from rfl, show Int.toNat 1 = 1 from rfl, List.getD_cons_zero, List.getD_cons_succ, PF.toR, gives, givesIf, ha, hb, spec_pair, sp_pair, c_pair, b_pair, spec_rootEach, sp_rootEach, c_rootEach, b_rootEach]
          refine ⟨by decide, by decide, by decide, by decide, okUps_of (by kernel_rfl) rfl, okUps_of (by kernel_rfl) rfl, okUps_of (by kernel_rfl) rfl, okUps_all rfl (by kernel_rfl), ?_⟩
          refine drawI [5, 9] (by kernel_rfl) ?_
          simp (config := {dsimp := false}) only [↓vp0, vz, vn, nq, tys, cellD, wideIR, if_true, if_false, implies_true, forall_const, ne_eq, reduceIte, reduceCtorEq, Nat.reduceEqDiff, Nat.reduceAdd, Nat.reduceMul, Nat.reduceLT, Nat.reduceSub, Nat.reduceLeDiff, Nat.reduceBNe, Nat.reduceBEq, Nat.reduceBeqDiff, List.range, List.range.loop, gl0, Tryd.ntmps24, Tryd.results24, PF.toR, gives, givesIf, List.length_append, ha, hb, spec_twice, sp_twice, c_twice, b_twice, List.foldl_append, List.foldl_cons, List.foldl_nil]
          have hpl : (arrs (pre.map fun i => joinP (pairAt r i.1))).length = pre.length := by rw [arrs_length, List.length_map]
          refine ⟨by rw [hpl], by rw [hpl]; omega, .inr trivial, .inr trivial, by kernel_rfl, by kernel_rfl, ⟨trivial, ⟨rfl, Nat.le_of_ble_eq_true rfl, rfl, rfl, Nat.le_of_ble_eq_true rfl, rfl, rfl, Nat.le_of_ble_eq_true rfl, rfl, ?_, Nat.le_of_ble_eq_true rfl, rfl, trivial⟩, ⟨?_, Nat.le_of_ble_eq_true rfl, trivial⟩⟩⟩
          · exact congrArg (fun x => some (D.sl (.tok 52) 32 x)) (arrs_append _ [H2 a b])
          · exact congrArg (fun n => some (n + 1, 32)) hpl
        · have h3 : 2 * i + 1 = r.length := by omega
          have hpa : ∀ q : List (Fin (((arrs r).length + 1) / 2)), (q ++ [(⟨i, hi⟩ : Fin (((arrs r).length + 1) / 2))]).map (fun i : Fin (((arrs r).length + 1) / 2) => pairAt r i.1) = q.map (fun i : Fin (((arrs r).length + 1) / 2) => pairAt r i.1) ++ [(r.getD (2 * i) [], r.getD (2 * i) [], true)] := fun q => by simp [pairAt, h2]
          have hpb : ∀ q : List (Fin (((arrs r).length + 1) / 2)), (q ++ [(⟨i, hi⟩ : Fin (((arrs r).length + 1) / 2))]).map (fun i : Fin (((arrs r).length + 1) / 2) => joinP (pairAt r i.1)) = q.map (fun i : Fin (((arrs r).length + 1) / 2) => joinP (pairAt r i.1)) ++ [H2 (r.getD (2 * i) []) (r.getD (2 * i) [])] := fun q => by simp [pairAt, h2, joinP]
          simp only [chunk_one r i h3, hpa, hpb]
          have ha := hk2 _ (getD_mem (show 2 * i < r.length by omega))
          generalize r.getD (2 * i) [] = a at ha
          simp (config := {dsimp := false}) only [↓vp0, vz, vn, nq, tys, cellD, wideIR, if_true, if_false, implies_true, forall_const, ne_eq, reduceIte, reduceCtorEq, Nat.reduceEqDiff, Nat.reduceAdd, Nat.reduceMul, Nat.reduceLT, Nat.reduceSub, Nat.reduceLeDiff, Nat.reduceBNe, Nat.reduceBEq, Nat.reduceBeqDiff, List.range, List.range.loop, gl0, Tryd.ntmps24, Tryd.results24, arrs_length]
          refine drawX [6, 3, 4, 5, 18] [(9, [0, 1, 2, 3, 4, 5, 6, 7, 8, 10]), (10, [0, 1, 2, 3, 4, 5, 6, 7, 8, 9]), (11, [3, 4, 5, 6, 7, 8])] [(11, [92])] (by kernel_rfl) (wild_of rfl) ?_
          simp (config := {dsimp := false}) only [↓vp0, vz, vn, nq, tys, cellD, wideIR, if_true, if_false, implies_true, forall_const, ne_eq, reduceIte, reduceCtorEq, Nat.reduceEqDiff, Nat.reduceAdd, Nat.reduceMul, Nat.reduceLT, Nat.reduceSub, Nat.reduceLeDiff, Nat.reduceBNe, Nat.reduceBEq, Nat.reduceBeqDiff, List.range, List.range.loop, gl0, Tryd.ntmps24, Tryd.results24, vb, ↓vy0, vx0, arrs_length, w10, show Int.toNat 0 = 0 from rfl, show Int.toNat 1 = 1 from rfl, List.getD_cons_zero, List.getD_cons_succ, PF.toR, gives, givesIf, ha, spec_pair, sp_pair, c_pair, b_pair, spec_rootEach, sp_rootEach, c_rootEach, b_rootEach]
          refine ⟨by decide, by decide, by decide, by decide, okUps_of (by kernel_rfl) rfl, okUps_of (by kernel_rfl) rfl, okUps_of (by kernel_rfl) rfl, okUps_all rfl (by kernel_rfl), ?_⟩
          refine drawI [5, 9] (by kernel_rfl) ?_
          simp (config := {dsimp := false}) only [↓vp0, vz, vn, nq, tys, cellD, wideIR, if_true, if_false, implies_true, forall_const, ne_eq, reduceIte, reduceCtorEq, Nat.reduceEqDiff, Nat.reduceAdd, Nat.reduceMul, Nat.reduceLT, Nat.reduceSub, Nat.reduceLeDiff, Nat.reduceBNe, Nat.reduceBEq, Nat.reduceBeqDiff, List.range, List.range.loop, gl0, Tryd.ntmps24, Tryd.results24, PF.toR, gives, givesIf, List.length_append, ha, spec_twice, sp_twice, c_twice, b_twice, List.foldl_append, List.foldl_cons, List.foldl_nil]
          have hpl : (arrs (pre.map fun i => joinP (pairAt r i.1))).length = pre.length := by rw [arrs_length, List.length_map]
          refine ⟨by rw [hpl], by rw [hpl]; omega, .inr trivial, .inr trivial, by kernel_rfl, by kernel_rfl, ⟨trivial, ⟨rfl, Nat.le_of_ble_eq_true rfl, rfl, rfl, Nat.le_of_ble_eq_true rfl, rfl, rfl, Nat.le_of_ble_eq_true rfl, rfl, ?_, Nat.le_of_ble_eq_true rfl, rfl, trivial⟩, ⟨?_, Nat.le_of_ble_eq_true rfl, trivial⟩⟩⟩
          · exact congrArg (fun x => some (D.sl (.tok 52) 32 x)) (arrs_append _ [H2 a a])
          · exact congrArg (fun n => some (n + 1, 32)) hpl
      · simp (config := {dsimp := false}) only [↓vp0, vz, vn, nq, tys, cellD, wideIR, if_true, if_false, implies_true, forall_const, ne_eq, reduceIte, reduceCtorEq, Nat.reduceEqDiff, Nat.reduceAdd, Nat.reduceMul, Nat.reduceLT, Nat.reduceSub, Nat.reduceLeDiff, Nat.reduceBNe, Nat.reduceBEq, Nat.reduceBeqDiff, List.range, List.range.loop, gl0, Tryd.ntmps24, Tryd.results24, retB, vb]
        simp only [above_fin r (show ((arrs r).length + 1) / 2 = (r.length + 1) / 2 by rw [arrs_length]), pairs_fin r (show ((arrs r).length + 1) / 2 = (r.length + 1) / 2 by rw [arrs_length])]
        subst hr hm'
        refine ⟨⟨k + 1, hkd⟩, ⟨⟨.inr ⟨_, rfl⟩, rfl, wkD_eq rfl, rfl, wkD_eq rfl, rfl, trivial⟩, ⟨?_, Nat.le_of_ble_eq_true rfl, rfl, rfl, Nat.le_of_ble_eq_true rfl, rfl, rfl, Nat.le_of_ble_eq_true rfl, rfl, trivial⟩, trivial⟩, by (try simp only); omega⟩
        exact congrArg (fun b => some (D.bool b)) (List.foldl_append ..).symm
    · have h := of_decide_eq_false h
      have h00 := arrs_get (rowAt l k) 0 (List.length_pos_iff.2 (row_pos l hne k))
      simp (config := {dsimp := false}) only [↓vp0, vz, vn, nq, tys, cellD, wideIR, if_true, if_false, implies_true, forall_const, ne_eq, reduceIte, reduceCtorEq, Nat.reduceEqDiff, Nat.reduceAdd, Nat.reduceMul, Nat.reduceLT, Nat.reduceSub, Nat.reduceLeDiff, Nat.reduceBNe, Nat.reduceBEq, Nat.reduceBeqDiff, List.range, List.range.loop, gl0, Tryd.ntmps24, Tryd.results24, retB, vb, h00, show Int.toNat 0 = 0 from rfl]
      have he := row_end hk (by omega)
      have hp := List.length_pos_iff.2 (row_pos l hne k)
      refine ⟨by decide, by omega, [], [], [], ⟨rfl, rfl⟩, ⟨rfl, rfl⟩, ⟨by simp, by simp⟩, by simp, rfl, rfl, ⟨_, rfl, ?_⟩, ⟨_, rfl, rfl⟩, ?_⟩
      · rw [hs_arrs, allP, ← he]
        rfl
      · rw [hs_arrs, rootP, if_neg hne, ← he]
        exact id rfl
  case h_2 =>
    rename_i g z
    obtain ⟨rfl, -⟩ := hv
    refine ⟨by simp, Nat.le_of_ble_eq_true rfl, ?_⟩
    simp (config := {dsimp := false}) only [↓vp0, vz, vn, nq, tys, cellD, wideIR, if_true, if_false, implies_true, forall_const, ne_eq, reduceIte, reduceCtorEq, Nat.reduceEqDiff, Nat.reduceAdd, Nat.reduceMul, Nat.reduceLT, Nat.reduceSub, Nat.reduceLeDiff, Nat.reduceBNe, Nat.reduceBEq, Nat.reduceBeqDiff, List.range, List.range.loop, gl0, Tryd.ntmps24, Tryd.results24, retB, vb, show decide (((0 : Nat) : Int) = 0) = true from rfl]
    exact ⟨[], [], [], ⟨rfl, rfl⟩, ⟨rfl, rfl⟩, ⟨by simp, by simp⟩, by simp, rfl, rfl, ⟨_, rfl, rfl⟩, ⟨_, rfl, rfl⟩, id rfl⟩
  case h_3 =>
    rename_i es g z hnn
    obtain ⟨⟨rfl, -⟩, hes0, ⟨l, rfl, hl⟩, hlen⟩ := hv
    simp only [arrs_length] at hlen
    refine ⟨by simp, Nat.le_of_ble_eq_true rfl, ?_⟩
    simp (config := {dsimp := false}) only [↓vp0, vz, vn, nq, tys, cellD, wideIR, if_true, if_false, implies_true, forall_const, ne_eq, reduceIte, reduceCtorEq, Nat.reduceEqDiff, Nat.reduceAdd, Nat.reduceMul, Nat.reduceLT, Nat.reduceSub, Nat.reduceLeDiff, Nat.reduceBNe, Nat.reduceBEq, Nat.reduceBeqDiff, List.range, List.range.loop, gl0, Tryd.ntmps24, Tryd.results24, retB, vb, arrs_length, hs_arrs]
    have hne : l ≠ [] := fun e => hes0 (by subst e; rfl)
    have hn0 : ¬ ((l.length : Int) = 0) := fun e => hne (List.eq_nil_of_length_eq_zero (by omega))
    refine ⟨fun h0 => absurd (of_decide_eq_true h0) hn0, fun h0 => ?_⟩
    refine loopB [(0, none, 1)] ?_
    simp (config := {dsimp := false}) only [↓vp0, vz, vn, nq, tys, cellD, wideIR, if_true, if_false, implies_true, forall_const, ne_eq, reduceIte, reduceCtorEq, Nat.reduceEqDiff, Nat.reduceAdd, Nat.reduceMul, Nat.reduceLT, Nat.reduceSub, Nat.reduceLeDiff, Nat.reduceBNe, Nat.reduceBEq, Nat.reduceBeqDiff, List.range, List.range.loop, gl0, Tryd.ntmps24, Tryd.results24, adoptB]
    refine ⟨{k : Nat // k ≤ dep l.length}, (fun k => [(0, .sl .no 32 (arrs (rowAt l k.1))), (3, .bp 8 0), (4, .bp 12 0)]), (fun k => ⟨[(0, .sl (.tok 28) 1 (slis ((pairsTo l k.1).map textOf))), (8, .fn 33 [.bp 0 0]), (12, .arr .u8 32 (List.replicate 32 0))], [(28, ((pairsTo l k.1).length, 1))], 32⟩), (fun k => dep l.length - k.1), ⟨0, Nat.zero_le _⟩, (fun _ => rfl), ?_, ?_⟩
    · exact ⟨⟨wkD_eq rfl, rfl, wkD_eq rfl, rfl, wkD_eq rfl, rfl, trivial⟩, ⟨rfl, Nat.le_of_ble_eq_true rfl, rfl, rfl, Nat.le_of_ble_eq_true rfl, rfl, rfl, Nat.le_of_ble_eq_true rfl, rfl, trivial⟩, ⟨rfl, Nat.le_of_ble_eq_true rfl, trivial⟩⟩
    rintro ⟨k, hk⟩
    have hk1 := row_more k l
    have hk2 := row_h32 hl k
    have hk3 := row_len_le l k
    simp (config := {dsimp := false}) only [↓vp0, vz, vn, nq, tys, cellD, wideIR, if_true, if_false, implies_true, forall_const, ne_eq, reduceIte, reduceCtorEq, Nat.reduceEqDiff, Nat.reduceAdd, Nat.reduceMul, Nat.reduceLT, Nat.reduceSub, Nat.reduceLeDiff, Nat.reduceBNe, Nat.reduceBEq, Nat.reduceBeqDiff, List.range, List.range.loop, gl0, Tryd.ntmps24, Tryd.results24, retB, vb, arrs_length, spec_chunk, sp_chunk, c_chunk, b_chunk, gives, PF.toR]
    refine ⟨fun h => ?_, fun h => ?_⟩
    · have h := of_decide_eq_true h
      have hkd : k < dep l.length := hk1.1 (by omega)
      generalize hr : rowAt l k = r at hk1 hk2 hk3 h
      rw [strips_arrs]
      refine rangeB [(44, none, 32)] ?_
      simp (config := {dsimp := false}) only [↓vp0, vz, vn, nq, tys, cellD, wideIR, if_true, if_false, implies_true, forall_const, ne_eq, reduceIte, reduceCtorEq, Nat.reduceEqDiff, Nat.reduceAdd, Nat.reduceMul, Nat.reduceLT, Nat.reduceSub, Nat.reduceLeDiff, Nat.reduceBNe, Nat.reduceBEq, Nat.reduceBeqDiff, List.range, List.range.loop, gl0, Tryd.ntmps24, Tryd.results24, adoptB]
      have hT : ((pairsTo l k).map textOf).length = (pairsTo l k).length := List.length_map ..
      have hT2 : (pairsTo l k).length ≤ 3000 := by have := pairsTo_len l (by omega) k hk; have := dep_lt l.length (List.length_pos_iff.2 hne); omega
      generalize hm' : (pairsTo l k).map textOf = T at hT
      generalize hn' : (pairsTo l k).length = n' at hT hT2
      refine rangeI [(3, .bp 8 0), (4, .bp 12 0), (5, .bp 44 0), (18, .fn 56 [.ip (.sl .no 32 (arrs r)) 0, .ip (.int .i64 2) 0])]
        (fun pre => ⟨[(0, .sl (.tok 28) 1 (slis (T ++ pre.map fun i => textOf (pairAt r i.1)))), (8, .fn 33 [.bp 0 0]), (12, .arr .u8 32 (List.replicate 32 0)), (44, .sl (.tok 56) 32 (arrs (pre.map fun i => joinP (pairAt r i.1))))], [(28, (n' + pre.length, 1)), (56, (pre.length, 32))], 60⟩)
        [(6, .tmp 19)] (iter_chunk rfl (arrs r) (by intro e; have := congrArg List.length e; simp [arrs] at this; subst this; simp at h) (by rw [arrs_length]; omega)) rfl (fun _ => rfl) ⟨rfl, by kernel_rfl, by kernel_rfl, by kernel_rfl⟩ (fun _ => rfl) ⟨⟨wkD_eq rfl, rfl, wkD_eq rfl, rfl, wkD_eq rfl, rfl, wkD_eq rfl, rfl, trivial⟩, ⟨?_, Nat.le_of_ble_eq_true rfl, rfl, rfl, Nat.le_of_ble_eq_true rfl, rfl, rfl, Nat.le_of_ble_eq_true rfl, rfl, rfl, Nat.le_of_ble_eq_true rfl, rfl, trivial⟩, ⟨rfl, Nat.le_of_ble_eq_true rfl, rfl, Nat.le_of_ble_eq_true rfl, trivial⟩⟩ ?_ ?_
      · exact congrArg (fun x => some (D.sl (.tok 28) 1 (slis x))) (List.append_nil T).symm
      · rintro pre ⟨i, hi⟩ hpre
        have hi' : i < (r.length + 1) / 2 := by have := hi; rwa [arrs_length] at this
        have hpre' : pre.length < (r.length + 1) / 2 := by have := arrs_length r; omega
        by_cases h2 : 2 * i + 2 ≤ r.length
        · have hpa : ∀ q : List (Fin (((arrs r).length + 1) / 2)), (q ++ [(⟨i, hi⟩ : Fin (((arrs r).length + 1) / 2))]).map (fun i : Fin (((arrs r).length + 1) / 2) => textOf (pairAt r i.1)) = q.map (fun i : Fin (((arrs r).length + 1) / 2) => textOf (pairAt r i.1)) ++ [r.getD (2 * i) [] ++ r.getD (2 * i + 1) []] := fun q => by simp [pairAt, h2, textOf]
          have hpb : ∀ q : List (Fin (((arrs r).length + 1) / 2)), (q ++ [(⟨i, hi⟩ : Fin (((arrs r).length + 1) / 2))]).map (fun i : Fin (((arrs r).length + 1) / 2) => joinP (pairAt r i.1)) = q.map (fun i : Fin (((arrs r).length + 1) / 2) => joinP (pairAt r i.1)) ++ [H2 (r.getD (2 * i) []) (r.getD (2 * i + 1) [])] := fun q => by simp [pairAt, h2, joinP]
          simp only [chunk_two r i h2, hpa, hpb]
          have ha := hk2 _ (getD_mem (show 2 * i < r.length by omega))
          have hb := hk2 _ (getD_mem (show 2 * i + 1 < r.length by omega))
          generalize r.getD (2 * i) [] = a at ha
          generalize r.getD (2 * i + 1) [] = b at hb
          simp (config := {dsimp := false}) only [↓vp0, vz, vn, nq, tys, cellD, wideIR, if_true, if_false, implies_true, forall_const, ne_eq, reduceIte, reduceCtorEq, Nat.reduceEqDiff, Nat.reduceAdd, Nat.reduceMul, Nat.reduceLT, Nat.reduceSub, Nat.reduceLeDiff, Nat.reduceBNe, Nat.reduceBEq, Nat.reduceBeqDiff, List.range, List.range.loop, gl0, Tryd.ntmps24, Tryd.results24, arrs_length]
          have hTl : (slis (T ++ pre.map fun i => textOf (pairAt r i.1))).length = n' + pre.length := by rw [slis_length, List.length_append, List.length_map, hT]
          refine drawX [6, 3, 4, 5, 18] [(9, [0, 1, 2, 3, 4, 5, 6, 7, 8, 10]), (10, [0, 1, 2, 3, 4, 5, 6, 7, 8, 9]), (11, [3, 4, 5, 6, 7, 8])] [(11, [96])] (by kernel_rfl) (wild_of rfl) ?_
          simp (config := {dsimp := false}) only [↓vp0, vz, vn, nq, tys, cellD, wideIR, if_true, if_false, implies_true, forall_const, ne_eq, reduceIte, reduceCtorEq, Nat.reduceEqDiff, Nat.reduceAdd, Nat.reduceMul, Nat.reduceLT, Nat.reduceSub, Nat.reduceLeDiff, Nat.reduceBNe, Nat.reduceBEq, Nat.reduceBeqDiff, List.range, List.range.loop, gl0, Tryd.ntmps24, Tryd.results24, vb, ↓vy0, vx0, arrs_length, w21, show Int.toNat 0 = 0 from rfl, show Int.toNat 1 = 1 from rfl, List.getD_cons_zero, List.getD_cons_succ, PF.toR, gives, givesIf, ha, hb, spec_pair, sp_pair, c_pair, b_pair, spec_textsEach, sp_textsEach, c_textsEach, b_textsEach, strips_slis']
          refine ⟨by decide, by decide, by decide, by decide, okUps_of (by kernel_rfl) rfl, okUps_of (by kernel_rfl) rfl, okUps_of (by kernel_rfl) rfl, okUps_all rfl (by kernel_rfl), by first | rw [hTl] | exact hTl.symm.trans (slis_length _), by omega, ⟨_, rfl⟩, ?_⟩
          refine drawI [5, 9] (by kernel_rfl) ?_
          simp (config := {dsimp := false}) only [↓vp0, vz, vn, nq, tys, cellD, wideIR, if_true, if_false, implies_true, forall_const, ne_eq, reduceIte, reduceCtorEq, Nat.reduceEqDiff, Nat.reduceAdd, Nat.reduceMul, Nat.reduceLT, Nat.reduceSub, Nat.reduceLeDiff, Nat.reduceBNe, Nat.reduceBEq, Nat.reduceBeqDiff, List.range, List.range.loop, gl0, Tryd.ntmps24, Tryd.results24, PF.toR, gives, givesIf, List.length_append, ha, hb, spec_twice, sp_twice, c_twice, b_twice, List.foldl_append, List.foldl_cons, List.foldl_nil]
          have hpl : (arrs (pre.map fun i => joinP (pairAt r i.1))).length = pre.length := by rw [arrs_length, List.length_map]
          refine ⟨by rw [hpl], by rw [hpl]; omega, .inr trivial, .inr trivial, by kernel_rfl, by kernel_rfl, ⟨trivial, ⟨?_, Nat.le_of_ble_eq_true rfl, rfl, rfl, Nat.le_of_ble_eq_true rfl, rfl, rfl, Nat.le_of_ble_eq_true rfl, rfl, ?_, Nat.le_of_ble_eq_true rfl, rfl, trivial⟩, ⟨?_, Nat.le_of_ble_eq_true rfl, ?_, Nat.le_of_ble_eq_true rfl, trivial⟩⟩⟩
          · exact congrArg (fun x => some (D.sl (.tok 28) 1 x)) (strips_snoc T _ _)
          · exact congrArg (fun x => some (D.sl (.tok 56) 32 x)) (arrs_append _ [H2 a b])
          · rfl
          · exact congrArg (fun n => some (n + 1, 32)) hpl
        · have h3 : 2 * i + 1 = r.length := by omega
          have hpa : ∀ q : List (Fin (((arrs r).length + 1) / 2)), (q ++ [(⟨i, hi⟩ : Fin (((arrs r).length + 1) / 2))]).map (fun i : Fin (((arrs r).length + 1) / 2) => textOf (pairAt r i.1)) = q.map (fun i : Fin (((arrs r).length + 1) / 2) => textOf (pairAt r i.1)) ++ [r.getD (2 * i) [] ++ r.getD (2 * i) []] := fun q => by simp [pairAt, h2, textOf]
          have hpb : ∀ q : List (Fin (((arrs r).length + 1) / 2)), (q ++ [(⟨i, hi⟩ : Fin (((arrs r).length + 1) / 2))]).map (fun i : Fin (((arrs r).length + 1) / 2) => joinP (pairAt r i.1)) = q.map (fun i : Fin (((arrs r).length + 1) / 2) => joinP (pairAt r i.1)) ++ [H2 (r.getD (2 * i) []) (r.getD (2 * i) [])] := fun q => by simp [pairAt, h2, joinP]
          simp only [chunk_one r i h3, hpa, hpb]
          have ha := hk2 _ (getD_mem (show 2 * i < r.length by omega))
          generalize r.getD (2 * i) [] = a at ha
          simp (config := {dsimp := false}) only [↓vp0, vz, vn, nq, tys, cellD, wideIR, if_true, if_false, implies_true, forall_const, ne_eq, reduceIte, reduceCtorEq, Nat.reduceEqDiff, Nat.reduceAdd, Nat.reduceMul, Nat.reduceLT, Nat.reduceSub, Nat.reduceLeDiff, Nat.reduceBNe, Nat.reduceBEq, Nat.reduceBeqDiff, List.range, List.range.loop, gl0, Tryd.ntmps24, Tryd.results24, arrs_length]
          have hTl : (slis (T ++ pre.map fun i => textOf (pairAt r i.1))).length = n' + pre.length := by rw [slis_length, List.length_append, List.length_map, hT]
          refine drawX [6, 3, 4, 5, 18] [(9, [0, 1, 2, 3, 4, 5, 6, 7, 8, 10]), (10, [0, 1, 2, 3, 4, 5, 6, 7, 8, 9]), (11, [3, 4, 5, 6, 7, 8])] [(11, [96])] (by kernel_rfl) (wild_of rfl) ?_
          simp (config := {dsimp := false}) only [↓vp0, vz, vn, nq, tys, cellD, wideIR, if_true, if_false, implies_true, forall_const, ne_eq, reduceIte, reduceCtorEq, Nat.reduceEqDiff, Nat.reduceAdd, Nat.reduceMul, Nat.reduceLT, Nat.reduceSub, Nat.reduceLeDiff, Nat.reduceBNe, Nat.reduceBEq, Nat.reduceBeqDiff, List.range, List.range.loop, gl0, Tryd.ntmps24, Tryd.results24, vb, ↓vy0, vx0, arrs_length, w10, show Int.toNat 0 = 0 from rfl, show Int.toNat 1 = 1 from rfl, List.getD_cons_zero, List.getD_cons_succ, PF.toR, gives, givesIf, ha, spec_pair, sp_pair, c_pair, b_pair, spec_textsEach, sp_textsEach, c_textsEach, b_textsEach, strips_slis']
          refine ⟨by decide, by decide, by decide, by decide, okUps_of (by kernel_rfl) rfl, okUps_of (by kernel_rfl) rfl, okUps_of (by kernel_rfl) rfl, okUps_all rfl (by kernel_rfl), by first | rw [hTl] | exact hTl.symm.trans (slis_length _), by omega, ⟨_, rfl⟩, ?_⟩
          refine drawI [5, 9] (by kernel_rfl) ?_
          simp (config := {dsimp := false}) only [↓vp0, vz, vn, nq, tys, cellD, wideIR, if_true, if_false, implies_true, forall_const, ne_eq, reduceIte, reduceCtorEq, Nat.reduceEqDiff, Nat.reduceAdd, Nat.reduceMul, Nat.reduceLT, Nat.reduceSub, Nat.reduceLeDiff, Nat.reduceBNe, Nat.reduceBEq, Nat.reduceBeqDiff, List.range, List.range.loop, gl0, Tryd.ntmps24, Tryd.results24, PF.toR, gives, givesIf, List.length_append, ha, spec_twice, sp_twice, c_twice, b_twice, List.foldl_append, List.foldl_cons, List.foldl_nil]
          have hpl : (arrs (pre.map fun i => joinP (pairAt r i.1))).length = pre.length := by rw [arrs_length, List.length_map]
          refine ⟨by rw [hpl], by rw [hpl]; omega, .inr trivial, .inr trivial, by kernel_rfl, by kernel_rfl, ⟨trivial, ⟨?_, Nat.le_of_ble_eq_true rfl, rfl, rfl, Nat.le_of_ble_eq_true rfl, rfl, rfl, Nat.le_of_ble_eq_true rfl, rfl, ?_, Nat.le_of_ble_eq_true rfl, rfl, trivial⟩, ⟨?_, Nat.le_of_ble_eq_true rfl, ?_, Nat.le_of_ble_eq_true rfl, trivial⟩⟩⟩
          · exact congrArg (fun x => some (D.sl (.tok 28) 1 x)) (strips_snoc T _ _)
          · exact congrArg (fun x => some (D.sl (.tok 56) 32 x)) (arrs_append _ [H2 a a])
          · rfl
          · exact congrArg (fun n => some (n + 1, 32)) hpl
      · simp (config := {dsimp := false}) only [↓vp0, vz, vn, nq, tys, cellD, wideIR, if_true, if_false, implies_true, forall_const, ne_eq, reduceIte, reduceCtorEq, Nat.reduceEqDiff, Nat.reduceAdd, Nat.reduceMul, Nat.reduceLT, Nat.reduceSub, Nat.reduceLeDiff, Nat.reduceBNe, Nat.reduceBEq, Nat.reduceBeqDiff, List.range, List.range.loop, gl0, Tryd.ntmps24, Tryd.results24, retB, vb]
        simp only [above_fin r (show ((arrs r).length + 1) / 2 = (r.length + 1) / 2 by rw [arrs_length]), texts_fin r (show ((arrs r).length + 1) / 2 = (r.length + 1) / 2 by rw [arrs_length])]
        subst hr hm' hn'
        refine ⟨⟨k + 1, hkd⟩, ⟨⟨.inr ⟨_, rfl⟩, rfl, wkD_eq rfl, rfl, wkD_eq rfl, rfl, trivial⟩, ⟨?_, Nat.le_of_ble_eq_true rfl, rfl, rfl, Nat.le_of_ble_eq_true rfl, rfl, rfl, Nat.le_of_ble_eq_true rfl, rfl, trivial⟩, ⟨?_, Nat.le_of_ble_eq_true rfl, trivial⟩⟩, by (try simp only); omega⟩
        · exact congrArg (fun b => some (D.sl (.tok 28) 1 (slis b))) (List.map_append ..).symm
        · refine congrArg (fun n => some (n, 1)) ?_
          simp [pairsTo, pairsOf, arrs_length]
    · have h := of_decide_eq_false h
      have h00 := arrs_get (rowAt l k) 0 (List.length_pos_iff.2 (row_pos l hne k))
      simp (config := {dsimp := false}) only [↓vp0, vz, vn, nq, tys, cellD, wideIR, if_true, if_false, implies_true, forall_const, ne_eq, reduceIte, reduceCtorEq, Nat.reduceEqDiff, Nat.reduceAdd, Nat.reduceMul, Nat.reduceLT, Nat.reduceSub, Nat.reduceLeDiff, Nat.reduceBNe, Nat.reduceBEq, Nat.reduceBeqDiff, List.range, List.range.loop, gl0, Tryd.ntmps24, Tryd.results24, retB, vb, h00, show Int.toNat 0 = 0 from rfl]
      have he := row_end hk (by omega)
      have hp := List.length_pos_iff.2 (row_pos l hne k)
      refine ⟨by decide, by omega, [], [28], [], ⟨rfl, rfl⟩, ⟨rfl, rfl⟩, ⟨by simp, by simp⟩, by simp, rfl, ?_, ⟨_, rfl, ?_⟩, ⟨_, rfl, rfl⟩, ?_⟩
      · rw [hs_arrs, allP, ← he]
        rfl
      · rw [hs_arrs, allP, ← he]
        exact congrArg (fun x => [D.sl (.tok 8) 1 x]) (strips_slis' true _)
      · rw [hs_arrs, rootP, if_neg hne, ← he]
        exact id rfl
  case h_4 =>
    exact absurd rfl hv.1.2
  case h_5 =>
    rename_i g m
    subst hv
    refine ⟨by simp, Nat.le_of_ble_eq_true rfl, ?_⟩
    simp (config := {dsimp := false}) only [↓vp0, vz, vn, nq, tys, cellD, wideIR, if_true, if_false, implies_true, forall_const, ne_eq, reduceIte, reduceCtorEq, Nat.reduceEqDiff, Nat.reduceAdd, Nat.reduceMul, Nat.reduceLT, Nat.reduceSub, Nat.reduceLeDiff, Nat.reduceBNe, Nat.reduceBEq, Nat.reduceBeqDiff, List.range, List.range.loop, gl0, Tryd.ntmps24, Tryd.results24, retB, vb, show decide (((0 : Nat) : Int) = 0) = true from rfl]
    exact ⟨[], [], [], ⟨rfl, rfl⟩, ⟨rfl, rfl⟩, ⟨by simp, by simp⟩, by simp, rfl, rfl, ⟨_, rfl, rfl⟩, ⟨_, rfl, rfl⟩, id rfl⟩
end Go.Vi.CD
end

section
/-
  TWO HASHES OF PAIRS, reckoned by the kernel.
-/
namespace Go.Vi
set_option maxRecDepth 100000 in
theorem works_ne : decide (H2 one32 one32 = H2 one32 two32) = false := by kernel_rfl
end Go.Vi
end

section
set_option linter.unusedVariables false
set_option linter.unusedSimpArgs false
set_option maxHeartbeats 0
set_option maxRecDepth 20000
namespace Go.Vi.CD
open Go.Proofs

theorem c_root : Contract E 15 := by
  refine contract_seeT hE hgl (show E.P.funcs[15]? = some Tryd.f15 from Tryd.func15) rfl (p := sp_root) (fun _ _ _ => rfl) ?_
  intro args hv
  unfold sp_root at hv ⊢
  split at hv
  case h_3 => exact hv.elim
  case h_2 =>
    refine ⟨by simp, Nat.le_of_ble_eq_true rfl, ?_⟩
    simp (config := {dsimp := false}) only [↓vp0, vz, vn, nq, tys, cellD, wideIR, if_true, if_false, implies_true, forall_const, ne_eq, reduceIte, reduceCtorEq, Nat.reduceEqDiff, Nat.reduceAdd, Nat.reduceMul, Nat.reduceLT, Nat.reduceSub, Nat.reduceLeDiff, Nat.reduceBNe, Nat.reduceBEq, Nat.reduceBeqDiff, List.range, List.range.loop, gl0, Tryd.ntmps15, Tryd.results15, vb, PF.toR, gives, givesIf, spec_rows, sp_rows, c_rows, b_rows]
    refine drawX [2, 3] [(2, [1])] [(2, [0])] (by kernel_rfl) (wild_of rfl) ?_
    simp (config := {dsimp := false}) only [↓vp0, vz, vn, nq, tys, cellD, wideIR, if_true, if_false, implies_true, forall_const, ne_eq, reduceIte, reduceCtorEq, Nat.reduceEqDiff, Nat.reduceAdd, Nat.reduceMul, Nat.reduceLT, Nat.reduceSub, Nat.reduceLeDiff, Nat.reduceBNe, Nat.reduceBEq, Nat.reduceBeqDiff, List.range, List.range.loop, gl0, Tryd.ntmps15, Tryd.results15, vb, ↓vy0, vx0]
    ((repeat' apply And.intro) <;> first | decide | omega | exact okUps_of (by kernel_rfl) rfl | exact okUps_all rfl (by kernel_rfl) | rfl)
  rename_i es
  refine ⟨by simp, Nat.le_of_ble_eq_true rfl, ?_⟩
  simp only [givesIf] at hv
  obtain ⟨⟨l, rfl, hl⟩, hlen⟩ := hv
  simp (config := {dsimp := false}) only [↓vp0, vz, vn, nq, tys, cellD, wideIR, if_true, if_false, implies_true, forall_const, ne_eq, reduceIte, reduceCtorEq, Nat.reduceEqDiff, Nat.reduceAdd, Nat.reduceMul, Nat.reduceLT, Nat.reduceSub, Nat.reduceLeDiff, Nat.reduceBNe, Nat.reduceBEq, Nat.reduceBeqDiff, List.range, List.range.loop, gl0, Tryd.ntmps15, Tryd.results15, vb, PF.toR, gives, givesIf, spec_rows, sp_rows, c_rows, b_rows, strips_arrs, hs_arrs]
  refine ⟨⟨l, rfl, hl⟩, hlen, ?_⟩
  refine drawX [2, 3] [(2, [1])] [(2, [0])] (by kernel_rfl) (wild_of rfl) ?_
  simp (config := {dsimp := false}) only [↓vp0, vz, vn, nq, tys, cellD, wideIR, if_true, if_false, implies_true, forall_const, ne_eq, reduceIte, reduceCtorEq, Nat.reduceEqDiff, Nat.reduceAdd, Nat.reduceMul, Nat.reduceLT, Nat.reduceSub, Nat.reduceLeDiff, Nat.reduceBNe, Nat.reduceBEq, Nat.reduceBeqDiff, List.range, List.range.loop, gl0, Tryd.ntmps15, Tryd.results15, vb, ↓vy0, vx0]
  exact ⟨okUps_of (by kernel_rfl) rfl, okUps_all rfl (by kernel_rfl), by rw [hs_arrs]; rfl⟩
theorem c_texts : Contract E 21 := by
  refine contract_seeT hE hgl (show E.P.funcs[21]? = some Tryd.f21 from Tryd.func21) rfl (p := sp_texts) (fun _ _ _ => rfl) ?_
  intro args hv
  unfold sp_texts at hv ⊢
  split at hv
  case h_2 => exact hv.elim
  rename_i es
  refine ⟨by simp, Nat.le_of_ble_eq_true rfl, ?_⟩
  simp only [givesIf] at hv
  obtain ⟨⟨l, rfl, hl⟩, hlen⟩ := hv
  by_cases h0 : l = []
  · subst h0
    simp (config := {dsimp := false}) only [↓vp0, vz, vn, nq, tys, cellD, wideIR, if_true, if_false, implies_true, forall_const, ne_eq, reduceIte, reduceCtorEq, Nat.reduceEqDiff, Nat.reduceAdd, Nat.reduceMul, Nat.reduceLT, Nat.reduceSub, Nat.reduceLeDiff, Nat.reduceBNe, Nat.reduceBEq, Nat.reduceBeqDiff, List.range, List.range.loop, gl0, Tryd.ntmps21, Tryd.results21, vb, PF.toR, gives, givesIf, show arrs [] = [] from rfl, spec_rows, sp_rows, c_rows, b_rows]
    rfl
  · obtain ⟨x, r, rfl⟩ : ∃ x r, l = x :: r := by cases l <;> simp at h0 ⊢
    have e0 : hs (arrs (x :: r)) = x :: r := hs_arrs _
    have e1 : arrs (x :: r) = D.arr .u8 32 x :: arrs r := rfl
    rw [e1] at e0 hlen
    simp (config := {dsimp := false}) only [↓vp0, vz, vn, nq, tys, cellD, wideIR, if_true, if_false, implies_true, forall_const, ne_eq, reduceIte, reduceCtorEq, Nat.reduceEqDiff, Nat.reduceAdd, Nat.reduceMul, Nat.reduceLT, Nat.reduceSub, Nat.reduceLeDiff, Nat.reduceBNe, Nat.reduceBEq, Nat.reduceBeqDiff, List.range, List.range.loop, gl0, Tryd.ntmps21, Tryd.results21, vb, PF.toR, gives, givesIf, e1, spec_rows, sp_rows, c_rows, b_rows, strips_arrs, strips_slis', e0]
    rw [textsV_ne h0]
    exact ⟨⟨x :: r, rfl, hl⟩, by simpa using hlen, rfl⟩
end Go.Vi.CD
end

section
set_option linter.unusedVariables false
set_option linter.unusedSimpArgs false
set_option maxHeartbeats 0
set_option maxRecDepth 20000
namespace Go.Vi.CD
open Go.Proofs

theorem wanted_0 {L : List TxP} (h : L.length = 0) : wantedP L = none := by
  obtain rfl := List.eq_nil_of_length_eq_zero h; rfl
theorem wanted_1 {t : TxP} {r : List TxP} (h : ¬ t.ins.length = 1) : wantedP (t :: r) = none := by
  obtain ⟨v, i, o, k⟩ := t
  match i, h with
  | [], _ => rfl
  | [x], h => exact absurd rfl h
  | x :: y :: q, _ => rfl
theorem wanted_2 {t : TxP} {r : List TxP} {x : InP} (h : t.ins = [x]) (h2 : ¬ x.wit.length = 1) : wantedP (t :: r) = none := by
  obtain ⟨v, i, o, k⟩ := t
  obtain rfl : i = [x] := h
  obtain ⟨p, n, s, q, w⟩ := x
  match w, h2 with
  | [], _ => rfl
  | [w], h2 => exact absurd rfl h2
  | w :: y :: q, _ => rfl
theorem wanted_3 {t : TxP} {r : List TxP} {x : InP} {w : List Int} (h : t.ins = [x]) (h2 : x.wit = [w]) : wantedP (t :: r) = if w.length = 32 then some (H2 (rootP (hashesP true (t :: r))) w) else none := by
  obtain ⟨v, i, o, k⟩ := t
  obtain rfl : i = [x] := h
  obtain ⟨p, n, s, q, w⟩ := x
  obtain rfl : w = [_] := h2
  rfl
theorem root_len {l : L2} (h : h32 l) : (rootP l).length = 32 := by
  unfold rootP
  split
  · simp
  · rename_i hne
    exact row_h32 h _ _ (getD_mem (List.length_pos_iff.2 (row_pos l hne _)))
theorem one_of {α : Type} {l : List α} (h : l.length = 1) : ∃ x, l = [x] := List.length_eq_one_iff.1 h
theorem c_gwanted : Contract E 55 := by
  refine contract_seeT hE hgl (show E.P.funcs[55]? = some Tryd.f55 from Tryd.func55) rfl (p := sp_gwanted) (fun _ _ _ => rfl) ?_
  intro args hv
  unfold sp_gwanted at hv ⊢
  split at hv
  case h_2 => exact hv.elim
  rename_i h0 hp hr h1 h2 h3 es
  refine ⟨by simp, Nat.le_of_ble_eq_true rfl, ?_⟩
  simp only [givesIf] at hv
  obtain ⟨hhd, ⟨L, rfl, hok, hl⟩, hlen⟩ := hv
  simp only [txs_D, txsD_length] at hlen ⊢
  have hisL : isTxL (txsD L) := ⟨L, rfl, hok, hl⟩
  by_cases hz : L.length = 0
  · have d0 : decide (((L.length : Nat) : Int) = 0) = true := decide_eq_true (by omega)
    simp (config := {dsimp := false}) only [↓vp0, vz, vn, nq, tys, cellD, wideIR, if_true, if_false, implies_true, forall_const, ne_eq, reduceIte, reduceCtorEq, Nat.reduceEqDiff, Nat.reduceAdd, Nat.reduceMul, Nat.reduceLT, Nat.reduceSub, Nat.reduceLeDiff, Nat.reduceBNe, Nat.reduceBEq, Nat.reduceBeqDiff, List.range, List.range.loop, gl0, Tryd.ntmps55, Tryd.results55, d0, wanted_0 hz, hashV, givesIf]
    all_goals rfl
  have d0 : decide (((L.length : Nat) : Int) = 0) = false := decide_eq_false (by omega)
  obtain ⟨t, r, hL⟩ : ∃ t r, L = t :: r := by cases L with
    | nil => exact absurd rfl hz
    | cons t r => exact ⟨t, r, rfl⟩
  have g0 : (txsD L).getD (Int.toNat 0) .any = txD t := by rw [hL]; rfl
  have ht := hok t (by rw [hL]; exact List.mem_cons_self ..)
  have hmi := ht.mi
  by_cases hi : t.ins.length = 1
  case neg =>
    have d1 : decide (((t.ins.length : Nat) : Int) = 1) = false := decide_eq_false (by omega)
    have hw : wantedP L = none := by rw [hL]; exact wanted_1 hi
    simp (config := {dsimp := false}) only [↓vp0, vz, vn, nq, tys, cellD, wideIR, if_true, if_false, implies_true, forall_const, ne_eq, reduceIte, reduceCtorEq, Nat.reduceEqDiff, Nat.reduceAdd, Nat.reduceMul, Nat.reduceLT, Nat.reduceSub, Nat.reduceLeDiff, Nat.reduceBNe, Nat.reduceBEq, Nat.reduceBeqDiff, List.range, List.range.loop, gl0, Tryd.ntmps55, Tryd.results55, d0, d1, g0, txD, hw, hashV, givesIf]
    (repeat' apply And.intro) <;> first | exact Int.le_refl _ | omega | rfl
  have d1 : decide (((t.ins.length : Nat) : Int) = 1) = true := decide_eq_true (by omega)
  obtain ⟨x, hx⟩ := one_of hi
  have g1 : (insD t.ins).getD (Int.toNat 0) .any = inD x := by rw [hx]; rfl
  have hxo := ht.ins x (by rw [hx]; exact List.mem_cons_self ..)
  have hmw := hxo.many
  by_cases hwl : x.wit.length = 1
  case neg =>
    have d2 : decide (((x.wit.length : Nat) : Int) = 1) = false := decide_eq_false (by omega)
    have hw : wantedP L = none := by rw [hL]; exact wanted_2 hx hwl
    simp (config := {dsimp := false}) only [↓vp0, vz, vn, nq, tys, cellD, wideIR, if_true, if_false, implies_true, forall_const, ne_eq, reduceIte, reduceCtorEq, Nat.reduceEqDiff, Nat.reduceAdd, Nat.reduceMul, Nat.reduceLT, Nat.reduceSub, Nat.reduceLeDiff, Nat.reduceBNe, Nat.reduceBEq, Nat.reduceBeqDiff, List.range, List.range.loop, gl0, Tryd.ntmps55, Tryd.results55, d0, d1, d2, g0, g1, txD, inD, hw, hashV, givesIf]
    (repeat' apply And.intro) <;> first | exact Int.le_refl _ | omega | rfl
  have d2 : decide (((x.wit.length : Nat) : Int) = 1) = true := decide_eq_true (by omega)
  obtain ⟨w, hw⟩ := one_of hwl
  have g2 : (slis x.wit).getD (Int.toNat 0) .any = .sli .no .u8 w := by rw [hw]; rfl
  have hwo := (hxo.wit w (by rw [hw]; exact List.mem_cons_self ..)).2
  have hW : wantedP L = if w.length = 32 then some (H2 (rootP (hashesP true L)) w) else none := by rw [hL]; exact wanted_3 hx hw
  by_cases h32' : w.length = 32
  case neg =>
    have d3 : decide (((w.length : Nat) : Int) = 32) = false := decide_eq_false (by omega)
    rw [if_neg h32'] at hW
    simp (config := {dsimp := false}) only [↓vp0, vz, vn, nq, tys, cellD, wideIR, if_true, if_false, implies_true, forall_const, ne_eq, reduceIte, reduceCtorEq, Nat.reduceEqDiff, Nat.reduceAdd, Nat.reduceMul, Nat.reduceLT, Nat.reduceSub, Nat.reduceLeDiff, Nat.reduceBNe, Nat.reduceBEq, Nat.reduceBeqDiff, List.range, List.range.loop, gl0, Tryd.ntmps55, Tryd.results55, d0, d1, d2, d3, g0, g1, g2, txD, inD, hW, hashV, givesIf]
    (repeat' apply And.intro) <;> first | exact Int.le_refl _ | omega | rfl
  have d3 : decide (((w.length : Nat) : Int) = 32) = true := decide_eq_true (by omega)
  rw [if_pos h32'] at hW
  have tw : w.take 32 = w := List.take_of_length_le (by omega)
  have hrl : (rootP (hashesP true L)).length = 32 := root_len (hashes_32 true L)
  simp (config := {dsimp := false}) only [↓vp0, vz, vn, nq, tys, cellD, wideIR, if_true, if_false, implies_true, forall_const, ne_eq, reduceIte, reduceCtorEq, Nat.reduceEqDiff, Nat.reduceAdd, Nat.reduceMul, Nat.reduceLT, Nat.reduceSub, Nat.reduceLeDiff, Nat.reduceBNe, Nat.reduceBEq, Nat.reduceBeqDiff, List.range, List.range.loop, gl0, Tryd.ntmps55, Tryd.results55, PF.toR, d0, d1, d2, d3, g0, g1, g2, txD, inD, hW, hashV, givesIf, strips_arrs, hs_arrs, spec_fulls, sp_fulls, c_fulls, b_fulls, spec_root, sp_root, c_root, b_root]
  refine ⟨Int.le_refl _, by omega, Int.le_refl _, by omega, Int.le_refl _, by omega, Int.le_refl _, by omega, hhd, hisL, by omega, ⟨_, rfl, hashes_32 true L⟩, by rw [arrs_length, hashes_len]; omega, ?_⟩
  refine drawI [2, 4, 5] (by kernel_rfl) ?_
  simp (config := {dsimp := false}) only [↓vp0, vz, vn, nq, tys, cellD, wideIR, if_true, if_false, implies_true, forall_const, ne_eq, reduceIte, reduceCtorEq, Nat.reduceEqDiff, Nat.reduceAdd, Nat.reduceMul, Nat.reduceLT, Nat.reduceSub, Nat.reduceLeDiff, Nat.reduceBNe, Nat.reduceBEq, Nat.reduceBeqDiff, List.range, List.range.loop, gl0, Tryd.ntmps55, Tryd.results55, PF.toR, g2, hrl, h32', tw, givesIf, spec_pair, sp_pair, c_pair, b_pair, spec_twice, sp_twice, c_twice, b_twice]
  refine ⟨Int.le_refl _, by omega, by rw [List.length_append, hrl, h32']; decide, by kernel_rfl, ?_⟩
  rw [hW]; rfl
end Go.Vi.CD
end

section
set_option linter.unusedVariables false
set_option linter.unusedSimpArgs false
set_option maxHeartbeats 0
set_option maxRecDepth 20000
namespace Go.Vi.CD
open Go.Proofs

theorem c_coinbase : Contract E 36 := by
  refine contract_seeT hE hgl (show E.P.funcs[36]? = some Tryd.f36 from Tryd.func36) rfl (p := sp_coinbase) (fun _ _ _ => rfl) ?_
  intro args hv
  unfold sp_coinbase at hv ⊢
  split at hv
  case h_2 => exact hv.elim
  rename_i h0 hp hr h1 h2 h3 es
  refine ⟨by simp, Nat.le_of_ble_eq_true rfl, ?_⟩
  simp only [givesIf] at hv
  obtain ⟨hhd, ⟨l, rfl, hok, hl⟩, hlen⟩ := hv
  simp only [txs_D, txsD_length] at hlen ⊢
  have hru : ruleP 0 l hr = coinP l := rfl
  rw [hru]
  cases l with
  | nil =>
    simp (config := {dsimp := false}) only [↓vp0, vz, vn, nq, tys, cellD, wideIR, if_true, if_false, implies_true, forall_const, ne_eq, reduceIte, reduceCtorEq, Nat.reduceEqDiff, Nat.reduceAdd, Nat.reduceMul, Nat.reduceLT, Nat.reduceSub, Nat.reduceLeDiff, Nat.reduceBNe, Nat.reduceBEq, Nat.reduceBeqDiff, List.range, List.range.loop, gl0, Tryd.ntmps36, Tryd.results36, show txsD [] = [] from rfl, show decide (((0 : Nat) : Int) = 0) = true from rfl, coinP, givesIf]
    all_goals rfl
  | cons t r =>
    have ht := hok t (List.mem_cons_self ..)
    have ha := anyT_tx ht.any
    have d0 : decide (((r.length + 1 : Nat) : Int) = 0) = false := decide_eq_false (by omega)
    have hcp : coinP (t :: r) = ((baseP t && !r.any baseP) && (decide (2 ≤ (t.ins.getD 0 default).script.length) && decide ((t.ins.getD 0 default).script.length ≤ 100))) := rfl
    rw [hcp]
    have hpr : predOf 10 39 41 18 10 = baseP := rfl
    cases hb : baseP t
    · simp (config := {dsimp := false}) only [↓vp0, vz, vn, nq, tys, cellD, wideIR, if_true, if_false, implies_true, forall_const, ne_eq, reduceIte, reduceCtorEq, Nat.reduceEqDiff, Nat.reduceAdd, Nat.reduceMul, Nat.reduceLT, Nat.reduceSub, Nat.reduceLeDiff, Nat.reduceBNe, Nat.reduceBEq, Nat.reduceBeqDiff, List.range, List.range.loop, gl0, Tryd.ntmps36, Tryd.results36, PF.toR, givesIf, show txsD (t :: r) = txD t :: txsD r from rfl, txD, d0, tx_eta, hb, show Int.toNat 0 = 0 from rfl, List.getD_cons_zero, spec_cbase, sp_cbase, c_cbase, b_cbase, spec_none, sp_none, c_none, b_none]
      exact ⟨Int.le_refl _, by omega, ha⟩
    have hdl : ∀ d : D, List.drop (Int.toNat 1) (List.take (((r.length + 1 : Nat) : Int)).toNat (d :: txsD r)) = txsD r := fun d => by
      rw [Int.toNat_natCast, List.take_of_length_le (by rw [List.length_cons, txsD_length]; exact Nat.le_refl _)]; rfl
    have hTx : isTxL (txsD r) := ⟨r, rfl, fun x hx => hok x (List.mem_cons_of_mem _ hx), by simp only [List.length_cons] at hl; omega⟩
    cases hn : r.any baseP
    case true =>
      simp (config := {dsimp := false}) only [↓vp0, vz, vn, nq, tys, cellD, wideIR, if_true, if_false, implies_true, forall_const, ne_eq, reduceIte, reduceCtorEq, Nat.reduceEqDiff, Nat.reduceAdd, Nat.reduceMul, Nat.reduceLT, Nat.reduceSub, Nat.reduceLeDiff, Nat.reduceBNe, Nat.reduceBEq, Nat.reduceBeqDiff, List.range, List.range.loop, gl0, Tryd.ntmps36, Tryd.results36, PF.toR, givesIf, show txsD (t :: r) = txD t :: txsD r from rfl, txD, d0, tx_eta, hb, hn, hpr, hdl, txs_D, show Int.toNat 0 = 0 from rfl, List.getD_cons_zero, spec_cbase, sp_cbase, c_cbase, b_cbase, spec_none, sp_none, c_none, b_none]
      exact ⟨Int.le_refl _, by omega, ha, by omega, by omega, by omega, .inr trivial, .inl rfl, hTx⟩
    obtain ⟨tv, ti, to, tl⟩ := t
    obtain ⟨x, rfl⟩ : ∃ x, ti = [x] := by
      unfold baseP at hb
      split at hb
      · exact ⟨_, by assumption⟩
      · cases hb
    have hsl := (ht.ins x (List.mem_cons_self ..)).script.2
    have hix : ins [D.agg [D.agg [D.arr .u8 32 x.prev, .int .u32 x.ix], .sli .no .u8 x.script, .int .u32 x.seq, .sl .no 1 (slis x.wit)]] = [x] := ins_D [x]
    have d2 : decide ((2 : Int) ≤ ((x.script.length : Nat) : Int)) = decide (2 ≤ x.script.length) := decide_eq_decide.2 (by omega)
    have d3 : decide (((x.script.length : Nat) : Int) ≤ 100) = decide (x.script.length ≤ 100) := decide_eq_decide.2 (by omega)
    cases h2 : decide (2 ≤ x.script.length) <;> cases h3 : decide (x.script.length ≤ 100)
    all_goals simp (config := {dsimp := false}) only [↓vp0, vz, vn, nq, tys, cellD, wideIR, if_true, if_false, implies_true, forall_const, ne_eq, reduceIte, reduceCtorEq, Nat.reduceEqDiff, Nat.reduceAdd, Nat.reduceMul, Nat.reduceLT, Nat.reduceSub, Nat.reduceLeDiff, Nat.reduceBNe, Nat.reduceBEq, Nat.reduceBeqDiff, List.range, List.range.loop, gl0, Tryd.ntmps36, Tryd.results36, PF.toR, givesIf, show txsD (⟨tv, [x], to, tl⟩ :: r) = txD ⟨tv, [x], to, tl⟩ :: txsD r from rfl, txD, d0, hix, outs_D, hb, hn, hpr, hdl, txs_D, d2, d3, h2, h3, show insD [x] = [inD x] from rfl, inD, show Int.toNat 0 = 0 from rfl, List.getD_cons_zero, spec_cbase, sp_cbase, c_cbase, b_cbase, spec_none, sp_none, c_none, b_none]
    all_goals exact ⟨Int.le_refl _, by omega, ha, by omega, by omega, by omega, .inr trivial, .inl rfl, hTx, Int.le_refl _, by omega, Int.le_refl _, by decide⟩
theorem c_rule1 : Contract E 37 := by
  refine contract_seeT hE hgl (show E.P.funcs[37]? = some Tryd.f37 from Tryd.func37) rfl (p := sp_rule1) (fun _ _ _ => rfl) ?_
  intro args hv
  unfold sp_rule1 at hv ⊢
  split at hv
  case h_2 => exact hv.elim
  rename_i h0 hp hr h1 h2 h3 es
  refine ⟨by simp, Nat.le_of_ble_eq_true rfl, ?_⟩
  simp only [givesIf] at hv
  obtain ⟨hhd, ⟨l, rfl, hok, hl⟩, hlen⟩ := hv
  simp only [txs_D, txsD_length] at hlen ⊢
  have hpr : predOf 10 39 41 18 39 = doubleP := rfl
  simp (config := {dsimp := false}) only [↓vp0, vz, vn, nq, tys, cellD, wideIR, if_true, if_false, implies_true, forall_const, ne_eq, reduceIte, reduceCtorEq, Nat.reduceEqDiff, Nat.reduceAdd, Nat.reduceMul, Nat.reduceLT, Nat.reduceSub, Nat.reduceLeDiff, Nat.reduceBNe, Nat.reduceBEq, Nat.reduceBeqDiff, List.range, List.range.loop, gl0, Tryd.ntmps37, Tryd.results37, PF.toR, givesIf, hpr, txs_D, ruleP, spec_none, sp_none, c_none, b_none]
  exact ⟨.inr (.inl rfl), l, rfl, hok, hl⟩
theorem c_rule2 : Contract E 40 := by
  refine contract_seeT hE hgl (show E.P.funcs[40]? = some Tryd.f40 from Tryd.func40) rfl (p := sp_rule2) (fun _ _ _ => rfl) ?_
  intro args hv
  unfold sp_rule2 at hv ⊢
  split at hv
  case h_2 => exact hv.elim
  rename_i h0 hp hr h1 h2 h3 es
  refine ⟨by simp, Nat.le_of_ble_eq_true rfl, ?_⟩
  simp only [givesIf] at hv
  obtain ⟨hhd, ⟨l, rfl, hok, hl⟩, hlen⟩ := hv
  simp only [txs_D, txsD_length] at hlen ⊢
  have hpr : predOf 10 39 41 18 41 = badP := rfl
  simp (config := {dsimp := false}) only [↓vp0, vz, vn, nq, tys, cellD, wideIR, if_true, if_false, implies_true, forall_const, ne_eq, reduceIte, reduceCtorEq, Nat.reduceEqDiff, Nat.reduceAdd, Nat.reduceMul, Nat.reduceLT, Nat.reduceSub, Nat.reduceLeDiff, Nat.reduceBNe, Nat.reduceBEq, Nat.reduceBeqDiff, List.range, List.range.loop, gl0, Tryd.ntmps40, Tryd.results40, PF.toR, givesIf, hpr, txs_D, ruleP, spec_none, sp_none, c_none, b_none]
  exact ⟨.inr (.inr (.inl rfl)), l, rfl, hok, hl⟩
theorem c_rule3 : Contract E 42 := by
  refine contract_seeT hE hgl (show E.P.funcs[42]? = some Tryd.f42 from Tryd.func42) rfl (p := sp_rule3) (fun _ _ _ => rfl) ?_
  intro args hv
  unfold sp_rule3 at hv ⊢
  split at hv
  case h_2 => exact hv.elim
  rename_i h0 hp hr h1 h2 h3 es
  refine ⟨by simp, Nat.le_of_ble_eq_true rfl, ?_⟩
  simp only [givesIf] at hv
  obtain ⟨hhd, ⟨l, rfl, hok, hl⟩, hlen⟩ := hv
  simp only [txs_D, txsD_length] at hlen ⊢
  simp (config := {dsimp := false}) only [↓vp0, vz, vn, nq, tys, cellD, wideIR, if_true, if_false, implies_true, forall_const, ne_eq, reduceIte, reduceCtorEq, Nat.reduceEqDiff, Nat.reduceAdd, Nat.reduceMul, Nat.reduceLT, Nat.reduceSub, Nat.reduceLeDiff, Nat.reduceBNe, Nat.reduceBEq, Nat.reduceBeqDiff, List.range, List.range.loop, gl0, Tryd.ntmps42, Tryd.results42, PF.toR, gives, givesIf, txs_D, strips_arrs, hs_arrs, ruleP, idsP, spec_ids, sp_ids, c_ids, b_ids, spec_root, sp_root, c_root, b_root]
  exact ⟨hhd, ⟨l, rfl, hok, hl⟩, by omega, ⟨_, rfl, hashes_32 _ _⟩, by rw [arrs_length, hashes_len]; exact Nat.le_of_lt hlen, rfl⟩
theorem c_rule4 : Contract E 43 := by
  refine contract_seeT hE hgl (show E.P.funcs[43]? = some Tryd.f43 from Tryd.func43) rfl (p := sp_rule4) (fun _ _ _ => rfl) ?_
  intro args hv
  unfold sp_rule4 at hv ⊢
  split at hv
  case h_2 => exact hv.elim
  rename_i h0 hp hr h1 h2 h3 es
  refine ⟨by simp, Nat.le_of_ble_eq_true rfl, ?_⟩
  simp only [givesIf] at hv
  obtain ⟨hhd, ⟨l, rfl, hok, hl⟩, hlen⟩ := hv
  simp only [txs_D, txsD_length] at hlen ⊢
  simp (config := {dsimp := false}) only [↓vp0, vz, vn, nq, tys, cellD, wideIR, if_true, if_false, implies_true, forall_const, ne_eq, reduceIte, reduceCtorEq, Nat.reduceEqDiff, Nat.reduceAdd, Nat.reduceMul, Nat.reduceLT, Nat.reduceSub, Nat.reduceLeDiff, Nat.reduceBNe, Nat.reduceBEq, Nat.reduceBeqDiff, List.range, List.range.loop, gl0, Tryd.ntmps43, Tryd.results43, PF.toR, gives, givesIf, txs_D, strips_arrs, hs_arrs, ruleP, idsP, spec_ids, sp_ids, c_ids, b_ids, spec_root, sp_root, c_root, b_root]
  exact ⟨hhd, ⟨l, rfl, hok, hl⟩, by omega, ⟨_, rfl, hashes_32 _ _⟩, by rw [arrs_length, hashes_len]; exact Nat.le_of_lt hlen⟩
theorem c_cwitnessed : Contract E 44 := by
  refine contract_seeT hE hgl (show E.P.funcs[44]? = some Tryd.f44 from Tryd.func44) rfl (p := sp_cwitnessed) (fun _ _ _ => rfl) ?_
  intro args hv
  unfold sp_cwitnessed at hv ⊢
  split at hv
  case h_2 => exact hv.elim
  rename_i h0 hp hr h1 h2 h3 es
  refine ⟨by simp, Nat.le_of_ble_eq_true rfl, ?_⟩
  simp only [givesIf] at hv
  obtain ⟨hhd, ⟨l, rfl, hok, hl⟩, hlen⟩ := hv
  simp only [txs_D, txsD_length] at hlen ⊢
  have hru : ruleP 5 l hr = witP l := rfl
  rw [hru]
  have hTx : isTxL (txsD l) := ⟨l, rfl, hok, hl⟩
  have hpr : predOf 10 39 41 18 18 = witnessedP := rfl
  cases hc : commitP l with
  | none =>
    have hw : witP l = !l.any witnessedP := by unfold witP; rw [hc]
    simp (config := {dsimp := false}) only [↓vp0, vz, vn, nq, tys, cellD, wideIR, if_true, if_false, implies_true, forall_const, ne_eq, reduceIte, reduceCtorEq, Nat.reduceEqDiff, Nat.reduceAdd, Nat.reduceMul, Nat.reduceLT, Nat.reduceSub, Nat.reduceLeDiff, Nat.reduceBNe, Nat.reduceBEq, Nat.reduceBeqDiff, List.range, List.range.loop, gl0, Tryd.ntmps44, Tryd.results44, PF.toR, givesIf, txs_D, hashV, hc, hpr, hw, spec_gcommit, sp_gcommit, c_gcommit, b_gcommit, spec_none, sp_none, c_none, b_none]
    exact ⟨hhd, hTx, .inr (.inr (.inr rfl)), hTx⟩
  | some h =>
    cases hg : wantedP l with
    | none =>
      have hw : witP l = false := by unfold witP; rw [hc]; simp only []; rw [hg]
      simp (config := {dsimp := false}) only [↓vp0, vz, vn, nq, tys, cellD, wideIR, if_true, if_false, implies_true, forall_const, ne_eq, reduceIte, reduceCtorEq, Nat.reduceEqDiff, Nat.reduceAdd, Nat.reduceMul, Nat.reduceLT, Nat.reduceSub, Nat.reduceLeDiff, Nat.reduceBNe, Nat.reduceBEq, Nat.reduceBeqDiff, List.range, List.range.loop, gl0, Tryd.ntmps44, Tryd.results44, PF.toR, givesIf, txs_D, hashV, hc, hg, hw, spec_gcommit, sp_gcommit, c_gcommit, b_gcommit, spec_gwanted, sp_gwanted, c_gwanted, b_gwanted]
      exact ⟨hhd, hTx, hhd, hTx, hlen⟩
    | some w =>
      have hw : witP l = decide (w = h) := by unfold witP; rw [hc]; simp only []; rw [hg]
      simp (config := {dsimp := false}) only [↓vp0, vz, vn, nq, tys, cellD, wideIR, if_true, if_false, implies_true, forall_const, ne_eq, reduceIte, reduceCtorEq, Nat.reduceEqDiff, Nat.reduceAdd, Nat.reduceMul, Nat.reduceLT, Nat.reduceSub, Nat.reduceLeDiff, Nat.reduceBNe, Nat.reduceBEq, Nat.reduceBeqDiff, List.range, List.range.loop, gl0, Tryd.ntmps44, Tryd.results44, PF.toR, givesIf, txs_D, hashV, hc, hg, hw, spec_gcommit, sp_gcommit, c_gcommit, b_gcommit, spec_gwanted, sp_gwanted, c_gwanted, b_gwanted]
      exact ⟨hhd, hTx, hhd, hTx, hlen⟩
end Go.Vi.CD
end

section
set_option linter.unusedVariables false
set_option linter.unusedSimpArgs false
namespace Go.Proofs
open Go.RowKit Go.Shelf Go.Vi
attribute [local go_sem] Oper.semAt_some
theorem heap_allocR (w : World) (o : Obj) : (w.alloc o).heap = w.heap.push o := rfl
theorem row_newerR {g : Gh} {w w' : World} {b : Nat} {cells : Array Value} {ty : TypeId} (hb : w.heap.size ≤ b) (hg : w'.heap[b]? = some (.cells cells ty (0, 0))) (G : Gh) (hG : G.lim = (g.newer w w').lim) : Row G w' (some ⟨b, 0, none⟩) cells.toList := by
  intro hne
  refine ⟨b, 0, rfl, ?_, ?_⟩
  · rw [hG]
    have : ¬ b < w.heap.size := by omega
    simp only [Gh.newer, this, if_false, rowSize, hg]
    simp
  · intro i v hv
    rw [cell_of_row w' b _ cells ty (0, 0) hg]
    simpa using hv
theorem row_nilR (G : Gh) (w : World) : Row G w none [] := fun h => absurd rfl h
set_option maxRecDepth 100000 in
set_option maxHeartbeats 2000000 in
theorem Tryd.rules_k (g : Gh) (w : World) : Calls Tryd.prog 23 #[] w fun e w' => ∃ v, e = .returned v ∧ Rep (g.newer w w') w' (rulesD .no 36 37 40 42 43 44) v ∧ Below w.heap.size w w' := by
  refine calls_of_wp Tryd.func23 rfl ?_
  simp only [Tryd.ntmps23, List.size_toArray, List.length_cons, List.length_nil, Nat.reduceAdd, Nat.reduceSub, Array.replicate_succ, Array.replicate_zero, List.push_toArray, List.append_toArray, List.nil_append, List.cons_append]
  go_wp2
  go_ret
  refine ⟨_, rfl, ?_, ?_⟩
  · generalize hW : World.alloc _ _ = W'
    have h2 : W'.heap[w.heap.size]? = some (.cells #[.func (.func 36) #[] #[], .int .i64 23, .func (.func 37) #[] #[], .int .i64 24, .func (.func 40) #[] #[], .int .i64 32, .func (.func 42) #[] #[], .int .i64 20, .func (.func 43) #[] #[], .int .i64 21, .func (.func 44) #[] #[], .int .i64 22] 63 (0, 0)) := by
      rw [← hW]; exact World.alloc_heap_new w _
    refine ⟨_, 6, _, rfl, Nat.le_refl _, ?_, row_newerR (Nat.le_refl _) h2 _ rfl, trivial⟩
    refine ⟨[_, _], _, rfl, rfl, ⟨[_], [_], rfl, ⟨[], rfl, rfl⟩, [_], [], rfl, rfl, rfl⟩, ?_⟩
    refine ⟨[_, _], _, rfl, rfl, ⟨[_], [_], rfl, ⟨[], rfl, rfl⟩, [_], [], rfl, rfl, rfl⟩, ?_⟩
    refine ⟨[_, _], _, rfl, rfl, ⟨[_], [_], rfl, ⟨[], rfl, rfl⟩, [_], [], rfl, rfl, rfl⟩, ?_⟩
    refine ⟨[_, _], _, rfl, rfl, ⟨[_], [_], rfl, ⟨[], rfl, rfl⟩, [_], [], rfl, rfl, rfl⟩, ?_⟩
    refine ⟨[_, _], _, rfl, rfl, ⟨[_], [_], rfl, ⟨[], rfl, rfl⟩, [_], [], rfl, rfl, rfl⟩, ?_⟩
    refine ⟨[_, _], [], rfl, rfl, ⟨[_], [_], rfl, ⟨[], rfl, rfl⟩, [_], [], rfl, rfl, rfl⟩, rfl⟩
  · exact (Below.refl _ _).alloc (Nat.le_refl _) _
end Go.Proofs
namespace Go.Vi.CD
open Go.Proofs Go.RowKit
theorem c_rules : Contract E 23 := by
  refine contract_callsT (p := sp_rules 36 37 40 42 43 44) (fun _ _ _ => rfl) fun xs hv g w vs _ hr => ?_
  unfold sp_rules at hv ⊢
  split at hv
  case h_2 => exact hv.elim
  obtain rfl : vs = [] := hr
  exact Tryd.rules_k g w
end Go.Vi.CD
end

section
set_option linter.unusedVariables false
set_option linter.unusedSimpArgs false
set_option maxHeartbeats 0
set_option maxRecDepth 20000
namespace Go.Vi.CD
open Go.Proofs

theorem c_cblock : Contract E 14 := by
  refine contract_seeT hE hgl (show E.P.funcs[14]? = some Tryd.f14 from Tryd.func14) rfl (p := sp_cblock) (fun _ _ _ => rfl) ?_
  intro args hv
  unfold sp_cblock at hv ⊢
  split at hv
  case h_2 => exact hv.elim
  rename_i h0 hp hr h1 h2 h3 es
  refine ⟨by simp, Nat.le_of_ble_eq_true rfl, ?_⟩
  simp only [givesIf] at hv
  obtain ⟨hhd, ⟨l, rfl, hok, hl⟩, hlen⟩ := hv
  simp only [txs_D, txsD_length] at hlen ⊢
  have hTx : isTxL (txsD l) := ⟨l, rfl, hok, hl⟩
  simp (config := {dsimp := false}) only [↓vp0, vz, vn, nq, tys, cellD, wideIR, if_true, if_false, implies_true, forall_const, ne_eq, reduceIte, reduceCtorEq, Nat.reduceEqDiff, Nat.reduceAdd, Nat.reduceMul, Nat.reduceLT, Nat.reduceSub, Nat.reduceLeDiff, Nat.reduceBNe, Nat.reduceBEq, Nat.reduceBeqDiff, List.range, List.range.loop, gl0, Tryd.ntmps14, Tryd.results14, PF.toR, gives, rulesD, spec_rules, sp_rules, c_rules, b_rules]
  refine loopI {k : Nat // k ≤ 6 ∧ ∀ j, j < k → ruleP j l hr = true} (fun k => [(7, .int .i64 (k.1 : Nat)), (6, .int .i64 (6 : Nat)), (5, rulesD .no 36 37 40 42 43 44), (1, .bp 0 0)]) (fun _ => ⟨[(0, .agg [.agg [.int .u32 h0, .arr .u8 32 hp, .arr .u8 32 hr, .int .u32 h1, .int .u32 h2, .int .u32 h3], .sl .no 4 (txsD l)])], [], 20⟩) (fun k => 6 - k.1) ⟨0, by simp⟩ (fun _ => rfl) ?_ ?_
  · exact ⟨⟨wkD_eq rfl, rfl, wkD_eq rfl, rfl, wkD_eq rfl, rfl, wkD_eq rfl, rfl, trivial⟩, ⟨rfl, Nat.le_of_ble_eq_true rfl, rfl, trivial⟩, trivial⟩
  rintro ⟨k, hk, hb⟩
  by_cases h6 : k = 6
  · subst h6
    simp (config := {dsimp := false}) only [↓vp0, vz, vn, nq, tys, cellD, wideIR, if_true, if_false, implies_true, forall_const, ne_eq, reduceIte, reduceCtorEq, Nat.reduceEqDiff, Nat.reduceAdd, Nat.reduceMul, Nat.reduceLT, Nat.reduceSub, Nat.reduceLeDiff, Nat.reduceBNe, Nat.reduceBEq, Nat.reduceBeqDiff, List.range, List.range.loop, gl0, Tryd.ntmps14, Tryd.results14, show decide (((6 : Nat) : Int) < ((6 : Nat) : Int)) = false from rfl, block_yes hb, givesIf]
  rcases (by omega : k = 0 ∨ k = 1 ∨ k = 2 ∨ k = 3 ∨ k = 4 ∨ k = 5) with rfl | rfl | rfl | rfl | rfl | rfl
  · cases hc : ruleP 0 l hr
    · have hn := block_no (by decide) hb hc
      simp (config := {dsimp := false}) only [↓vp0, vz, vn, nq, tys, cellD, wideIR, if_true, if_false, implies_true, forall_const, ne_eq, reduceIte, reduceCtorEq, Nat.reduceEqDiff, Nat.reduceAdd, Nat.reduceMul, Nat.reduceLT, Nat.reduceSub, Nat.reduceLeDiff, Nat.reduceBNe, Nat.reduceBEq, Nat.reduceBeqDiff, List.range, List.range.loop, gl0, Tryd.ntmps14, Tryd.results14, PF.toR, givesIf, rulesD, show decide (((0 : Nat) : Int) < ((6 : Nat) : Int)) = true from rfl, show Int.toNat (((0 : Nat) : Int)) = 0 from rfl, List.getD_cons_zero, List.getD_cons_succ, txs_D, hc, hn, ruleE, spec_coinbase, sp_coinbase, c_coinbase, b_coinbase]
      exact ⟨by decide, by decide, hhd, hTx, hlen⟩
    · simp (config := {dsimp := false}) only [↓vp0, vz, vn, nq, tys, cellD, wideIR, if_true, if_false, implies_true, forall_const, ne_eq, reduceIte, reduceCtorEq, Nat.reduceEqDiff, Nat.reduceAdd, Nat.reduceMul, Nat.reduceLT, Nat.reduceSub, Nat.reduceLeDiff, Nat.reduceBNe, Nat.reduceBEq, Nat.reduceBeqDiff, List.range, List.range.loop, gl0, Tryd.ntmps14, Tryd.results14, PF.toR, givesIf, rulesD, show decide (((0 : Nat) : Int) < ((6 : Nat) : Int)) = true from rfl, show Int.toNat (((0 : Nat) : Int)) = 0 from rfl, List.getD_cons_zero, List.getD_cons_succ, txs_D, hc, spec_coinbase, sp_coinbase, c_coinbase, b_coinbase]
      refine ⟨by decide, by decide, hhd, hTx, hlen, ⟨1, by decide, fun j hj => ?_⟩, ⟨⟨wkD_eq rfl, rfl, wkD_eq rfl, rfl, wkD_eq rfl, rfl, wkD_eq rfl, rfl, trivial⟩, ⟨rfl, Nat.le_of_ble_eq_true rfl, rfl, trivial⟩, trivial⟩, by (try simp only); omega⟩
      rcases Nat.lt_or_ge j 0 with h7 | h7
      · exact hb j h7
      · obtain rfl : j = 0 := by omega
        exact hc
  · cases hc : ruleP 1 l hr
    · have hn := block_no (by decide) hb hc
      simp (config := {dsimp := false}) only [↓vp0, vz, vn, nq, tys, cellD, wideIR, if_true, if_false, implies_true, forall_const, ne_eq, reduceIte, reduceCtorEq, Nat.reduceEqDiff, Nat.reduceAdd, Nat.reduceMul, Nat.reduceLT, Nat.reduceSub, Nat.reduceLeDiff, Nat.reduceBNe, Nat.reduceBEq, Nat.reduceBeqDiff, List.range, List.range.loop, gl0, Tryd.ntmps14, Tryd.results14, PF.toR, givesIf, rulesD, show decide (((1 : Nat) : Int) < ((6 : Nat) : Int)) = true from rfl, show Int.toNat (((1 : Nat) : Int)) = 1 from rfl, List.getD_cons_zero, List.getD_cons_succ, txs_D, hc, hn, ruleE, spec_rule1, sp_rule1, c_rule1, b_rule1]
      exact ⟨by decide, by decide, hhd, hTx, hlen⟩
    · simp (config := {dsimp := false}) only [↓vp0, vz, vn, nq, tys, cellD, wideIR, if_true, if_false, implies_true, forall_const, ne_eq, reduceIte, reduceCtorEq, Nat.reduceEqDiff, Nat.reduceAdd, Nat.reduceMul, Nat.reduceLT, Nat.reduceSub, Nat.reduceLeDiff, Nat.reduceBNe, Nat.reduceBEq, Nat.reduceBeqDiff, List.range, List.range.loop, gl0, Tryd.ntmps14, Tryd.results14, PF.toR, givesIf, rulesD, show decide (((1 : Nat) : Int) < ((6 : Nat) : Int)) = true from rfl, show Int.toNat (((1 : Nat) : Int)) = 1 from rfl, List.getD_cons_zero, List.getD_cons_succ, txs_D, hc, spec_rule1, sp_rule1, c_rule1, b_rule1]
      refine ⟨by decide, by decide, hhd, hTx, hlen, ⟨2, by decide, fun j hj => ?_⟩, ⟨⟨wkD_eq rfl, rfl, wkD_eq rfl, rfl, wkD_eq rfl, rfl, wkD_eq rfl, rfl, trivial⟩, ⟨rfl, Nat.le_of_ble_eq_true rfl, rfl, trivial⟩, trivial⟩, by (try simp only); omega⟩
      rcases Nat.lt_or_ge j 1 with h7 | h7
      · exact hb j h7
      · obtain rfl : j = 1 := by omega
        exact hc
  · cases hc : ruleP 2 l hr
    · have hn := block_no (by decide) hb hc
      simp (config := {dsimp := false}) only [↓vp0, vz, vn, nq, tys, cellD, wideIR, if_true, if_false, implies_true, forall_const, ne_eq, reduceIte, reduceCtorEq, Nat.reduceEqDiff, Nat.reduceAdd, Nat.reduceMul, Nat.reduceLT, Nat.reduceSub, Nat.reduceLeDiff, Nat.reduceBNe, Nat.reduceBEq, Nat.reduceBeqDiff, List.range, List.range.loop, gl0, Tryd.ntmps14, Tryd.results14, PF.toR, givesIf, rulesD, show decide (((2 : Nat) : Int) < ((6 : Nat) : Int)) = true from rfl, show Int.toNat (((2 : Nat) : Int)) = 2 from rfl, List.getD_cons_zero, List.getD_cons_succ, txs_D, hc, hn, ruleE, spec_rule2, sp_rule2, c_rule2, b_rule2]
      exact ⟨by decide, by decide, hhd, hTx, hlen⟩
    · simp (config := {dsimp := false}) only [↓vp0, vz, vn, nq, tys, cellD, wideIR, if_true, if_false, implies_true, forall_const, ne_eq, reduceIte, reduceCtorEq, Nat.reduceEqDiff, Nat.reduceAdd, Nat.reduceMul, Nat.reduceLT, Nat.reduceSub, Nat.reduceLeDiff, Nat.reduceBNe, Nat.reduceBEq, Nat.reduceBeqDiff, List.range, List.range.loop, gl0, Tryd.ntmps14, Tryd.results14, PF.toR, givesIf, rulesD, show decide (((2 : Nat) : Int) < ((6 : Nat) : Int)) = true from rfl, show Int.toNat (((2 : Nat) : Int)) = 2 from rfl, List.getD_cons_zero, List.getD_cons_succ, txs_D, hc, spec_rule2, sp_rule2, c_rule2, b_rule2]
      refine ⟨by decide, by decide, hhd, hTx, hlen, ⟨3, by decide, fun j hj => ?_⟩, ⟨⟨wkD_eq rfl, rfl, wkD_eq rfl, rfl, wkD_eq rfl, rfl, wkD_eq rfl, rfl, trivial⟩, ⟨rfl, Nat.le_of_ble_eq_true rfl, rfl, trivial⟩, trivial⟩, by (try simp only); omega⟩
      rcases Nat.lt_or_ge j 2 with h7 | h7
      · exact hb j h7
      · obtain rfl : j = 2 := by omega
        exact hc
  · cases hc : ruleP 3 l hr
    · have hn := block_no (by decide) hb hc
      simp (config := {dsimp := false}) only [↓vp0, vz, vn, nq, tys, cellD, wideIR, if_true, if_false, implies_true, forall_const, ne_eq, reduceIte, reduceCtorEq, Nat.reduceEqDiff, Nat.reduceAdd, Nat.reduceMul, Nat.reduceLT, Nat.reduceSub, Nat.reduceLeDiff, Nat.reduceBNe, Nat.reduceBEq, Nat.reduceBeqDiff, List.range, List.range.loop, gl0, Tryd.ntmps14, Tryd.results14, PF.toR, givesIf, rulesD, show decide (((3 : Nat) : Int) < ((6 : Nat) : Int)) = true from rfl, show Int.toNat (((3 : Nat) : Int)) = 3 from rfl, List.getD_cons_zero, List.getD_cons_succ, txs_D, hc, hn, ruleE, spec_rule3, sp_rule3, c_rule3, b_rule3]
      exact ⟨by decide, by decide, hhd, hTx, hlen⟩
    · simp (config := {dsimp := false}) only [↓vp0, vz, vn, nq, tys, cellD, wideIR, if_true, if_false, implies_true, forall_const, ne_eq, reduceIte, reduceCtorEq, Nat.reduceEqDiff, Nat.reduceAdd, Nat.reduceMul, Nat.reduceLT, Nat.reduceSub, Nat.reduceLeDiff, Nat.reduceBNe, Nat.reduceBEq, Nat.reduceBeqDiff, List.range, List.range.loop, gl0, Tryd.ntmps14, Tryd.results14, PF.toR, givesIf, rulesD, show decide (((3 : Nat) : Int) < ((6 : Nat) : Int)) = true from rfl, show Int.toNat (((3 : Nat) : Int)) = 3 from rfl, List.getD_cons_zero, List.getD_cons_succ, txs_D, hc, spec_rule3, sp_rule3, c_rule3, b_rule3]
      refine ⟨by decide, by decide, hhd, hTx, hlen, ⟨4, by decide, fun j hj => ?_⟩, ⟨⟨wkD_eq rfl, rfl, wkD_eq rfl, rfl, wkD_eq rfl, rfl, wkD_eq rfl, rfl, trivial⟩, ⟨rfl, Nat.le_of_ble_eq_true rfl, rfl, trivial⟩, trivial⟩, by (try simp only); omega⟩
      rcases Nat.lt_or_ge j 3 with h7 | h7
      · exact hb j h7
      · obtain rfl : j = 3 := by omega
        exact hc
  · cases hc : ruleP 4 l hr
    · have hn := block_no (by decide) hb hc
      simp (config := {dsimp := false}) only [↓vp0, vz, vn, nq, tys, cellD, wideIR, if_true, if_false, implies_true, forall_const, ne_eq, reduceIte, reduceCtorEq, Nat.reduceEqDiff, Nat.reduceAdd, Nat.reduceMul, Nat.reduceLT, Nat.reduceSub, Nat.reduceLeDiff, Nat.reduceBNe, Nat.reduceBEq, Nat.reduceBeqDiff, List.range, List.range.loop, gl0, Tryd.ntmps14, Tryd.results14, PF.toR, givesIf, rulesD, show decide (((4 : Nat) : Int) < ((6 : Nat) : Int)) = true from rfl, show Int.toNat (((4 : Nat) : Int)) = 4 from rfl, List.getD_cons_zero, List.getD_cons_succ, txs_D, hc, hn, ruleE, spec_rule4, sp_rule4, c_rule4, b_rule4]
      exact ⟨by decide, by decide, hhd, hTx, hlen⟩
    · simp (config := {dsimp := false}) only [↓vp0, vz, vn, nq, tys, cellD, wideIR, if_true, if_false, implies_true, forall_const, ne_eq, reduceIte, reduceCtorEq, Nat.reduceEqDiff, Nat.reduceAdd, Nat.reduceMul, Nat.reduceLT, Nat.reduceSub, Nat.reduceLeDiff, Nat.reduceBNe, Nat.reduceBEq, Nat.reduceBeqDiff, List.range, List.range.loop, gl0, Tryd.ntmps14, Tryd.results14, PF.toR, givesIf, rulesD, show decide (((4 : Nat) : Int) < ((6 : Nat) : Int)) = true from rfl, show Int.toNat (((4 : Nat) : Int)) = 4 from rfl, List.getD_cons_zero, List.getD_cons_succ, txs_D, hc, spec_rule4, sp_rule4, c_rule4, b_rule4]
      refine ⟨by decide, by decide, hhd, hTx, hlen, ⟨5, by decide, fun j hj => ?_⟩, ⟨⟨wkD_eq rfl, rfl, wkD_eq rfl, rfl, wkD_eq rfl, rfl, wkD_eq rfl, rfl, trivial⟩, ⟨rfl, Nat.le_of_ble_eq_true rfl, rfl, trivial⟩, trivial⟩, by (try simp only); omega⟩
      rcases Nat.lt_or_ge j 4 with h7 | h7
      · exact hb j h7
      · obtain rfl : j = 4 := by omega
        exact hc
  · cases hc : ruleP 5 l hr
    · have hn := block_no (by decide) hb hc
      simp (config := {dsimp := false}) only [↓vp0, vz, vn, nq, tys, cellD, wideIR, if_true, if_false, implies_true, forall_const, ne_eq, reduceIte, reduceCtorEq, Nat.reduceEqDiff, Nat.reduceAdd, Nat.reduceMul, Nat.reduceLT, Nat.reduceSub, Nat.reduceLeDiff, Nat.reduceBNe, Nat.reduceBEq, Nat.reduceBeqDiff, List.range, List.range.loop, gl0, Tryd.ntmps14, Tryd.results14, PF.toR, givesIf, rulesD, show decide (((5 : Nat) : Int) < ((6 : Nat) : Int)) = true from rfl, show Int.toNat (((5 : Nat) : Int)) = 5 from rfl, List.getD_cons_zero, List.getD_cons_succ, txs_D, hc, hn, ruleE, spec_cwitnessed, sp_cwitnessed, c_cwitnessed, b_cwitnessed]
      exact ⟨by decide, by decide, hhd, hTx, hlen⟩
    · simp (config := {dsimp := false}) only [↓vp0, vz, vn, nq, tys, cellD, wideIR, if_true, if_false, implies_true, forall_const, ne_eq, reduceIte, reduceCtorEq, Nat.reduceEqDiff, Nat.reduceAdd, Nat.reduceMul, Nat.reduceLT, Nat.reduceSub, Nat.reduceLeDiff, Nat.reduceBNe, Nat.reduceBEq, Nat.reduceBeqDiff, List.range, List.range.loop, gl0, Tryd.ntmps14, Tryd.results14, PF.toR, givesIf, rulesD, show decide (((5 : Nat) : Int) < ((6 : Nat) : Int)) = true from rfl, show Int.toNat (((5 : Nat) : Int)) = 5 from rfl, List.getD_cons_zero, List.getD_cons_succ, txs_D, hc, spec_cwitnessed, sp_cwitnessed, c_cwitnessed, b_cwitnessed]
      refine ⟨by decide, by decide, hhd, hTx, hlen, ⟨6, by decide, fun j hj => ?_⟩, ⟨⟨wkD_eq rfl, rfl, wkD_eq rfl, rfl, wkD_eq rfl, rfl, wkD_eq rfl, rfl, trivial⟩, ⟨rfl, Nat.le_of_ble_eq_true rfl, rfl, trivial⟩, trivial⟩, by (try simp only); omega⟩
      rcases Nat.lt_or_ge j 5 with h7 | h7
      · exact hb j h7
      · obtain rfl : j = 5 := by omega
        exact hc
end Go.Vi.CD
end

section
/-
  THE CHAPTER's BLOCK passes; with another Root it does not.
-/
set_option linter.unusedVariables false
set_option linter.unusedSimpArgs false
namespace Go.Vi
theorem plain_base : baseP plainP = true := rfl
theorem plain_ptx : txs [D.agg [.int .u32 0, .sl .no 36 [D.agg [D.agg [D.arr .u8 32 (List.replicate 32 0), .int .u32 4294967295], .sli .no .u8 [1, 2], .int .u32 0, .sl .no 1 []]], .sl .no 2 [D.agg [.int .i64 50, .sli .no .u8 []]], .int .u32 0]] = [plainP] := rfl
theorem ids_one (t : TxP) : idsP [t] = [idP t] := rfl
theorem rootP_one (x : List Int) : rootP [x] = x := root_one (l := [x]) (i := 0) (by simp) (by simp)
theorem allP_one (x : List Int) : allP [x] = [] := by
  have hd : dep [x].length = 0 := by rw [dep]; simp
  unfold allP; rw [hd]; rfl
theorem plain_rule (hr : List Int) (j : Nat) (hj : j < 6) : ruleP j [plainP] hr = if j = 3 then decide (idP plainP = hr) else true := by
  match j, hj with
  | 0, _ => rfl
  | 1, _ => rfl
  | 2, _ => rfl
  | 3, _ => show decide (rootP (idsP [plainP]) = hr) = _; rw [ids_one, rootP_one]; rfl
  | 4, _ => show (!mutP (allP (idsP [plainP]))) = _; rw [ids_one, allP_one]; rfl
  | 5, _ => rfl
theorem plain_block : blockP [plainP] (idP plainP) = 0 := block_yes fun j hj => by
  rw [plain_rule _ j hj]
  split
  · exact decide_eq_true rfl
  · rfl
theorem plain_block_no {hr : List Int} (h : hr ≠ idP plainP) : blockP [plainP] hr = 20 :=
  block_no (k := 3) (by decide) (fun j hj => by rw [plain_rule _ j (by omega), if_neg (by omega)]) (by rw [plain_rule _ 3 (by decide), if_pos rfl]; exact decide_eq_false fun e => h e.symm)
set_option maxRecDepth 100000 in
theorem xor1_ne : ∀ x : Fin 256, xorI .u8 ((x.1 : Nat) : Int) 1 ≠ ((x.1 : Nat) : Int) := by decide
theorem xor1_ne' {x : Int} (h : 0 ≤ x ∧ x < 256) : xorI .u8 x 1 ≠ x := by
  have := xor1_ne ⟨x.toNat, by omega⟩
  simp only at this
  rwa [show ((x.toNat : Nat) : Int) = x by omega] at this
theorem id_bytesP (t : TxP) : bytes (idP t) := by
  unfold idP
  split
  · exact bytes_sum _
  · exact bytes_rep 32
theorem set_ne {l : List Int} (hl : l.length = 32) (hb : bytes l) : l.set 0 (xorI .u8 (l.getD 0 0) 1) ≠ l := by
  intro e
  have h0 : 0 < l.length := by omega
  have h1 : (l.set 0 (xorI .u8 (l.getD 0 0) 1)).getD 0 0 = xorI .u8 (l.getD 0 0) 1 := by simp [List.getD, h0]
  rw [e] at h1
  have hm : l.getD 0 0 ∈ l := getD_memI h0
  exact xor1_ne' (hb _ hm) h1.symm
end Go.Vi
end

section
set_option linter.unusedVariables false
set_option linter.unusedSimpArgs false
set_option maxHeartbeats 0
set_option maxRecDepth 20000
namespace Go.Vi.CD
open Go.Proofs

theorem plain_eta : (⟨0, ins [D.agg [D.agg [D.arr .u8 32 (List.replicate 32 0), .int .u32 4294967295], .sli .no .u8 [1, 2], .int .u32 0, .sl .no 1 []]], outs [D.agg [.int .i64 50, .sli .no .u8 []]], 0⟩ : TxP) = plainP := rfl
theorem c_plain : Contract E 19 := by
  refine contract_seeT hE hgl (show E.P.funcs[19]? = some Tryd.f19 from Tryd.func19) rfl (p := sp_plain) (fun _ _ _ => rfl) ?_
  intro args hv
  unfold sp_plain at hv ⊢
  split at hv
  case h_2 => exact hv.elim
  refine ⟨by simp, Nat.le_of_ble_eq_true rfl, ?_⟩
  have hok := tx_okT plain_ok
  simp (config := {dsimp := false}) only [↓vp0, vz, vn, nq, tys, cellD, wideIR, if_true, if_false, implies_true, forall_const, ne_eq, reduceIte, reduceCtorEq, Nat.reduceEqDiff, Nat.reduceAdd, Nat.reduceMul, Nat.reduceLT, Nat.reduceSub, Nat.reduceLeDiff, Nat.reduceBNe, Nat.reduceBEq, Nat.reduceBeqDiff, List.range, List.range.loop, gl0, Tryd.ntmps19, Tryd.results19, PF.toR, gives, spec_tid, sp_tid, c_tid, b_tid]
  refine drawX [0, 1] [(4, [0, 1, 2])] [] (by kernel_rfl) (wild_of rfl) ?_
  simp (config := {dsimp := false}) only [↓vp0, vz, vn, nq, tys, cellD, wideIR, if_true, if_false, implies_true, forall_const, ne_eq, reduceIte, reduceCtorEq, Nat.reduceEqDiff, Nat.reduceAdd, Nat.reduceMul, Nat.reduceLT, Nat.reduceSub, Nat.reduceLeDiff, Nat.reduceBNe, Nat.reduceBEq, Nat.reduceBeqDiff, List.range, List.range.loop, gl0, Tryd.ntmps19, Tryd.results19, vb, ↓vy0, vx0, PF.toR, gives, givesIf, D.bare, bares, Own.bare, D.strip, D.strips, stripO, if_true, plain_eta, plainD, plainT, spec_tid, sp_tid, c_tid, b_tid]
  exact ⟨hok, okUps_all rfl (by kernel_rfl)⟩
theorem c_cworks : Contract E 12 := by
  refine contract_seeT hE hgl (show E.P.funcs[12]? = some Tryd.f12 from Tryd.func12) rfl (p := sp_cworks) (fun _ _ _ => rfl) ?_
  intro args hv
  unfold sp_cworks at hv ⊢
  split at hv
  case h_2 => exact hv.elim
  refine ⟨by simp, Nat.le_of_ble_eq_true rfl, ?_⟩
  have hok := tx_okT plain_ok
  have hid : (idP plainP).length = 32 := id_len _
  have hb0 : decide (blockP [plainP] (idP plainP) = 0) = true := decide_eq_true plain_block
  have hb1 : decide (blockP [plainP] ((idP plainP).set 0 (xorI IntKind.u8 ((idP plainP).getD 0 0) 1)) = 20) = true := decide_eq_true (plain_block_no (set_ne hid (id_bytesP _)))
  simp (config := {dsimp := false}) only [↓vp0, vz, vn, nq, tys, cellD, wideIR, if_true, if_false, implies_true, forall_const, ne_eq, reduceIte, reduceCtorEq, Nat.reduceEqDiff, Nat.reduceAdd, Nat.reduceMul, Nat.reduceLT, Nat.reduceSub, Nat.reduceLeDiff, Nat.reduceBNe, Nat.reduceBEq, Nat.reduceBeqDiff, List.range, List.range.loop, gl0, Tryd.ntmps12, Tryd.results12, vb, PF.toR, gives, givesIf, plainD, plainT, D.bare, bares, Own.bare, D.strip, D.strips, stripO, if_true, plain_eta, plain_ptx, plain_base, hb0, hb1, show Int.toNat 0 = 0 from rfl, List.getD_cons_zero, spec_plain, sp_plain, c_plain, b_plain, spec_cbase, sp_cbase, c_cbase, b_cbase, spec_cblock, sp_cblock, c_cblock, b_cblock]
  have hTx : isTxL (txsD [plainP]) := ⟨_, rfl, fun x hx => by obtain rfl := List.mem_singleton.1 hx; exact plain_ok, by decide⟩
  have hl : ((idP plainP).set 0 (xorI IntKind.u8 ((idP plainP).getD 0 0) 1)).length = 32 := by rw [List.length_set]; exact hid
  refine ⟨Int.le_refl _, by decide, Int.le_refl _, by decide, Int.le_refl _, by decide, anyT_tx plain_ok.any, ⟨by simp, hid⟩, hTx, ⟨by simp, hl⟩, hTx⟩
end Go.Vi.CD
end

section
set_option linter.unusedVariables false
set_option linter.unusedSimpArgs false
set_option maxHeartbeats 0
set_option maxRecDepth 20000
namespace Go.Vi.CD
open Go.Proofs

theorem small_no {l : List TxP} {t : TxP} (h : t ∈ l) (hb : txSmall t = false) : smallP l = false := by
  unfold smallP
  rw [List.all_eq_false.2 ⟨t, h, by rw [hb]; decide⟩, Bool.and_false]
theorem small_yes {l : List TxP} (h8 : l.length ≤ 8) (h : ∀ j, j < l.length → txSmall (l.getD j default) = true) : smallP l = true := by
  unfold smallP
  rw [decide_eq_true h8, Bool.true_and, List.all_eq_true]
  intro x hx
  obtain ⟨i, h1, rfl⟩ := List.getElem_of_mem hx
  have := h i h1
  simpa [List.getD, h1] using this
theorem all_get {α : Type} [Inhabited α] {p : α → Bool} {l : List α} (h : ∀ j, j < l.length → p (l.getD j default) = true) : l.all p = true := by
  rw [List.all_eq_true]
  intro x hx
  obtain ⟨i, h1, rfl⟩ := List.getElem_of_mem hx
  have := h i h1
  simpa [List.getD, h1] using this
theorem all_no {α : Type} {p : α → Bool} {l : List α} {x : α} (hx : x ∈ l) (h : p x = false) : l.all p = false := List.all_eq_false.2 ⟨x, hx, by rw [h]; decide⟩
def w200 (w : List Int) : Bool := decide (w.length ≤ 200)
theorem inSmall_eq (x : InP) : inSmall x = ((decide (x.script.length ≤ 200) && decide (x.wit.length ≤ 6)) && x.wit.all w200) := rfl
theorem c_small : Contract E 13 := by
  refine contract_seeT hE hgl (show E.P.funcs[13]? = some Tryd.f13 from Tryd.func13) rfl (p := sp_small) (fun _ _ _ => rfl) ?_
  intro args hv
  unfold sp_small at hv ⊢
  split at hv
  case h_2 => exact hv.elim
  rename_i h0 hp hr h1 h2 h3 es
  refine ⟨by simp, Nat.le_of_ble_eq_true rfl, ?_⟩
  simp only [givesIf] at hv
  obtain ⟨hhd, l, rfl, hok, hl⟩ := hv
  simp only [txs_D]
  by_cases h8 : l.length ≤ 8
  case neg =>
    have d0 : decide ((8 : Int) < ((l.length : Nat) : Int)) = true := decide_eq_true (by omega)
    have hs : smallP l = false := by unfold smallP; rw [decide_eq_false h8, Bool.false_and]
    simp (config := {dsimp := false}) only [↓vp0, vz, vn, nq, tys, cellD, wideIR, if_true, if_false, implies_true, forall_const, ne_eq, reduceIte, reduceCtorEq, Nat.reduceEqDiff, Nat.reduceAdd, Nat.reduceMul, Nat.reduceLT, Nat.reduceSub, Nat.reduceLeDiff, Nat.reduceBNe, Nat.reduceBEq, Nat.reduceBeqDiff, List.range, List.range.loop, gl0, Tryd.ntmps13, Tryd.results13, d0, hs, givesIf]
    all_goals rfl
  have d0 : decide ((8 : Int) < ((l.length : Nat) : Int)) = false := decide_eq_false (by omega)
  simp (config := {dsimp := false}) only [↓vp0, vz, vn, nq, tys, cellD, wideIR, if_true, if_false, implies_true, forall_const, ne_eq, reduceIte, reduceCtorEq, Nat.reduceEqDiff, Nat.reduceAdd, Nat.reduceMul, Nat.reduceLT, Nat.reduceSub, Nat.reduceLeDiff, Nat.reduceBNe, Nat.reduceBEq, Nat.reduceBeqDiff, List.range, List.range.loop, gl0, Tryd.ntmps13, Tryd.results13, d0]
  refine loopI {k : Nat // k ≤ l.length ∧ ∀ j, j < k → txSmall (l.getD j default) = true} (fun k => [(3, .int .i64 (k.1 : Nat)), (1, .bp 0 0)]) (fun _ => ⟨[(0, .agg [.agg [.int .u32 h0, .arr .u8 32 hp, .arr .u8 32 hr, .int .u32 h1, .int .u32 h2, .int .u32 h3], .sl .no 4 (txsD l)])], [], 28⟩) (fun k => l.length - k.1) ⟨0, by simp⟩ (fun _ => rfl) ?_ ?_
  · exact ⟨⟨wkD_eq rfl, rfl, wkD_eq rfl, rfl, trivial⟩, ⟨rfl, Nat.le_of_ble_eq_true rfl, rfl, trivial⟩, trivial⟩
  rintro ⟨k, hk, hb⟩
  simp (config := {dsimp := false}) only [↓vp0, vz, vn, nq, tys, cellD, wideIR, if_true, if_false, implies_true, forall_const, ne_eq, reduceIte, reduceCtorEq, Nat.reduceEqDiff, Nat.reduceAdd, Nat.reduceMul, Nat.reduceLT, Nat.reduceSub, Nat.reduceLeDiff, Nat.reduceBNe, Nat.reduceBEq, Nat.reduceBeqDiff, List.range, List.range.loop, gl0, Tryd.ntmps13, Tryd.results13]
  refine ⟨fun hh => ?_, fun hh => ?_⟩
  case refine_2 =>
    have hh := of_decide_eq_false hh
    obtain rfl : k = l.length := by omega
    simp (config := {dsimp := false}) only [↓vp0, vz, vn, nq, tys, cellD, wideIR, if_true, if_false, implies_true, forall_const, ne_eq, reduceIte, reduceCtorEq, Nat.reduceEqDiff, Nat.reduceAdd, Nat.reduceMul, Nat.reduceLT, Nat.reduceSub, Nat.reduceLeDiff, Nat.reduceBNe, Nat.reduceBEq, Nat.reduceBeqDiff, List.range, List.range.loop, gl0, Tryd.ntmps13, Tryd.results13, small_yes h8 hb, givesIf]
    all_goals rfl
  have hh := of_decide_eq_true hh
  have hk' : k < l.length := by omega
  have g0 := txsD_get l k hk'
  have ht := hok _ (getD_memI hk')
  have hmi := ht.mi
  have hmo := ht.mo
  have no : txSmall (l.getD k default) = false → smallP l = false := small_no (getD_memI hk')
  by_cases c1 : (l.getD k default).ins.length ≤ 6
  case neg =>
    have hs := no (by unfold txSmall; rw [decide_eq_false c1, Bool.false_and, Bool.false_and])
    have d1 : decide ((6 : Int) < (((l.getD k default).ins.length : Nat) : Int)) = true := decide_eq_true (by omega)
    simp (config := {dsimp := false}) only [↓vp0, vz, vn, nq, tys, cellD, wideIR, if_true, if_false, implies_true, forall_const, ne_eq, reduceIte, reduceCtorEq, Nat.reduceEqDiff, Nat.reduceAdd, Nat.reduceMul, Nat.reduceLT, Nat.reduceSub, Nat.reduceLeDiff, Nat.reduceBNe, Nat.reduceBEq, Nat.reduceBeqDiff, List.range, List.range.loop, gl0, Tryd.ntmps13, Tryd.results13, Int.toNat_natCast, g0, txD, d1, hs, givesIf]
    exact ⟨by omega, by omega⟩
  have d1 : decide ((6 : Int) < (((l.getD k default).ins.length : Nat) : Int)) = false := decide_eq_false (by omega)
  by_cases c2 : (l.getD k default).outs.length ≤ 6
  case neg =>
    have hs := no (by unfold txSmall; rw [decide_eq_false c2, Bool.and_false, Bool.false_and])
    have d2 : decide ((6 : Int) < (((l.getD k default).outs.length : Nat) : Int)) = true := decide_eq_true (by omega)
    simp (config := {dsimp := false}) only [↓vp0, vz, vn, nq, tys, cellD, wideIR, if_true, if_false, implies_true, forall_const, ne_eq, reduceIte, reduceCtorEq, Nat.reduceEqDiff, Nat.reduceAdd, Nat.reduceMul, Nat.reduceLT, Nat.reduceSub, Nat.reduceLeDiff, Nat.reduceBNe, Nat.reduceBEq, Nat.reduceBeqDiff, List.range, List.range.loop, gl0, Tryd.ntmps13, Tryd.results13, Int.toNat_natCast, g0, txD, d1, d2, hs, givesIf]
    exact ⟨by omega, by omega⟩
  have d2 : decide ((6 : Int) < (((l.getD k default).outs.length : Nat) : Int)) = false := decide_eq_false (by omega)
  simp (config := {dsimp := false}) only [↓vp0, vz, vn, nq, tys, cellD, wideIR, if_true, if_false, implies_true, forall_const, ne_eq, reduceIte, reduceCtorEq, Nat.reduceEqDiff, Nat.reduceAdd, Nat.reduceMul, Nat.reduceLT, Nat.reduceSub, Nat.reduceLeDiff, Nat.reduceBNe, Nat.reduceBEq, Nat.reduceBeqDiff, List.range, List.range.loop, gl0, Tryd.ntmps13, Tryd.results13, Int.toNat_natCast, g0, txD, d1, d2]
  refine ⟨by omega, by omega, ?_⟩
  refine loopI {m : Nat // m ≤ (l.getD k default).ins.length ∧ ∀ j, j < m → inSmall ((l.getD k default).ins.getD j default) = true} (fun m => [(5, .int .i64 (m.1 : Nat)), (4, .bp 68 0), (3, .int .i64 (k : Nat)), (1, .bp 0 0)]) (fun _ => ⟨[(0, .agg [.agg [.int .u32 h0, .arr .u8 32 hp, .arr .u8 32 hr, .int .u32 h1, .int .u32 h2, .int .u32 h3], .sl .no 4 (txsD l)]), (68, txD (l.getD k default))], [], 120⟩) (fun m => (l.getD k default).ins.length - m.1) ⟨0, by simp⟩ (fun _ => rfl) ?_ ?_
  · exact ⟨⟨wkD_eq rfl, rfl, wkD_eq rfl, rfl, wkD_eq rfl, rfl, wkD_eq rfl, rfl, trivial⟩, ⟨rfl, Nat.le_of_ble_eq_true rfl, rfl, rfl, Nat.le_of_ble_eq_true rfl, rfl, trivial⟩, trivial⟩
  rintro ⟨m, hm, hbm⟩
  simp (config := {dsimp := false}) only [↓vp0, vz, vn, nq, tys, cellD, wideIR, if_true, if_false, implies_true, forall_const, ne_eq, reduceIte, reduceCtorEq, Nat.reduceEqDiff, Nat.reduceAdd, Nat.reduceMul, Nat.reduceLT, Nat.reduceSub, Nat.reduceLeDiff, Nat.reduceBNe, Nat.reduceBEq, Nat.reduceBeqDiff, List.range, List.range.loop, gl0, Tryd.ntmps13, Tryd.results13, txD]
  refine ⟨fun hh2 => ?_, fun hh2 => ?_⟩
  · have hh2 := of_decide_eq_true hh2
    have hm' : m < (l.getD k default).ins.length := by omega
    have g1 := insD_get (l.getD k default).ins m hm'
    have hx := ht.ins _ (getD_memI hm')
    have hmw := hx.many
    have hms := hx.script.2
    have no2 : inSmall ((l.getD k default).ins.getD m default) = false → smallP l = false := fun h => no (by unfold txSmall; rw [all_no (getD_memI hm') h, Bool.false_and, Bool.and_false])
    by_cases c3 : ((l.getD k default).ins.getD m default).script.length ≤ 200
    case neg =>
      have hs := no2 (by unfold inSmall; rw [decide_eq_false c3, Bool.false_and, Bool.false_and])
      have d3 : decide ((200 : Int) < ((((l.getD k default).ins.getD m default).script.length : Nat) : Int)) = true := decide_eq_true (by omega)
      simp (config := {dsimp := false}) only [↓vp0, vz, vn, nq, tys, cellD, wideIR, if_true, if_false, implies_true, forall_const, ne_eq, reduceIte, reduceCtorEq, Nat.reduceEqDiff, Nat.reduceAdd, Nat.reduceMul, Nat.reduceLT, Nat.reduceSub, Nat.reduceLeDiff, Nat.reduceBNe, Nat.reduceBEq, Nat.reduceBeqDiff, List.range, List.range.loop, gl0, Tryd.ntmps13, Tryd.results13, Int.toNat_natCast, g1, txD, inD, d3, hs, givesIf]
      exact ⟨by omega, by omega⟩
    have d3 : decide ((200 : Int) < ((((l.getD k default).ins.getD m default).script.length : Nat) : Int)) = false := decide_eq_false (by omega)
    by_cases c4 : ((l.getD k default).ins.getD m default).wit.length ≤ 6
    case neg =>
      have hs := no2 (by unfold inSmall; rw [decide_eq_false c4, Bool.and_false, Bool.false_and])
      have d4 : decide ((6 : Int) < ((((l.getD k default).ins.getD m default).wit.length : Nat) : Int)) = true := decide_eq_true (by omega)
      simp (config := {dsimp := false}) only [↓vp0, vz, vn, nq, tys, cellD, wideIR, if_true, if_false, implies_true, forall_const, ne_eq, reduceIte, reduceCtorEq, Nat.reduceEqDiff, Nat.reduceAdd, Nat.reduceMul, Nat.reduceLT, Nat.reduceSub, Nat.reduceLeDiff, Nat.reduceBNe, Nat.reduceBEq, Nat.reduceBeqDiff, List.range, List.range.loop, gl0, Tryd.ntmps13, Tryd.results13, Int.toNat_natCast, g1, txD, inD, d3, d4, hs, givesIf]
      exact ⟨by omega, by omega, by omega, by omega⟩
    have d4 : decide ((6 : Int) < ((((l.getD k default).ins.getD m default).wit.length : Nat) : Int)) = false := decide_eq_false (by omega)
    simp (config := {dsimp := false}) only [↓vp0, vz, vn, nq, tys, cellD, wideIR, if_true, if_false, implies_true, forall_const, ne_eq, reduceIte, reduceCtorEq, Nat.reduceEqDiff, Nat.reduceAdd, Nat.reduceMul, Nat.reduceLT, Nat.reduceSub, Nat.reduceLeDiff, Nat.reduceBNe, Nat.reduceBEq, Nat.reduceBeqDiff, List.range, List.range.loop, gl0, Tryd.ntmps13, Tryd.results13, Int.toNat_natCast, g1, txD, inD, d3, d4]
    refine ⟨by omega, by omega, by omega, by omega, ?_⟩
    refine loopI {q : Nat // q ≤ ((l.getD k default).ins.getD m default).wit.length ∧ ∀ j, j < q → w200 (((l.getD k default).ins.getD m default).wit.getD j default) = true} (fun q => [(6, .int .i64 (q.1 : Nat)), (5, .int .i64 (m : Nat)), (4, .bp 68 0), (3, .int .i64 (k : Nat)), (1, .bp 0 0)]) (fun _ => ⟨[(0, .agg [.agg [.int .u32 h0, .arr .u8 32 hp, .arr .u8 32 hr, .int .u32 h1, .int .u32 h2, .int .u32 h3], .sl .no 4 (txsD l)]), (68, txD (l.getD k default))], [], 216⟩) (fun q => ((l.getD k default).ins.getD m default).wit.length - q.1) ⟨0, by simp⟩ (fun _ => rfl) ?_ ?_
    · exact ⟨⟨wkD_eq rfl, rfl, wkD_eq rfl, rfl, wkD_eq rfl, rfl, wkD_eq rfl, rfl, wkD_eq rfl, rfl, trivial⟩, ⟨rfl, Nat.le_of_ble_eq_true rfl, rfl, rfl, Nat.le_of_ble_eq_true rfl, rfl, trivial⟩, trivial⟩
    rintro ⟨q, hq, hbq⟩
    simp (config := {dsimp := false}) only [↓vp0, vz, vn, nq, tys, cellD, wideIR, if_true, if_false, implies_true, forall_const, ne_eq, reduceIte, reduceCtorEq, Nat.reduceEqDiff, Nat.reduceAdd, Nat.reduceMul, Nat.reduceLT, Nat.reduceSub, Nat.reduceLeDiff, Nat.reduceBNe, Nat.reduceBEq, Nat.reduceBeqDiff, List.range, List.range.loop, gl0, Tryd.ntmps13, Tryd.results13, Int.toNat_natCast, g1, txD, inD]
    refine ⟨by omega, by omega, fun hh3 => ?_, fun hh3 => ?_⟩
    · have hh3 := of_decide_eq_true hh3
      have hq' : q < ((l.getD k default).ins.getD m default).wit.length := by omega
      have g2 : (slis ((l.getD k default).ins.getD m default).wit).getD q .any = .sli .no .u8 (((l.getD k default).ins.getD m default).wit.getD q default) := slis_get _ q hq'
      have hwm := (hx.wit _ (getD_memI hq')).2
      cases hp : w200 (((l.getD k default).ins.getD m default).wit.getD q default)
      · have hs := no2 (by rw [inSmall_eq, all_no (p := w200) (getD_memI hq') hp, Bool.and_false])
        have d5 : decide ((200 : Int) < (((((l.getD k default).ins.getD m default).wit.getD q default).length : Nat) : Int)) = true := decide_eq_true (by have := of_decide_eq_false hp; omega)
        simp (config := {dsimp := false}) only [↓vp0, vz, vn, nq, tys, cellD, wideIR, if_true, if_false, implies_true, forall_const, ne_eq, reduceIte, reduceCtorEq, Nat.reduceEqDiff, Nat.reduceAdd, Nat.reduceMul, Nat.reduceLT, Nat.reduceSub, Nat.reduceLeDiff, Nat.reduceBNe, Nat.reduceBEq, Nat.reduceBeqDiff, List.range, List.range.loop, gl0, Tryd.ntmps13, Tryd.results13, Int.toNat_natCast, g1, g2, txD, inD, d5, hs, givesIf]
        exact ⟨by omega, by omega, by omega, by omega⟩
      · have d5 : decide ((200 : Int) < (((((l.getD k default).ins.getD m default).wit.getD q default).length : Nat) : Int)) = false := decide_eq_false (by have := of_decide_eq_true hp; omega)
        simp (config := {dsimp := false}) only [↓vp0, vz, vn, nq, tys, cellD, wideIR, if_true, if_false, implies_true, forall_const, ne_eq, reduceIte, reduceCtorEq, Nat.reduceEqDiff, Nat.reduceAdd, Nat.reduceMul, Nat.reduceLT, Nat.reduceSub, Nat.reduceLeDiff, Nat.reduceBNe, Nat.reduceBEq, Nat.reduceBeqDiff, List.range, List.range.loop, gl0, Tryd.ntmps13, Tryd.results13, Int.toNat_natCast, g1, g2, txD, inD, d5]
        refine ⟨by omega, by omega, by omega, by omega, ⟨q + 1, by omega, fun j hj => ?_⟩, ⟨⟨wkD_eq ?_, rfl, wkD_eq rfl, rfl, wkD_eq rfl, rfl, wkD_eq rfl, rfl, wkD_eq rfl, rfl, trivial⟩, ⟨rfl, Nat.le_of_ble_eq_true rfl, rfl, rfl, Nat.le_of_ble_eq_true rfl, rfl, trivial⟩, trivial⟩, by (try simp only); omega⟩
        · rcases Nat.lt_or_ge j q with h7 | h7
          · exact hbq j h7
          · obtain rfl : j = q := by omega
            exact hp
        · exact some_i64 (by (try simp only); omega)
    · have hh3 := of_decide_eq_false hh3
      obtain rfl : q = ((l.getD k default).ins.getD m default).wit.length := by omega
      have hp : inSmall ((l.getD k default).ins.getD m default) = true := by
        rw [inSmall_eq, decide_eq_true c3, decide_eq_true c4, all_get (p := w200) hbq]; rfl
      refine ⟨⟨m + 1, by omega, fun j hj => ?_⟩, ⟨⟨wkD_eq ?_, rfl, wkD_eq rfl, rfl, wkD_eq rfl, rfl, wkD_eq rfl, rfl, trivial⟩, ⟨rfl, Nat.le_of_ble_eq_true rfl, rfl, rfl, Nat.le_of_ble_eq_true rfl, rfl, trivial⟩, trivial⟩, by (try simp only); omega⟩
      · rcases Nat.lt_or_ge j m with h7 | h7
        · exact hbm j h7
        · obtain rfl : j = m := by omega
          exact hp
      · exact some_i64 (by (try simp only); omega)
  have hh2 := of_decide_eq_false hh2
  obtain rfl : m = (l.getD k default).ins.length := by omega
  refine loopI {m : Nat // m ≤ (l.getD k default).outs.length ∧ ∀ j, j < m → outSmall ((l.getD k default).outs.getD j default) = true} (fun m => [(7, .int .i64 (m.1 : Nat)), (4, .bp 68 0), (3, .int .i64 (k : Nat)), (1, .bp 0 0)]) (fun _ => ⟨[(0, .agg [.agg [.int .u32 h0, .arr .u8 32 hp, .arr .u8 32 hr, .int .u32 h1, .int .u32 h2, .int .u32 h3], .sl .no 4 (txsD l)]), (68, txD (l.getD k default))], [], 144⟩) (fun m => (l.getD k default).outs.length - m.1) ⟨0, by simp⟩ (fun _ => rfl) ?_ ?_
  · exact ⟨⟨wkD_eq rfl, rfl, wkD_eq rfl, rfl, wkD_eq rfl, rfl, wkD_eq rfl, rfl, trivial⟩, ⟨rfl, Nat.le_of_ble_eq_true rfl, rfl, rfl, Nat.le_of_ble_eq_true rfl, rfl, trivial⟩, trivial⟩
  rintro ⟨m, hm, hbo⟩
  simp (config := {dsimp := false}) only [↓vp0, vz, vn, nq, tys, cellD, wideIR, if_true, if_false, implies_true, forall_const, ne_eq, reduceIte, reduceCtorEq, Nat.reduceEqDiff, Nat.reduceAdd, Nat.reduceMul, Nat.reduceLT, Nat.reduceSub, Nat.reduceLeDiff, Nat.reduceBNe, Nat.reduceBEq, Nat.reduceBeqDiff, List.range, List.range.loop, gl0, Tryd.ntmps13, Tryd.results13, txD]
  refine ⟨fun hh2 => ?_, fun hh2 => ?_⟩
  · have hh2 := of_decide_eq_true hh2
    have hm' : m < (l.getD k default).outs.length := by omega
    have g1 := outsD_get (l.getD k default).outs m hm'
    have hx := ht.outs _ (getD_memI hm')
    have hms := hx.script.2
    cases hp : outSmall ((l.getD k default).outs.getD m default)
    · have hs := no (by unfold txSmall; rw [all_no (getD_memI hm') hp, Bool.and_false, Bool.and_false])
      have d5 : decide ((200 : Int) < ((((l.getD k default).outs.getD m default).script.length : Nat) : Int)) = true := decide_eq_true (by have := of_decide_eq_false hp; omega)
      simp (config := {dsimp := false}) only [↓vp0, vz, vn, nq, tys, cellD, wideIR, if_true, if_false, implies_true, forall_const, ne_eq, reduceIte, reduceCtorEq, Nat.reduceEqDiff, Nat.reduceAdd, Nat.reduceMul, Nat.reduceLT, Nat.reduceSub, Nat.reduceLeDiff, Nat.reduceBNe, Nat.reduceBEq, Nat.reduceBeqDiff, List.range, List.range.loop, gl0, Tryd.ntmps13, Tryd.results13, Int.toNat_natCast, g1, txD, outD, d5, hs, givesIf]
      exact ⟨by omega, by omega⟩
    · have d5 : decide ((200 : Int) < ((((l.getD k default).outs.getD m default).script.length : Nat) : Int)) = false := decide_eq_false (by have := of_decide_eq_true hp; omega)
      simp (config := {dsimp := false}) only [↓vp0, vz, vn, nq, tys, cellD, wideIR, if_true, if_false, implies_true, forall_const, ne_eq, reduceIte, reduceCtorEq, Nat.reduceEqDiff, Nat.reduceAdd, Nat.reduceMul, Nat.reduceLT, Nat.reduceSub, Nat.reduceLeDiff, Nat.reduceBNe, Nat.reduceBEq, Nat.reduceBeqDiff, List.range, List.range.loop, gl0, Tryd.ntmps13, Tryd.results13, Int.toNat_natCast, g1, txD, outD, d5]
      refine ⟨by omega, by omega, ⟨m + 1, by omega, fun j hj => ?_⟩, ⟨⟨wkD_eq ?_, rfl, wkD_eq rfl, rfl, wkD_eq rfl, rfl, wkD_eq rfl, rfl, trivial⟩, ⟨rfl, Nat.le_of_ble_eq_true rfl, rfl, rfl, Nat.le_of_ble_eq_true rfl, rfl, trivial⟩, trivial⟩, by (try simp only); omega⟩
      · rcases Nat.lt_or_ge j m with h7 | h7
        · exact hbo j h7
        · obtain rfl : j = m := by omega
          exact hp
      · exact some_i64 (by (try simp only); omega)
  have hh2 := of_decide_eq_false hh2
  obtain rfl : m = (l.getD k default).outs.length := by omega
  have hp : txSmall (l.getD k default) = true := by
    unfold txSmall
    rw [decide_eq_true c1, decide_eq_true c2, all_get hbm, all_get hbo]; rfl
  refine ⟨⟨k + 1, by omega, fun j hj => ?_⟩, ⟨⟨wkD_eq ?_, rfl, wkD_eq rfl, rfl, trivial⟩, ⟨rfl, Nat.le_of_ble_eq_true rfl, rfl, trivial⟩, trivial⟩, by (try simp only); omega⟩
  · rcases Nat.lt_or_ge j k with h7 | h7
    · exact hb j h7
    · obtain rfl : j = k := by omega
      exact hp
  · exact some_i64 (by (try simp only); omega)
end Go.Vi.CD
end

section
set_option linter.unusedVariables false
set_option linter.unusedSimpArgs false
set_option maxHeartbeats 0
set_option maxRecDepth 20000
namespace Go.Vi.CD
open Go.Proofs

theorem same_step {a b : L2} {i : Nat} (ha : i < a.length) (hb : i < b.length) : decide (a.take (i + 1) = b.take (i + 1)) = (decide (a.take i = b.take i) && decide (a.getD i [] = b.getD i [])) := by
  have e1 : a.take (i + 1) = a.take i ++ [a.getD i []] := by rw [List.take_add_one]; simp [ha, List.getD]
  have e2 : b.take (i + 1) = b.take i ++ [b.getD i []] := by rw [List.take_add_one]; simp [hb, List.getD]
  rw [e1, e2]
  have hl : (a.take i).length = (b.take i).length := by rw [List.length_take, List.length_take]; omega
  by_cases h1 : a.take i = b.take i
  · by_cases h2 : a.getD i [] = b.getD i []
    · rw [decide_eq_true h1, decide_eq_true h2, decide_eq_true (by rw [h1, h2])]; rfl
    · rw [decide_eq_false h2, Bool.and_false]
      exact decide_eq_false fun e => h2 (List.cons.inj (List.append_inj_right e hl)).1
  · rw [decide_eq_false h1, Bool.false_and]
    exact decide_eq_false fun e => h1 (List.append_inj_left e hl)
theorem c_lawCheckSame : Contract E 7 := by
  refine contract_seeT hE hgl (show E.P.funcs[7]? = some Tryd.f7 from Tryd.func7) rfl (p := sp_lawCheckSame) (fun _ _ _ => rfl) ?_
  intro args hv
  unfold sp_lawCheckSame at hv ⊢
  split at hv
  case h_2 => exact hv.elim
  rename_i h0 hp hr h1 h2 h3 es g0 gp gr g1 g2 g3 fs
  refine ⟨by simp, Nat.le_of_ble_eq_true rfl, ?_⟩
  simp only [givesIf] at hv
  obtain ⟨hhd, hgd, hT, hU⟩ := hv
  have hT0 := hT
  have hU0 := hU
  obtain ⟨l, rfl, hok, hl⟩ := hT
  obtain ⟨m, rfl, hokm, hlm⟩ := hU
  cases hs : smallP l
  · simp (config := {dsimp := false}) only [↓vp0, vz, vn, nq, tys, cellD, wideIR, if_true, if_false, implies_true, forall_const, ne_eq, reduceIte, reduceCtorEq, Nat.reduceEqDiff, Nat.reduceAdd, Nat.reduceMul, Nat.reduceLT, Nat.reduceSub, Nat.reduceLeDiff, Nat.reduceBNe, Nat.reduceBEq, Nat.reduceBeqDiff, List.range, List.range.loop, gl0, Tryd.ntmps7, Tryd.results7, PF.toR, gives, givesIf, txs_D, hs, spec_small, sp_small, c_small, b_small, spec_cworks, sp_cworks, c_cworks, b_cworks]
    exact ⟨hhd, hT0⟩
  cases hs2 : smallP m
  · simp (config := {dsimp := false}) only [↓vp0, vz, vn, nq, tys, cellD, wideIR, if_true, if_false, implies_true, forall_const, ne_eq, reduceIte, reduceCtorEq, Nat.reduceEqDiff, Nat.reduceAdd, Nat.reduceMul, Nat.reduceLT, Nat.reduceSub, Nat.reduceLeDiff, Nat.reduceBNe, Nat.reduceBEq, Nat.reduceBeqDiff, List.range, List.range.loop, gl0, Tryd.ntmps7, Tryd.results7, PF.toR, gives, givesIf, txs_D, hs, hs2, spec_small, sp_small, c_small, b_small, spec_cworks, sp_cworks, c_cworks, b_cworks]
    exact ⟨hhd, hT0, hgd, hU0⟩
  obtain ⟨hok, hl8⟩ := any_ok hok hs
  obtain ⟨hokm, hm8⟩ := any_ok hokm hs2
  have hTx : isTxL (txsD l) := ⟨l, rfl, hok, by omega⟩
  have hUx : isTxL (txsD m) := ⟨m, rfl, hokm, by omega⟩
  by_cases hlen : l.length = m.length
  case neg =>
    have dl : decide (((l.length : Nat) : Int) = ((m.length : Nat) : Int)) = false := decide_eq_false (by omega)
    simp (config := {dsimp := false}) only [↓vp0, vz, vn, nq, tys, cellD, wideIR, if_true, if_false, implies_true, forall_const, ne_eq, reduceIte, reduceCtorEq, Nat.reduceEqDiff, Nat.reduceAdd, Nat.reduceMul, Nat.reduceLT, Nat.reduceSub, Nat.reduceLeDiff, Nat.reduceBNe, Nat.reduceBEq, Nat.reduceBeqDiff, List.range, List.range.loop, gl0, Tryd.ntmps7, Tryd.results7, PF.toR, gives, givesIf, txs_D, txsD_length, hs, hs2, dl, spec_small, sp_small, c_small, b_small, spec_cworks, sp_cworks, c_cworks, b_cworks]
    exact ⟨hhd, hT0, hgd, hU0⟩
  have dl : decide (((l.length : Nat) : Int) = ((m.length : Nat) : Int)) = true := decide_eq_true (by omega)
  by_cases hroot : hr = gr
  case neg =>
    have dr : decide (hr = gr) = false := decide_eq_false hroot
    simp (config := {dsimp := false}) only [↓vp0, vz, vn, nq, tys, cellD, wideIR, if_true, if_false, implies_true, forall_const, ne_eq, reduceIte, reduceCtorEq, Nat.reduceEqDiff, Nat.reduceAdd, Nat.reduceMul, Nat.reduceLT, Nat.reduceSub, Nat.reduceLeDiff, Nat.reduceBNe, Nat.reduceBEq, Nat.reduceBeqDiff, List.range, List.range.loop, gl0, Tryd.ntmps7, Tryd.results7, PF.toR, gives, givesIf, txs_D, txsD_length, hs, hs2, dl, dr, spec_small, sp_small, c_small, b_small, spec_cworks, sp_cworks, c_cworks, b_cworks]
    exact ⟨hhd, hT0, hgd, hU0⟩
  subst hroot
  by_cases hb1 : blockP l hr = 0
  case neg =>
    have db : decide (blockP l hr = 0) = false := decide_eq_false hb1
    simp (config := {dsimp := false}) only [↓vp0, vz, vn, nq, tys, cellD, wideIR, if_true, if_false, implies_true, forall_const, ne_eq, reduceIte, reduceCtorEq, Nat.reduceEqDiff, Nat.reduceAdd, Nat.reduceMul, Nat.reduceLT, Nat.reduceSub, Nat.reduceLeDiff, Nat.reduceBNe, Nat.reduceBEq, Nat.reduceBeqDiff, List.range, List.range.loop, gl0, Tryd.ntmps7, Tryd.results7, PF.toR, gives, givesIf, txs_D, txsD_length, hs, hs2, dl, db, eq_self, decide_true, spec_small, sp_small, c_small, b_small, spec_cworks, sp_cworks, c_cworks, b_cworks, spec_cblock, sp_cblock, c_cblock, b_cblock]
    exact ⟨hhd, hT0, hgd, hU0, hhd, hTx, by omega⟩
  by_cases hb2 : blockP m hr = 0
  case neg =>
    have db : decide (blockP m hr = 0) = false := decide_eq_false hb2
    simp (config := {dsimp := false}) only [↓vp0, vz, vn, nq, tys, cellD, wideIR, if_true, if_false, implies_true, forall_const, ne_eq, reduceIte, reduceCtorEq, Nat.reduceEqDiff, Nat.reduceAdd, Nat.reduceMul, Nat.reduceLT, Nat.reduceSub, Nat.reduceLeDiff, Nat.reduceBNe, Nat.reduceBEq, Nat.reduceBeqDiff, List.range, List.range.loop, gl0, Tryd.ntmps7, Tryd.results7, PF.toR, gives, givesIf, txs_D, txsD_length, hs, hs2, dl, hb1, db, eq_self, decide_true, spec_small, sp_small, c_small, b_small, spec_cworks, sp_cworks, c_cworks, b_cworks, spec_cblock, sp_cblock, c_cblock, b_cblock]
    exact ⟨hhd, hT0, hgd, hU0, hhd, hTx, by omega, hgd, hUx, by omega⟩
  have e1 : rootP (idsP l) = hr := of_decide_eq_true (block_rules hb1 3 (by decide))
  have e2 : rootP (idsP m) = hr := of_decide_eq_true (block_rules hb2 3 (by decide))
  have i1 : hashesP false l = idsP l := rfl
  have i2 : hashesP false m = idsP m := rfl
  have n1 : (idsP l).length = l.length := hashes_len false l
  have n2 : (idsP m).length = m.length := hashes_len false m
  have k1 : h32 (idsP l) := hashes_32 _ _
  have k2 : h32 (idsP m) := hashes_32 _ _
  have y1 : ∀ h ∈ idsP l, bytes h := fun h hm => by
    obtain ⟨i, _, rfl⟩ := List.mem_map.1 hm
    exact id_bytesP _
  have y2 : ∀ h ∈ idsP m, bytes h := fun h hm => by
    obtain ⟨i, _, rfl⟩ := List.mem_map.1 hm
    exact id_bytesP _
  simp (config := {dsimp := false}) only [↓vp0, vz, vn, nq, tys, cellD, wideIR, if_true, if_false, implies_true, forall_const, ne_eq, reduceIte, reduceCtorEq, Nat.reduceEqDiff, Nat.reduceAdd, Nat.reduceMul, Nat.reduceLT, Nat.reduceSub, Nat.reduceLeDiff, Nat.reduceBNe, Nat.reduceBEq, Nat.reduceBeqDiff, List.range, List.range.loop, gl0, Tryd.ntmps7, Tryd.results7, PF.toR, gives, givesIf, txs_D, txsD_length, hs, hs2, dl, hb1, hb2, eq_self, decide_true, Bool.not_true, spec_small, sp_small, c_small, b_small, spec_cworks, sp_cworks, c_cworks, b_cworks, spec_cblock, sp_cblock, c_cblock, b_cblock]
  refine ⟨hhd, hT0, hgd, hU0, hhd, hTx, by omega, hgd, hUx, by omega, ?_⟩
  refine drawI [2, 3] (by kernel_rfl) ?_
  generalize idsP l = a at *
  generalize idsP m = b at *
  simp (config := {dsimp := false}) only [↓vp0, vz, vn, nq, tys, cellD, wideIR, if_true, if_false, implies_true, forall_const, ne_eq, reduceIte, reduceCtorEq, Nat.reduceEqDiff, Nat.reduceAdd, Nat.reduceMul, Nat.reduceLT, Nat.reduceSub, Nat.reduceLeDiff, Nat.reduceBNe, Nat.reduceBEq, Nat.reduceBeqDiff, List.range, List.range.loop, gl0, Tryd.ntmps7, Tryd.results7, PF.toR, gives, givesIf, txs_D, txsD_length, i1, i2, arrs_length, n1, n2, dl, eq_self, decide_true, Bool.not_true, spec_ids, sp_ids, c_ids, b_ids]
  refine ⟨hhd, hTx, by omega, hgd, hUx, by omega, ?_⟩
  refine loopI {i : Nat // i ≤ l.length} (fun i => [(8, .int .i64 (i.1 : Nat)), (7, .bool (decide (a.take i.1 = b.take i.1))), (6, .sl .no 32 (arrs b)), (5, .sl .no 32 (arrs a))]) (fun _ => ⟨[], [], 244⟩) (fun i => l.length - i.1) ⟨0, by simp⟩ (fun _ => rfl) ?_ ?_
  · exact ⟨⟨wkD_eq rfl, rfl, wkD_eq rfl, rfl, wkD_eq rfl, rfl, wkD_eq rfl, rfl, trivial⟩, trivial, trivial⟩
  rintro ⟨i, hi⟩
  simp (config := {dsimp := false}) only [↓vp0, vz, vn, nq, tys, cellD, wideIR, if_true, if_false, implies_true, forall_const, ne_eq, reduceIte, reduceCtorEq, Nat.reduceEqDiff, Nat.reduceAdd, Nat.reduceMul, Nat.reduceLT, Nat.reduceSub, Nat.reduceLeDiff, Nat.reduceBNe, Nat.reduceBEq, Nat.reduceBeqDiff, List.range, List.range.loop, gl0, Tryd.ntmps7, Tryd.results7, arrs_length, n1]
  refine ⟨fun hh => ?_, fun hh => ?_⟩
  · have hh := of_decide_eq_true hh
    have ia : i < a.length := by omega
    have ib : i < b.length := by omega
    have g1 := arrs_get a i ia
    have g2 := arrs_get b i ib
    have st := same_step ia ib
    cases hsm : decide (a.take i = b.take i)
    all_goals rw [hsm] at st
    all_goals simp only [Bool.false_and, Bool.true_and] at st
    · refine drawI [5, 6, 7, 8] (by kernel_rfl) ?_
      simp (config := {dsimp := false}) only [↓vp0, vz, vn, nq, tys, cellD, wideIR, if_true, if_false, implies_true, forall_const, ne_eq, reduceIte, reduceCtorEq, Nat.reduceEqDiff, Nat.reduceAdd, Nat.reduceMul, Nat.reduceLT, Nat.reduceSub, Nat.reduceLeDiff, Nat.reduceBNe, Nat.reduceBEq, Nat.reduceBeqDiff, List.range, List.range.loop, gl0, Tryd.ntmps7, Tryd.results7]
      refine ⟨⟨i + 1, by omega⟩, ⟨⟨wkD_eq ?_, rfl, wkD_eq ?_, rfl, wkD_eq rfl, rfl, wkD_eq rfl, rfl, trivial⟩, trivial, trivial⟩, by (try simp only); omega⟩
      · exact some_i64 (by (try simp only); omega)
      · rw [st]; rfl
    · refine drawI [5, 6, 7, 8] (by kernel_rfl) ?_
      simp (config := {dsimp := false}) only [↓vp0, vz, vn, nq, tys, cellD, wideIR, if_true, if_false, implies_true, forall_const, ne_eq, reduceIte, reduceCtorEq, Nat.reduceEqDiff, Nat.reduceAdd, Nat.reduceMul, Nat.reduceLT, Nat.reduceSub, Nat.reduceLeDiff, Nat.reduceBNe, Nat.reduceBEq, Nat.reduceBeqDiff, List.range, List.range.loop, gl0, Tryd.ntmps7, Tryd.results7, Int.toNat_natCast, g1, g2, arrs_length, n1, n2]
      refine ⟨by omega, by omega, by omega, by omega, ⟨i + 1, by omega⟩, ⟨⟨wkD_eq ?_, rfl, wkD_eq ?_, rfl, wkD_eq rfl, rfl, wkD_eq rfl, rfl, trivial⟩, trivial, trivial⟩, by (try simp only); omega⟩
      · exact some_i64 (by (try simp only); omega)
      · rw [st]; rfl
  have hh := of_decide_eq_false hh
  obtain rfl : i = l.length := by omega
  have ta : a.take l.length = a := List.take_of_length_le (by omega)
  have tb : b.take l.length = b := List.take_of_length_le (by omega)
  rw [ta, tb]
  by_cases hab : a = b
  · have dab : decide (a = b) = true := decide_eq_true hab
    simp (config := {dsimp := false}) only [↓vp0, vz, vn, nq, tys, cellD, wideIR, if_true, if_false, implies_true, forall_const, ne_eq, reduceIte, reduceCtorEq, Nat.reduceEqDiff, Nat.reduceAdd, Nat.reduceMul, Nat.reduceLT, Nat.reduceSub, Nat.reduceLeDiff, Nat.reduceBNe, Nat.reduceBEq, Nat.reduceBeqDiff, List.range, List.range.loop, gl0, Tryd.ntmps7, Tryd.results7, PF.toR, gives, givesIf, dab, spec_cworks, sp_cworks, c_cworks, b_cworks]
  have dab : decide (a = b) = false := decide_eq_false hab
  have hx := apart a.length a b rfl (by omega) k1 k2 (e1.trans e2.symm) hab
  have hc := clash_of hx
  have ne1 : ∀ {l : L2} {p : Pr}, p ∈ allP l → l ≠ [] := fun hp e => by rw [e, allP_nil] at hp; exact List.not_mem_nil hp
  have hea : textsV a = .sl .no 1 (slis ((allP a).map textOf)) := by obtain ⟨p, hp, _⟩ := hx; exact textsV_ne (ne1 hp)
  have heb : textsV b = .sl .no 1 (slis ((allP b).map textOf)) := by obtain ⟨_, _, q, hq, _⟩ := hx; exact textsV_ne (ne1 hq)
  have ka := text_ok k1 y1
  have kb := text_ok k2 y2
  have la := all_len (l := a) (by omega)
  have lb := all_len (l := b) (by omega)
  have jA : isH (arrs a) := ⟨_, rfl, k1⟩
  have jB : isH (arrs b) := ⟨_, rfl, k2⟩
  generalize (allP a).map textOf = L at *
  generalize (allP b).map textOf = M at *
  simp (config := {dsimp := false}) only [↓vp0, vz, vn, nq, tys, cellD, wideIR, if_true, if_false, implies_true, forall_const, ne_eq, reduceIte, reduceCtorEq, Nat.reduceEqDiff, Nat.reduceAdd, Nat.reduceMul, Nat.reduceLT, Nat.reduceSub, Nat.reduceLeDiff, Nat.reduceBNe, Nat.reduceBEq, Nat.reduceBeqDiff, List.range, List.range.loop, gl0, Tryd.ntmps7, Tryd.results7, PF.toR, gives, givesIf, dab, strips_arrs, strips_slis', hs_arrs, hea, heb, arrs_length, n1, n2, spec_texts, sp_texts, c_texts, b_texts]
  refine ⟨jA, by omega, jB, by omega, ?_⟩
  refine loopI {i : Nat // i ≤ L.length ∧ ∀ j, j < i → ∀ k, k < M.length → ¬ (L.getD j [] ≠ M.getD k [] ∧ sumP (sumP (L.getD j [])) = sumP (sumP (M.getD k [])))} (fun i => [(9, .sl .no 1 (slis L)), (10, .sl .no 1 (slis M)), (11, .int .i64 (i.1 : Nat))]) (fun _ => ⟨[], [], 292⟩) (fun i => L.length - i.1) ⟨0, by simp⟩ (fun _ => rfl) ?_ ?_
  · exact ⟨⟨wkD_eq rfl, rfl, wkD_eq rfl, rfl, wkD_eq rfl, rfl, trivial⟩, trivial, trivial⟩
  rintro ⟨i, hi, hj⟩
  simp (config := {dsimp := false}) only [↓vp0, vz, vn, nq, tys, cellD, wideIR, if_true, if_false, implies_true, forall_const, ne_eq, reduceIte, reduceCtorEq, Nat.reduceEqDiff, Nat.reduceAdd, Nat.reduceMul, Nat.reduceLT, Nat.reduceSub, Nat.reduceLeDiff, Nat.reduceBNe, Nat.reduceBEq, Nat.reduceBeqDiff, List.range, List.range.loop, gl0, Tryd.ntmps7, Tryd.results7, slis_length]
  refine ⟨fun hh => ?_, fun hh => ?_⟩
  · have hh := of_decide_eq_true hh
    refine loopI {k : Nat // k ≤ M.length ∧ ∀ j, j < k → ¬ (L.getD i [] ≠ M.getD j [] ∧ sumP (sumP (L.getD i [])) = sumP (sumP (M.getD j [])))} (fun k => [(9, .sl .no 1 (slis L)), (10, .sl .no 1 (slis M)), (11, .int .i64 (i : Nat)), (12, .int .i64 (k.1 : Nat))]) (fun _ => ⟨[], [], 312⟩) (fun k => M.length - k.1) ⟨0, by simp⟩ (fun _ => rfl) ?_ ?_
    · exact ⟨⟨wkD_eq rfl, rfl, wkD_eq rfl, rfl, wkD_eq rfl, rfl, wkD_eq rfl, rfl, trivial⟩, trivial, trivial⟩
    rintro ⟨k, hk, hjk⟩
    simp (config := {dsimp := false}) only [↓vp0, vz, vn, nq, tys, cellD, wideIR, if_true, if_false, implies_true, forall_const, ne_eq, reduceIte, reduceCtorEq, Nat.reduceEqDiff, Nat.reduceAdd, Nat.reduceMul, Nat.reduceLT, Nat.reduceSub, Nat.reduceLeDiff, Nat.reduceBNe, Nat.reduceBEq, Nat.reduceBeqDiff, List.range, List.range.loop, gl0, Tryd.ntmps7, Tryd.results7, slis_length]
    refine ⟨fun h2 => ?_, fun h2 => ?_⟩
    · have h2 := of_decide_eq_true h2
      have g1 := slis_get L i (by omega)
      have g2 := slis_get M k (by omega)
      have hil : i < L.length := by omega
      have hkl : k < M.length := by omega
      obtain ⟨a1, a2⟩ := ka (L.getD i []) (getD_mem hil)
      obtain ⟨b1, b2⟩ := kb (M.getD k []) (getD_mem hkl)
      have hne := strN_inj a2 b2
      refine drawI [9, 10, 11, 12] (by kernel_rfl) ?_
      by_cases he : L.getD i [] = M.getD k []
      · simp (config := {dsimp := false}) only [↓vp0, vz, vn, nq, tys, cellD, wideIR, if_true, if_false, implies_true, forall_const, ne_eq, reduceIte, reduceCtorEq, Nat.reduceEqDiff, Nat.reduceAdd, Nat.reduceMul, Nat.reduceLT, Nat.reduceSub, Nat.reduceLeDiff, Nat.reduceBNe, Nat.reduceBEq, Nat.reduceBeqDiff, List.range, List.range.loop, gl0, Tryd.ntmps7, Tryd.results7, PF.toR, givesIf, slis_length, Int.toNat_natCast, g1, g2, hne, he, decide_true, spec_twice, sp_twice, c_twice, b_twice]
        refine ⟨by omega, by omega, by omega, by omega, ⟨k + 1, by omega, fun j hj' => ?_⟩, ⟨⟨wkD_eq rfl, rfl, wkD_eq rfl, rfl, wkD_eq rfl, rfl, wkD_eq ?_, rfl, trivial⟩, trivial, trivial⟩, by (try simp only); omega⟩
        · rcases Nat.lt_or_ge j k with h7 | h7
          · exact hjk j h7
          · obtain rfl : j = k := by omega
            exact fun h8 => h8.1 he
        · exact some_i64 (by (try simp only); omega)
      · cases h9 : decide (sumP (sumP (L.getD i [])) = sumP (sumP (M.getD k [])))
        · simp (config := {dsimp := false}) only [↓vp0, vz, vn, nq, tys, cellD, wideIR, if_true, if_false, implies_true, forall_const, ne_eq, reduceIte, reduceCtorEq, Nat.reduceEqDiff, Nat.reduceAdd, Nat.reduceMul, Nat.reduceLT, Nat.reduceSub, Nat.reduceLeDiff, Nat.reduceBNe, Nat.reduceBEq, Nat.reduceBeqDiff, List.range, List.range.loop, gl0, Tryd.ntmps7, Tryd.results7, PF.toR, gives, givesIf, slis_length, Int.toNat_natCast, g1, g2, hne, he, h9, decide_false, spec_twice, sp_twice, c_twice, b_twice]
          have h8 := of_decide_eq_false h9
          refine ⟨by omega, by omega, by omega, by omega, by omega, by omega, by omega, by omega, by omega, by omega, ⟨k + 1, by omega, fun j hj' => ?_⟩, ⟨⟨wkD_eq rfl, rfl, wkD_eq rfl, rfl, wkD_eq rfl, rfl, wkD_eq ?_, rfl, trivial⟩, trivial, trivial⟩, by (try simp only); omega⟩
          · rcases Nat.lt_or_ge j k with h7 | h7
            · exact hjk j h7
            · obtain rfl : j = k := by omega
              exact fun h9 => h8 h9.2
          · exact some_i64 (by (try simp only); omega)
        · simp (config := {dsimp := false}) only [↓vp0, vz, vn, nq, tys, cellD, wideIR, if_true, if_false, implies_true, forall_const, ne_eq, reduceIte, reduceCtorEq, Nat.reduceEqDiff, Nat.reduceAdd, Nat.reduceMul, Nat.reduceLT, Nat.reduceSub, Nat.reduceLeDiff, Nat.reduceBNe, Nat.reduceBEq, Nat.reduceBeqDiff, List.range, List.range.loop, gl0, Tryd.ntmps7, Tryd.results7, PF.toR, gives, givesIf, slis_length, Int.toNat_natCast, g1, g2, hne, he, h9, decide_false, spec_twice, sp_twice, c_twice, b_twice, spec_cworks, sp_cworks, c_cworks, b_cworks]
          exact ⟨by omega, by omega, by omega, by omega, by omega, by omega, by omega, by omega, by omega, by omega⟩
    · have h2 := of_decide_eq_false h2
      refine ⟨⟨i + 1, by omega, fun j hj' k' hk' => ?_⟩, ⟨⟨wkD_eq rfl, rfl, wkD_eq rfl, rfl, wkD_eq ?_, rfl, trivial⟩, trivial, trivial⟩, by (try simp only); omega⟩
      · rcases Nat.lt_or_ge j i with h7 | h7
        · exact hj j h7 k' hk'
        · obtain rfl : j = i := by omega
          exact hjk k' (by omega)
      · exact some_i64 (by (try simp only); omega)
  · have hh := of_decide_eq_false hh
    have := clash_false (l := L) (m := M) fun j h7 k h8 => hj j (by omega) k h8
    rw [hc] at this
    cases this
end Go.Vi.CD
end

section
set_option linter.unusedVariables false
set_option linter.unusedSimpArgs false
namespace Go.Proofs.YtneickpgbhckmaaDoor
open Go.ChangeShapes Go.WideShapes Go.RowKit Go.Vi Go.Vi.CD

theorem Tryd.own : ownKnob Tryd.prog.godebug = none := by kernel_rfl
theorem Tryd.laidOut : laidOutB Tryd.prog = true := by kernel_rfl

theorem globs_of_laid {W : World} (h : laidMetH Tryd.prog [("spinney/sha.roundNumbers", Rows.laid_spinney_sha_roundNumbers)] W) : Globs Go.Vi.CD.E (g0 W) W := by
  rw [MakeChecks.laidMetH_plain _ _ _ (by kernel_rfl)] at h
  obtain ⟨ps, ⟨g, t, cs, fuel, p, q, hg, ht, hv, hd, _, _⟩, _, _⟩ := h
  obtain rfl := Option.some.inj ((show Tryd.prog.globalNamed "spinney/sha.roundNumbers" = some 0 by kernel_rfl).symm.trans hg)
  obtain rfl := Option.some.inj ((show (Tryd.prog.globals[0]?).map (·.type) = some 112 by kernel_rfl).symm.trans ht)
  obtain ⟨xs, m, _, ex, hcl, hl, hel⟩ := DataW.trod_array Tryd.underlying112 hd
  have c5 : Tryd.prog.cellsOf 22 = 1 := by kernel_rfl
  have hlen : kList.length = 64 := by decide
  have e3 : (xs.map (·.1)) = kList.map fun n => .lit (.int .u32 n) :=
    (DataW.agg.inj (Prod.mk.inj ex).1).symm
  have cell : ∀ r, r < 64 → cs.toList[r]? = some (.int .u32 (kList.getD r 0)) := by
    intro r hr
    have hE := hel r hr
    rw [c5, Nat.mul_one, List.getElem?_eq_getElem (by omega)] at hE
    obtain ⟨z, e1, e2, _⟩ := DataW.trod_int Tryd.underlying22 hE
    have e4 : (xs.map (·.1))[r]? = (kList.map fun n => (DataW.lit (.int .u32 n) : DataW Unit))[r]? := by rw [e3]
    rw [List.getElem?_map, List.getElem?_map, List.getElem?_eq_getElem (by omega : r < xs.length), List.getElem?_eq_getElem (by omega : r < kList.length), e2] at e4
    have hz : z = kList.getD r 0 := by
      simp only [Option.map_some, Option.some.injEq, DataW.lit.injEq, Lit.int.injEq, true_and] at e4
      rw [e4, List.getD, List.getElem?_eq_getElem (by omega : r < kList.length)]; rfl
    rw [← hz]
    have h0 : ((cs.toList.drop r).take 1)[0]? = some (.int .u32 z) := by rw [e1]; rfl
    simpa using h0
  have at0 : At W 0 0 (ints .u32 kList) := by
    intro i v hi
    simp only [ints, List.getElem?_map, Option.map_eq_some_iff] at hi
    obtain ⟨z, hz, rfl⟩ := hi
    have hil : i < 64 := by
      have := (List.getElem?_eq_some_iff.1 hz).1
      omega
    have := cell i hil
    rw [List.getD_eq_getElem?_getD, hz] at this
    rw [Nat.zero_add, World.var?_cell hg hv i]
    simpa using this
  intro i d hi
  change glC i = some d at hi
  unfold glC at hi
  split at hi <;> cases hi
  refine ⟨0, 0, ints .u32 kList, rfl, ⟨hlen, rfl⟩, ?_, at0⟩
  have := at0 63 _ (by rw [ints, List.getElem?_map, List.getElem?_eq_getElem (by omega : 63 < kList.length)]; rfl)
  have := cell_lt this
  show 0 + (ints .u32 kList).length ≤ rowSize W 0
  simp only [ints, List.length_map, hlen]
  omega

theorem bytes_of {xs : List Int} (h : ∀ x ∈ xs, (Lit.int .u8 x).wf = true) : Go.Vi.bytes xs := by
  intro x hx
  have := h x hx
  simp only [Lit.wf, Bool.and_eq_true, decide_eq_true_eq, show IntKind.u8.min = 0 from rfl, show IntKind.u8.max = 255 from rfl] at this
  omega

end Go.Proofs.YtneickpgbhckmaaDoor
end

section
/-
  BLOCKS, as what is handed is read.
-/
set_option linter.unusedVariables false
namespace Go.Vi
open Go.RowKit Go.WideShapes Go.ChangeShapes

theorem lay_nil {P : Program} {a b : Nat} (h : a = b) : LayF P [] a b := h
def rU32 (d : D) : Prop := ∃ n, d = .int .u32 n ∧ (Lit.int .u32 n).wf = true
def rI64 (d : D) : Prop := ∃ n, d = .int .i64 n ∧ (Lit.int .i64 n).wf = true
def rH (d : D) : Prop := ∃ xs, d = .arr .u8 32 xs ∧ xs.length = 32 ∧ ∀ x ∈ xs, (Lit.int .u8 x).wf = true
def rScr (d : D) : Prop := ∃ xs, d = .sli .no .u8 xs ∧ (∀ x ∈ xs, (Lit.int .u8 x).wf = true) ∧ xs.length ≤ maxLen
def rSl (sz : Nat) (R : D → Prop) (d : D) : Prop := ∃ es, d = .sl .no sz es ∧ (∀ x ∈ es, R x) ∧ es.length ≤ maxLen
def rAg (Rs : List (D → Prop)) (d : D) : Prop := ∃ ds, d = .agg ds ∧ All2 (fun d R => R d) ds Rs
def rIn (d : D) : Prop := ∃ x : InP, d = inD x ∧ x.Any
def rOut (d : D) : Prop := ∃ x : OutP, d = outD x ∧ x.Any
def rTx (d : D) : Prop := ∃ x : TxP, d = txD x ∧ x.Any
theorem wf_u32 {n : Int} (h : (Lit.int .u32 n).wf = true) : u32ok n := by
  simp only [Lit.wf, Bool.and_eq_true, decide_eq_true_eq, show IntKind.u32.min = 0 from rfl, show IntKind.u32.max = 4294967295 from rfl] at h
  exact ⟨h.1, by omega⟩
theorem wf_i64 {n : Int} (h : (Lit.int .i64 n).wf = true) : -9223372036854775808 ≤ n ∧ n ≤ 9223372036854775807 := by
  simpa only [Lit.wf, Bool.and_eq_true, decide_eq_true_eq, show IntKind.i64.min = -9223372036854775808 from rfl, show IntKind.i64.max = 9223372036854775807 from rfl] using h
theorem wf_bytes {xs : List Int} (h : ∀ x ∈ xs, (Lit.int .u8 x).wf = true) : bytes xs := by
  intro x hx
  have := h x hx
  simp only [Lit.wf, Bool.and_eq_true, decide_eq_true_eq, show IntKind.u8.min = 0 from rfl, show IntKind.u8.max = 255 from rfl] at this
  omega
theorem maxLen_eq : maxLen = 9223372036854775807 := by decide
theorem all_map {α : Type} {R : D → Prop} {p : α → Prop} {f : α → D} (h : ∀ d, R d → ∃ x, d = f x ∧ p x) : ∀ es : List D, (∀ x ∈ es, R x) → ∃ l : List α, es = l.map f ∧ ∀ x ∈ l, p x
  | [], _ => ⟨[], rfl, fun x hx => by cases hx⟩
  | e :: es, he => by
    obtain ⟨x, rfl, hx⟩ := h e (he e (by simp))
    obtain ⟨l, rfl, hl⟩ := all_map h es fun y hy => he y (by simp [hy])
    exact ⟨x :: l, rfl, fun y hy => by
      rcases List.mem_cons.1 hy with rfl | hy
      · exact hx
      · exact hl y hy⟩
theorem all_mapL {α : Type} {R : D → Prop} {p : α → Prop} {f : α → D} (h : ∀ d, R d → ∃ x, d = f x ∧ p x) {sz : Nat} {d : D} (hd : rSl sz R d) : ∃ l : List α, d = .sl .no sz (l.map f) ∧ (∀ x ∈ l, p x) ∧ l.length ≤ 9223372036854775807 := by
  obtain ⟨es, rfl, he, hl⟩ := hd
  obtain ⟨l, rfl, h2⟩ := all_map h es he
  rw [List.length_map, maxLen_eq] at hl
  exact ⟨l, rfl, h2, hl⟩
theorem scr_r (d : D) (h : rScr d) : ∃ s : List Int, d = .sli .no .u8 s ∧ scrW s := by
  obtain ⟨s, rfl, h1, h2⟩ := h
  exact ⟨s, rfl, wf_bytes h1, by rw [maxLen_eq] at h2; exact h2⟩
theorem all2_2 {ds : List D} {R0 R1 : D → Prop} (h : All2 (fun d R => R d) ds [R0, R1]) : ∃ a b, ds = [a, b] ∧ R0 a ∧ R1 b := by
  match ds, h with
  | [a, b], h => exact ⟨a, b, rfl, h.1, h.2.1⟩
theorem all2_4 {ds : List D} {R0 R1 R2 R3 : D → Prop} (h : All2 (fun d R => R d) ds [R0, R1, R2, R3]) : ∃ a b c d, ds = [a, b, c, d] ∧ R0 a ∧ R1 b ∧ R2 c ∧ R3 d := by
  match ds, h with
  | [a, b, c, d], h => exact ⟨a, b, c, d, rfl, h.1, h.2.1, h.2.2.1, h.2.2.2.1⟩
theorem all2_6 {ds : List D} {R0 R1 R2 R3 R4 R5 : D → Prop} (h : All2 (fun d R => R d) ds [R0, R1, R2, R3, R4, R5]) : ∃ a b c d e f, ds = [a, b, c, d, e, f] ∧ R0 a ∧ R1 b ∧ R2 c ∧ R3 d ∧ R4 e ∧ R5 f := by
  match ds, h with
  | [a, b, c, d, e, f], h => exact ⟨a, b, c, d, e, f, rfl, h.1, h.2.1, h.2.2.1, h.2.2.2.1, h.2.2.2.2.1, h.2.2.2.2.2.1⟩
theorem raw_in (d : D) (h : rAg [rAg [rH, rU32], rScr, rU32, rSl 1 rScr] d) : rIn d := by
  obtain ⟨ds, rfl, h⟩ := h
  obtain ⟨_, _, _, _, rfl, ⟨es, rfl, h0⟩, h1, ⟨q, rfl, hq⟩, h3⟩ := all2_4 h
  obtain ⟨_, _, rfl, ⟨p, rfl, hp, hb⟩, ⟨i, rfl, hi⟩⟩ := all2_2 h0
  obtain ⟨s, rfl, hs⟩ := scr_r _ h1
  obtain ⟨w, rfl, hw, hl⟩ := all_mapL scr_r h3
  exact ⟨⟨p, i, s, q, w⟩, rfl, ⟨hp, wf_bytes hb, wf_u32 hi, hs, wf_u32 hq, hw, hl⟩⟩
theorem raw_out (d : D) (h : rAg [rI64, rScr] d) : rOut d := by
  obtain ⟨ds, rfl, h⟩ := h
  obtain ⟨_, _, rfl, ⟨v, rfl, hv⟩, h1⟩ := all2_2 h
  obtain ⟨s, rfl, hs⟩ := scr_r _ h1
  exact ⟨⟨v, s⟩, rfl, wf_i64 hv, hs⟩
theorem raw_tx (d : D) (h : rAg [rU32, rSl 36 rIn, rSl 2 rOut, rU32] d) : rTx d := by
  obtain ⟨ds, rfl, h⟩ := h
  obtain ⟨_, _, _, _, rfl, ⟨v, rfl, hv⟩, h1, h2, ⟨l, rfl, hl⟩⟩ := all2_4 h
  obtain ⟨i, rfl, hi, hil⟩ := all_mapL (f := inD) (p := InP.Any) (fun d h => h) h1
  obtain ⟨o, rfl, ho, hol⟩ := all_mapL (f := outD) (p := OutP.Any) (fun d h => h) h2
  exact ⟨⟨v, i, o, l⟩, rfl, wf_u32 hv, hi, ho, wf_u32 hl, hil, hol⟩
theorem raw_txs {ds : List D} (h : All2 (fun d R => R d) ds [rU32, rSl 36 rIn, rSl 2 rOut, rU32]) : ∃ x : TxP, D.agg ds = txD x ∧ x.Any := raw_tx _ ⟨ds, rfl, h⟩
/-- A header, as it is handed. -/
theorem raw_header {ds : List D} (h : All2 (fun d R => R d) ds [rU32, rH, rH, rU32, rU32, rU32]) :
    ∃ (h0 : Int) (hp hr : List Int) (h1 h2 h3 : Int), ds = [.int .u32 h0, .arr .u8 32 hp, .arr .u8 32 hr, .int .u32 h1, .int .u32 h2, .int .u32 h3] ∧ hdOk hp hr := by
  obtain ⟨_, _, _, _, _, _, rfl, ⟨a, rfl, _⟩, ⟨p, rfl, hp, _⟩, ⟨r, rfl, hr, _⟩, ⟨b, rfl, _⟩, ⟨c, rfl, _⟩, ⟨e, rfl, _⟩⟩ := all2_6 h
  exact ⟨a, p, r, b, c, e, rfl, hp, hr⟩
/-- A block, as it is handed. -/
theorem raw_block {ds : List D} (h : All2 (fun d R => R d) ds [rAg [rU32, rH, rH, rU32, rU32, rU32], rSl 4 rTx]) :
    ∃ (h0 : Int) (hp hr : List Int) (h1 h2 h3 : Int) (l : List TxP), ds = [.agg [.int .u32 h0, .arr .u8 32 hp, .arr .u8 32 hr, .int .u32 h1, .int .u32 h2, .int .u32 h3], .sl .no 4 (txsD l)] ∧ hdOk hp hr ∧ isTxW (txsD l) := by
  obtain ⟨_, _, rfl, ⟨es, rfl, h0⟩, ht⟩ := all2_2 h
  obtain ⟨_, _, _, _, _, _, rfl, ⟨a, rfl, _⟩, ⟨p, rfl, hp, _⟩, ⟨r, rfl, hr, _⟩, ⟨b, rfl, _⟩, ⟨c, rfl, _⟩, ⟨e, rfl, _⟩⟩ := all2_6 h0
  obtain ⟨l, rfl, hl, hm⟩ := all_mapL (f := txD) (p := TxP.Any) (fun d h => h) ht
  exact ⟨a, p, r, b, c, e, l, rfl, ⟨hp, hr⟩, l, rfl, hl, hm⟩
end Go.Vi
end
