/- Lemmas for the law proved in the text whose name ends with Law. -/
import Derived.Test.YtneickpgbhckmaaDoorK44
import Derived.Maps.OwnSet
import Derived.Maps.OwnOps
import Derived.DeepKeys4
import Derived.WideKeyEntry
import Derived.Deep.WholeRow
import Derived.WalkKit
import Derived.Laws.Cells
import Derived.RangeFuncNested
import Derived.RangeFuncBound
import Derived.RangeFuncLeaves
import Derived.Shelf.Abstract
import Derived.Shelf.RegionOpen
import Derived.OwnWalkIn
import Derived.TacticsInMore
import Derived.LoopNIn
import Derived.LoopIn
import Derived.Laws.Rows
import Derived.ProofKit
import Derived.Test.YtneickpgbhckmaaDoorProg

section
set_option linter.unusedVariables false
set_option linter.unusedSimpArgs false
set_option maxHeartbeats 0
set_option maxRecDepth 20000
namespace Go.Vi.CD
open Go.Proofs

theorem c_clone : Contract E 87 := by
  refine contract_boxE hE hgl (show E.P.funcs[87]? = some Tryd.f87 from Tryd.func87) rfl (p := sp_cloneW) (p0 := sp_clone) (fun _ _ _ => rfl) (fun a c => rfl) ?_ ?_
  · intro args ds tv h
    unfold sp_clone
    split
    · rename_i rs o b
      match b, h with
      | [], h => exact absurd rfl (h o)
      | x :: b, _ => rfl
    · rfl
    · rename_i h2 h3
      unfold sp_cloneW
      split
      · exact (h2 _ _ rfl rfl).elim
      · exact (h3 _ _ rfl rfl rfl).elim
      · rfl
  intro args ds tv hv hdl htl
  unfold sp_cloneW at hv ⊢
  split at hv
  case h_3 => exact hv.elim
  · rename_i rs o x b
    refine ⟨by simp, Nat.le_of_ble_eq_true rfl, ?_⟩
    obtain ⟨hr, hl⟩ := hv
    simp only [List.length_cons] at hl
    rcases hr with ⟨rfl, rfl⟩ | ⟨rfl, rfl, _⟩
    · simp (config := {dsimp := false}) only [↓vp0, vz, vn, nq, tys, cellD, wideIR, if_true, if_false, implies_true, forall_const, ne_eq, reduceIte, reduceCtorEq, Nat.reduceEqDiff, Nat.reduceAdd, Nat.reduceMul, Nat.reduceLT, Nat.reduceSub, Nat.reduceLeDiff, Nat.reduceBNe, Nat.reduceBEq, Nat.reduceBeqDiff, List.range, List.range.loop, gl0, Tryd.ntmps87, Tryd.results87, retA, vb]
      refine ⟨by omega, [], ?_⟩
      simp (config := {dsimp := false}) only [↓vp0, vz, vn, nq, tys, cellD, wideIR, if_true, if_false, implies_true, forall_const, ne_eq, reduceIte, reduceCtorEq, Nat.reduceEqDiff, Nat.reduceAdd, Nat.reduceMul, Nat.reduceLT, Nat.reduceSub, Nat.reduceLeDiff, Nat.reduceBNe, Nat.reduceBEq, Nat.reduceBeqDiff, List.range, List.range.loop, gl0, Tryd.ntmps87, Tryd.results87, retA, adopt, retB, vb]
      refine ⟨[], [28], [], ⟨rfl, rfl⟩, ⟨rfl, rfl⟩, ⟨by simp, by simp⟩, by simp, rfl, by simp [getAll, S.tok, look], ⟨_, rfl, rfl⟩, ⟨_, rfl, rfl⟩, id rfl⟩
    · simp (config := {dsimp := false}) only [↓vp0, vz, vn, nq, tys, cellD, wideIR, if_true, if_false, implies_true, forall_const, ne_eq, reduceIte, reduceCtorEq, Nat.reduceEqDiff, Nat.reduceAdd, Nat.reduceMul, Nat.reduceLT, Nat.reduceSub, Nat.reduceLeDiff, Nat.reduceBNe, Nat.reduceBEq, Nat.reduceBeqDiff, List.range, List.range.loop, gl0, Tryd.ntmps87, Tryd.results87, retA, vb]
      refine ⟨by omega, [], ?_⟩
      simp (config := {dsimp := false}) only [↓vp0, vz, vn, nq, tys, cellD, wideIR, if_true, if_false, implies_true, forall_const, ne_eq, reduceIte, reduceCtorEq, Nat.reduceEqDiff, Nat.reduceAdd, Nat.reduceMul, Nat.reduceLT, Nat.reduceSub, Nat.reduceLeDiff, Nat.reduceBNe, Nat.reduceBEq, Nat.reduceBeqDiff, List.range, List.range.loop, gl0, Tryd.ntmps87, Tryd.results87, retA, adopt, retB, vb]
      refine ⟨[], [28], [], ⟨rfl, rfl⟩, ⟨rfl, rfl⟩, ⟨by simp, by simp⟩, by simp, rfl, by simp [getAll, S.tok, look], ⟨_, rfl, rfl⟩, ⟨_, rfl, rfl⟩, id rfl⟩
  · rename_i a c
    refine ⟨by simp, Nat.le_of_ble_eq_true rfl, ?_⟩
    simp (config := {dsimp := false}) only [↓vp0, vz, vn, nq, tys, cellD, wideIR, if_true, if_false, implies_true, forall_const, ne_eq, reduceIte, reduceCtorEq, Nat.reduceEqDiff, Nat.reduceAdd, Nat.reduceMul, Nat.reduceLT, Nat.reduceSub, Nat.reduceLeDiff, Nat.reduceBNe, Nat.reduceBEq, Nat.reduceBeqDiff, List.range, List.range.loop, gl0, Tryd.ntmps87, Tryd.results87, retA, vb]
    refine ⟨fun h => ⟨[(2, some .u8, 1)], ?_⟩, fun h => ⟨[], ?_⟩⟩
    · simp (config := {dsimp := false}) only [↓vp0, vz, vn, nq, tys, cellD, wideIR, if_true, if_false, implies_true, forall_const, ne_eq, reduceIte, reduceCtorEq, Nat.reduceEqDiff, Nat.reduceAdd, Nat.reduceMul, Nat.reduceLT, Nat.reduceSub, Nat.reduceLeDiff, Nat.reduceBNe, Nat.reduceBEq, Nat.reduceBeqDiff, List.range, List.range.loop, gl0, Tryd.ntmps87, Tryd.results87, retA, adopt, retB, vb]
      refine ⟨[], [24], [], ⟨rfl, rfl⟩, ⟨rfl, rfl⟩, ⟨by simp, by simp⟩, by simp, rfl, by simp [getAll, S.tok, look], ⟨_, rfl, rfl⟩, ⟨_, rfl, rfl⟩, id rfl⟩
    · simp (config := {dsimp := false}) only [↓vp0, vz, vn, nq, tys, cellD, wideIR, if_true, if_false, implies_true, forall_const, ne_eq, reduceIte, reduceCtorEq, Nat.reduceEqDiff, Nat.reduceAdd, Nat.reduceMul, Nat.reduceLT, Nat.reduceSub, Nat.reduceLeDiff, Nat.reduceBNe, Nat.reduceBEq, Nat.reduceBeqDiff, List.range, List.range.loop, gl0, Tryd.ntmps87, Tryd.results87, retA, adopt, retB, vb]
      refine ⟨[], [28], [], ⟨rfl, rfl⟩, ⟨rfl, rfl⟩, ⟨by simp, by simp⟩, by simp, rfl, by simp [getAll, S.tok, look], ⟨_, rfl, rfl⟩, ⟨_, rfl, rfl⟩, id rfl⟩
theorem c_bwidth : Contract E 86 := by
  refine contract_seeT hE hgl (show E.P.funcs[86]? = some Tryd.f86 from Tryd.func86) rfl (p := sp_bwidth) (fun _ _ _ => rfl) ?_
  intro args hv
  unfold sp_bwidth at hv ⊢
  split at hv
  case h_2 => exact hv.elim
  rename_i w
  refine ⟨by simp, Nat.le_of_ble_eq_true rfl, ?_⟩
  simp (config := {dsimp := false}) only [↓vp0, vz, vn, nq, tys, cellD, wideIR, if_true, if_false, implies_true, forall_const, ne_eq, reduceIte, reduceCtorEq, Nat.reduceEqDiff, Nat.reduceAdd, Nat.reduceMul, Nat.reduceLT, Nat.reduceSub, Nat.reduceLeDiff, Nat.reduceBNe, Nat.reduceBEq, Nat.reduceBeqDiff, List.range, List.range.loop, gl0, Tryd.ntmps86, Tryd.results86]
  simp only [gives]
  refine ⟨fun h1 => ⟨fun h2 => ⟨fun h3 => ?_, fun h3 => ?_⟩, fun h2 => ?_⟩, fun h1 => ?_⟩ <;> simp [*]
theorem c_csize : Contract E 88 := by
  refine contract_seeT hE hgl (show E.P.funcs[88]? = some Tryd.f88 from Tryd.func88) rfl (p := sp_csize) (fun _ _ _ => rfl) ?_
  intro args hv
  unfold sp_csize at hv ⊢
  split at hv
  case h_2 => exact hv.elim
  rename_i n
  refine ⟨by simp, Nat.le_of_ble_eq_true rfl, ?_⟩
  simp only [givesIf] at hv
  obtain ⟨h0, h1⟩ := hv
  simp (config := {dsimp := false}) only [↓vp0, vz, vn, nq, tys, cellD, wideIR, if_true, if_false, implies_true, forall_const, ne_eq, reduceIte, reduceCtorEq, Nat.reduceEqDiff, Nat.reduceAdd, Nat.reduceMul, Nat.reduceLT, Nat.reduceSub, Nat.reduceLeDiff, Nat.reduceBNe, Nat.reduceBEq, Nat.reduceBeqDiff, List.range, List.range.loop, gl0, Tryd.ntmps88, Tryd.results88]
  simp only [givesIf, countI, decide_eq_true_eq, decide_eq_false_iff_not]
  refine ⟨fun h => ?_, fun h => ⟨fun h2 => ?_, fun h2 => ⟨fun h3 => ?_, fun h3 => ?_⟩⟩⟩
  · rw [if_neg (by omega), if_neg (by omega), if_neg (by omega)]; rfl
  · rw [if_neg (by omega), if_neg (by omega), if_pos (by omega)]; rfl
  · rw [if_neg (by omega), if_pos (by omega)]; rfl
  · rw [if_pos (by omega)]; rfl
end Go.Vi.CD
end

section
set_option linter.unusedVariables false
set_option linter.unusedSimpArgs false
set_option maxHeartbeats 0
set_option maxRecDepth 20000
namespace Go.Vi.CD
open Go.Proofs

theorem byte_at {n : Int} {i : Nat} (h : u64ok n) (hi : i < 8) : IntKind.wrap .u8 (shrI .u64 n (IntKind.wrap .i64 (8 * (i : Int)))) = n / 256 ^ i % 256 := by
  have e1 : IntKind.wrap .i64 (8 * (i : Int)) = ((8 * i : Nat) : Int) := by rw [IntWalk.i64_in _ (by omega)]; omega
  have e2 : shrI .u64 n ((8 * i : Nat) : Int) = n / 256 ^ i := by
    unfold shrI
    rw [Int.toNat_natCast, Nat.min_eq_left (by show 8 * i ≤ 64; omega), Int.fdiv_eq_ediv_of_nonneg _ (Int.le_of_lt (Int.pow_pos (by decide)))]
    congr 1
    rw [Int.pow_mul]
    rfl
  rw [e1, e2]
  rfl
theorem shr_zero {n : Int} {w : Nat} (hw : w ≤ 8) (h : 0 ≤ n ∧ n < 256 ^ w) : shrI .u64 n (IntKind.wrap .i64 (8 * (w : Int))) = 0 := by
  have e1 : IntKind.wrap .i64 (8 * (w : Int)) = ((8 * w : Nat) : Int) := by rw [IntWalk.i64_in _ (by omega)]; omega
  rw [e1]
  unfold shrI
  rw [Int.toNat_natCast, Nat.min_eq_left (by show 8 * w ≤ 64; omega), Int.fdiv_eq_ediv_of_nonneg _ (Int.le_of_lt (Int.pow_pos (by decide)))]
  have : (2 : Int) ^ (8 * w) = 256 ^ w := by rw [Int.pow_mul]; rfl
  rw [this]
  exact Int.ediv_eq_zero_of_lt h.1 h.2
theorem le_succ (n : Int) (w : Nat) : leI (w + 1) n = leI w n ++ [n / 256 ^ w % 256] := by
  simp [leI, List.range_succ]
theorem le_zero (n : Int) : leI 0 n = [] := rfl
theorem c_bput : Contract E 80 := by
  refine contract_boxT hE hgl (show E.P.funcs[80]? = some Tryd.f80 from Tryd.func80) rfl (p := sp_bput) (fun _ _ _ => rfl) ?_
  intro args ds tv hv hdl htl
  unfold sp_bput at hv ⊢
  split at hv
  case h_2 => exact hv.elim
  rename_i rs o b w n
  refine ⟨by simp, Nat.le_of_ble_eq_true rfl, ?_⟩
  obtain ⟨hr, hw, hn, hb⟩ := hv
  obtain ⟨w, rfl, hw8⟩ : ∃ k : Nat, w = (k : Int) ∧ (k = 4 ∨ k = 8) := ⟨w.toNat, by omega, by omega⟩
  simp only [Int.toNat_natCast] at hn ⊢
  have hu : u64ok n := ⟨hn.1, by rcases hw8 with rfl | rfl <;> omega⟩
  have hz := shr_zero (n := n) (w := w) (by omega) hn
  have d8 : (decide ((w : Int) = 4) || decide ((w : Int) = 8)) = true := by rcases hw8 with rfl | rfl <;> rfl
  have d1 : (decide ((w : Int) = 1) || (decide ((w : Int) = 2) || (decide ((w : Int) = 4) || decide ((w : Int) = 8)))) = true := by rw [d8]; simp
  have hsh : (0 ≤ IntKind.wrap .i64 (8 * (w : Int))) = True := by rw [IntWalk.i64_in _ (by omega)]; simp; omega
  rcases hr with ⟨rfl, rfl⟩ | ⟨rfl, rfl, hne⟩
  · have hf := fe_no b
    cases hc : decide ((w : Int) < 8)
    all_goals simp (config := {dsimp := false}) only [↓vp0, vz, vn, nq, tys, cellD, wideIR, if_true, if_false, implies_true, forall_const, ne_eq, reduceIte, reduceCtorEq, Nat.reduceEqDiff, Nat.reduceAdd, Nat.reduceMul, Nat.reduceLT, Nat.reduceSub, Nat.reduceLeDiff, Nat.reduceBNe, Nat.reduceBEq, Nat.reduceBeqDiff, List.range, List.range.loop, gl0, Tryd.ntmps80, Tryd.results80, retB, vb, PF.toR, gives, d1, hc, hz, hf, hsh, decide_true, spec_bwidth, sp_bwidth, c_bwidth, b_bwidth, spec_clone, sp_clone, c_clone, b_clone]
    all_goals refine ⟨.inl ⟨rfl, rfl⟩, by omega, ?_⟩
    all_goals refine loopI (Fin (w + 1)) (fun k => [(27, .int .i64 (k.1 : Nat)), (26, .int .i64 (w : Nat)), (8, .sli (.tok 76) .u8 (b ++ leI k.1 n)), (2, .int .u64 n)]) (fun k => ⟨[], [(76, (b.length + k.1, 1))], 92⟩) (fun k => w - k.1) 0 (fun _ => rfl) ?_ ?_
    any_goals (refine ⟨⟨wkD_eq rfl, rfl, wkD_eq rfl, rfl, wkD_eq ?_, rfl, wkD_eq rfl, rfl, trivial⟩, trivial, ⟨rfl, Nat.le_of_ble_eq_true rfl, trivial⟩⟩; exact some_sli (List.append_nil _).symm)
    all_goals rintro ⟨k, hk⟩
    all_goals simp (config := {dsimp := false}) only [↓vp0, vz, vn, nq, tys, cellD, wideIR, if_true, if_false, implies_true, forall_const, ne_eq, reduceIte, reduceCtorEq, Nat.reduceEqDiff, Nat.reduceAdd, Nat.reduceMul, Nat.reduceLT, Nat.reduceSub, Nat.reduceLeDiff, Nat.reduceBNe, Nat.reduceBEq, Nat.reduceBeqDiff, List.range, List.range.loop, gl0, Tryd.ntmps80, Tryd.results80]
    all_goals refine ⟨fun h => ?_, fun h => ?_⟩
    any_goals (
      have h := of_decide_eq_true h
      refine ⟨by rw [IntWalk.i64_in _ (by omega)]; omega, some_tok (by simp [leI_len]), by simp [leI_len]; omega, ⟨k + 1, by omega⟩, ⟨⟨wkD_eq ?_, rfl, wkD_eq rfl, rfl, wkD_eq ?_, rfl, wkD_eq rfl, rfl, trivial⟩, trivial, ⟨?_, Nat.le_of_ble_eq_true rfl, trivial⟩⟩, by (try simp only); omega⟩
      · exact some_i64 (by (try simp only); omega)
      · exact some_sli (by rw [byte_at hu (by omega), List.append_assoc, ← le_succ])
      · exact some_tok (by simp [leI_len]; omega))
    all_goals have h := of_decide_eq_false h
    all_goals obtain rfl : k = w := by omega
    all_goals simp (config := {dsimp := false}) only [↓vp0, vz, vn, nq, tys, cellD, wideIR, if_true, if_false, implies_true, forall_const, ne_eq, reduceIte, reduceCtorEq, Nat.reduceEqDiff, Nat.reduceAdd, Nat.reduceMul, Nat.reduceLT, Nat.reduceSub, Nat.reduceLeDiff, Nat.reduceBNe, Nat.reduceBEq, Nat.reduceBeqDiff, List.range, List.range.loop, gl0, Tryd.ntmps80, Tryd.results80, retB, vb]
    all_goals exact ⟨[], [76], [], ⟨rfl, rfl⟩, ⟨rfl, rfl⟩, ⟨by simp, by simp⟩, by simp, by simp [getAll, S.tok, look], by simp [getAll, S.tok, look], ⟨_, rfl, rfl⟩, ⟨_, rfl, rfl⟩, id rfl⟩
  · have hf := fe_ne (.tok 0) hne
    cases hc : decide ((w : Int) < 8)
    all_goals simp (config := {dsimp := false}) only [↓vp0, vz, vn, nq, tys, cellD, wideIR, if_true, if_false, implies_true, forall_const, ne_eq, reduceIte, reduceCtorEq, Nat.reduceEqDiff, Nat.reduceAdd, Nat.reduceMul, Nat.reduceLT, Nat.reduceSub, Nat.reduceLeDiff, Nat.reduceBNe, Nat.reduceBEq, Nat.reduceBeqDiff, List.range, List.range.loop, gl0, Tryd.ntmps80, Tryd.results80, retB, vb, PF.toR, gives, d1, hc, hz, hf, hsh, decide_true, spec_bwidth, sp_bwidth, c_bwidth, b_bwidth, spec_clone, sp_clone, c_clone, b_clone]
    all_goals refine ⟨.inr ⟨rfl, rfl, hne⟩, by omega, ?_⟩
    all_goals refine loopI (Fin (w + 1)) (fun k => [(27, .int .i64 (k.1 : Nat)), (26, .int .i64 (w : Nat)), (8, .sli (.tok 76) .u8 (b ++ leI k.1 n)), (2, .int .u64 n)]) (fun k => ⟨[], [(0, (b.length, 1)), (76, (b.length + k.1, 1))], 92⟩) (fun k => w - k.1) 0 (fun _ => rfl) ?_ ?_
    any_goals (refine ⟨⟨wkD_eq rfl, rfl, wkD_eq rfl, rfl, wkD_eq ?_, rfl, wkD_eq rfl, rfl, trivial⟩, trivial, ⟨rfl, Nat.le_of_ble_eq_true rfl, rfl, Nat.le_of_ble_eq_true rfl, trivial⟩⟩; exact some_sli (List.append_nil _).symm)
    all_goals rintro ⟨k, hk⟩
    all_goals simp (config := {dsimp := false}) only [↓vp0, vz, vn, nq, tys, cellD, wideIR, if_true, if_false, implies_true, forall_const, ne_eq, reduceIte, reduceCtorEq, Nat.reduceEqDiff, Nat.reduceAdd, Nat.reduceMul, Nat.reduceLT, Nat.reduceSub, Nat.reduceLeDiff, Nat.reduceBNe, Nat.reduceBEq, Nat.reduceBeqDiff, List.range, List.range.loop, gl0, Tryd.ntmps80, Tryd.results80]
    all_goals refine ⟨fun h => ?_, fun h => ?_⟩
    any_goals (
      have h := of_decide_eq_true h
      refine ⟨by rw [IntWalk.i64_in _ (by omega)]; omega, some_tok (by simp [leI_len]), by simp [leI_len]; omega, ⟨k + 1, by omega⟩, ⟨⟨wkD_eq ?_, rfl, wkD_eq rfl, rfl, wkD_eq ?_, rfl, wkD_eq rfl, rfl, trivial⟩, trivial, ⟨rfl, Nat.le_of_ble_eq_true rfl, ?_, Nat.le_of_ble_eq_true rfl, trivial⟩⟩, by (try simp only); omega⟩
      · exact some_i64 (by (try simp only); omega)
      · exact some_sli (by rw [byte_at hu (by omega), List.append_assoc, ← le_succ])
      · exact some_tok (by simp [leI_len]; omega))
    all_goals have h := of_decide_eq_false h
    all_goals obtain rfl : k = w := by omega
    all_goals simp (config := {dsimp := false}) only [↓vp0, vz, vn, nq, tys, cellD, wideIR, if_true, if_false, implies_true, forall_const, ne_eq, reduceIte, reduceCtorEq, Nat.reduceEqDiff, Nat.reduceAdd, Nat.reduceMul, Nat.reduceLT, Nat.reduceSub, Nat.reduceLeDiff, Nat.reduceBNe, Nat.reduceBEq, Nat.reduceBeqDiff, List.range, List.range.loop, gl0, Tryd.ntmps80, Tryd.results80, retB, vb]
    all_goals exact ⟨[], [76], [], ⟨rfl, rfl⟩, ⟨rfl, rfl⟩, ⟨by simp, by simp⟩, by simp, by simp [getAll, S.tok, look], by simp [getAll, S.tok, look], ⟨_, rfl, rfl⟩, ⟨_, rfl, rfl⟩, id rfl⟩
theorem c_num : Contract E 66 := by
  refine contract_boxT hE hgl (show E.P.funcs[66]? = some Tryd.f66 from Tryd.func66) rfl (p := sp_num) (fun _ _ _ => rfl) ?_
  intro args ds tv hv hdl htl
  unfold sp_num at hv ⊢
  split at hv
  case h_2 => exact hv.elim
  rename_i rs o b w n
  refine ⟨by simp, Nat.le_of_ble_eq_true rfl, ?_⟩
  obtain ⟨hr, hw, hn, hb⟩ := hv
  rcases hr with ⟨rfl, rfl⟩ | ⟨rfl, rfl, hne⟩
  · simp (config := {dsimp := false}) only [↓vp0, vz, vn, nq, tys, cellD, wideIR, if_true, if_false, implies_true, forall_const, ne_eq, reduceIte, reduceCtorEq, Nat.reduceEqDiff, Nat.reduceAdd, Nat.reduceMul, Nat.reduceLT, Nat.reduceSub, Nat.reduceLeDiff, Nat.reduceBNe, Nat.reduceBEq, Nat.reduceBeqDiff, List.range, List.range.loop, gl0, Tryd.ntmps66, Tryd.results66, retB, vb, spec_bput, sp_bput, c_bput, b_bput]
    exact ⟨.inl ⟨rfl, rfl⟩, hw, hn.1, hn.2, hb, [], [24], [], ⟨rfl, rfl⟩, ⟨rfl, rfl⟩, ⟨by simp, by simp⟩, by simp, by simp [getAll, S.tok, look], by simp [getAll, S.tok, look], ⟨_, rfl, rfl⟩, ⟨_, rfl, rfl⟩, id rfl⟩
  · simp (config := {dsimp := false}) only [↓vp0, vz, vn, nq, tys, cellD, wideIR, if_true, if_false, implies_true, forall_const, ne_eq, reduceIte, reduceCtorEq, Nat.reduceEqDiff, Nat.reduceAdd, Nat.reduceMul, Nat.reduceLT, Nat.reduceSub, Nat.reduceLeDiff, Nat.reduceBNe, Nat.reduceBEq, Nat.reduceBeqDiff, List.range, List.range.loop, gl0, Tryd.ntmps66, Tryd.results66, retB, vb, spec_bput, sp_bput, c_bput, b_bput]
    exact ⟨.inr ⟨rfl, rfl, hne⟩, hw, hn.1, hn.2, hb, [], [24], [], ⟨rfl, rfl⟩, ⟨rfl, rfl⟩, ⟨by simp, by simp⟩, by simp, by simp [getAll, S.tok, look], by simp [getAll, S.tok, look], ⟨_, rfl, rfl⟩, ⟨_, rfl, rfl⟩, id rfl⟩
theorem count_of {n : Int} (h : 0 ≤ n) : (countI n = [n] ∧ n < 253) ∨ (253 ≤ n ∧ ∃ m w, countI n = m :: leI w n ∧ ((m = 253 ∧ w = 2) ∨ (m = 254 ∧ w = 4) ∨ (m = 255 ∧ w = 8))) := by
  unfold countI
  by_cases h1 : n < 253
  · rw [if_pos h1]; exact .inl ⟨rfl, h1⟩
  · right
    refine ⟨by omega, ?_⟩
    rw [if_neg h1]
    by_cases h2 : n < 65536
    · rw [if_pos h2]; exact ⟨_, _, rfl, .inl ⟨rfl, rfl⟩⟩
    · rw [if_neg h2]
      by_cases h3 : n < 4294967296
      · rw [if_pos h3]; exact ⟨_, _, rfl, .inr (.inl ⟨rfl, rfl⟩)⟩
      · rw [if_neg h3]; exact ⟨_, _, rfl, .inr (.inr ⟨rfl, rfl⟩)⟩
theorem c_cput : Contract E 81 := by
  refine contract_boxT hE hgl (show E.P.funcs[81]? = some Tryd.f81 from Tryd.func81) rfl (p := sp_cput) (fun _ _ _ => rfl) ?_
  intro args ds tv hv hdl htl
  unfold sp_cput at hv ⊢
  split at hv
  case h_2 => exact hv.elim
  rename_i rs o b n
  refine ⟨by simp, Nat.le_of_ble_eq_true rfl, ?_⟩
  obtain ⟨hr, hn, hb⟩ := hv
  rcases hr with ⟨rfl, rfl⟩ | ⟨rfl, rfl, hne⟩
  · have hf := fe_no b
    rcases count_of hn.1 with ⟨hc, h253⟩ | ⟨h253, m, w, hc, hm⟩
    · have e1 : decide (IntKind.wrap .i64 (((1 : Nat) : Int) - 1) = 0) = true := rfl
      have e2 : IntKind.wrap .u8 n = n := IntWalk.u8_in n ⟨hn.1, by omega⟩
      simp (config := {dsimp := false}) only [↓vp0, vz, vn, nq, tys, cellD, wideIR, if_true, if_false, implies_true, forall_const, ne_eq, reduceIte, reduceCtorEq, Nat.reduceEqDiff, Nat.reduceAdd, Nat.reduceMul, Nat.reduceLT, Nat.reduceSub, Nat.reduceLeDiff, Nat.reduceBNe, Nat.reduceBEq, Nat.reduceBeqDiff, List.range, List.range.loop, gl0, Tryd.ntmps81, Tryd.results81, retB, vb, PF.toR, givesIf, hf, hc, e1, e2, eq_self, decide_true, spec_clone, sp_clone, c_clone, b_clone, spec_csize, sp_csize, c_csize, b_csize]
      exact ⟨.inl ⟨rfl, rfl⟩, by omega, hn, by omega, [], [16], [], ⟨rfl, rfl⟩, ⟨rfl, rfl⟩, ⟨by simp, by simp⟩, by simp, by simp [getAll, S.tok, look], by simp [getAll, S.tok, look], ⟨_, rfl, rfl⟩, ⟨_, rfl, rfl⟩, id rfl⟩
    · have e1 : IntKind.wrap .i64 ((((leI w n).length + 1 : Nat) : Int) - 1) = (w : Int) := by rw [leI_len, IntWalk.i64_in _ (by omega)]; omega
      rcases hm with ⟨rfl, rfl⟩ | ⟨rfl, rfl⟩ | ⟨rfl, rfl⟩
      all_goals simp (config := {dsimp := false}) only [↓vp0, vz, vn, nq, tys, cellD, wideIR, if_true, if_false, implies_true, forall_const, ne_eq, reduceIte, reduceCtorEq, Nat.reduceEqDiff, Nat.reduceAdd, Nat.reduceMul, Nat.reduceLT, Nat.reduceSub, Nat.reduceLeDiff, Nat.reduceBNe, Nat.reduceBEq, Nat.reduceBeqDiff, List.range, List.range.loop, gl0, Tryd.ntmps81, Tryd.results81, retB, vb, PF.toR, givesIf, hf, hc, e1, eq_self, decide_true, show decide (((2 : Nat) : Int) = 0) = false from rfl, show decide (((4 : Nat) : Int) = 0) = false from rfl, show decide (((8 : Nat) : Int) = 0) = false from rfl, show decide (((2 : Nat) : Int) = 2) = true from rfl, show decide (((4 : Nat) : Int) = 2) = false from rfl, show decide (((8 : Nat) : Int) = 2) = false from rfl, show decide (((4 : Nat) : Int) = 4) = true from rfl, show decide (((8 : Nat) : Int) = 4) = false from rfl, spec_clone, sp_clone, c_clone, b_clone, spec_csize, sp_csize, c_csize, b_csize]
      all_goals refine ⟨.inl ⟨rfl, rfl⟩, by omega, hn, by omega, ?_⟩
      · refine loopI (Fin (2 + 1)) (fun k => [(35, .int .i64 (k.1 : Nat)), (34, .int .i64 ((2 : Nat) : Int)), (5, .sli (.tok 16) .u8 (b ++ 253 :: leI k.1 n)), (1, .int .u64 n)]) (fun k => ⟨[], [(16, (b.length + 1 + k.1, 1))], 84⟩) (fun k => 2 - k.1) 0 (fun _ => rfl) ?_ ?_
        · exact ⟨⟨wkD_eq rfl, rfl, wkD_eq rfl, rfl, wkD_eq rfl, rfl, wkD_eq rfl, rfl, trivial⟩, trivial, ⟨rfl, Nat.le_of_ble_eq_true rfl, trivial⟩⟩
        rintro ⟨k, hk⟩
        simp (config := {dsimp := false}) only [↓vp0, vz, vn, nq, tys, cellD, wideIR, if_true, if_false, implies_true, forall_const, ne_eq, reduceIte, reduceCtorEq, Nat.reduceEqDiff, Nat.reduceAdd, Nat.reduceMul, Nat.reduceLT, Nat.reduceSub, Nat.reduceLeDiff, Nat.reduceBNe, Nat.reduceBEq, Nat.reduceBeqDiff, List.range, List.range.loop, gl0, Tryd.ntmps81, Tryd.results81]
        refine ⟨fun h => ?_, fun h => ?_⟩
        · have h := of_decide_eq_true h
          refine ⟨by rw [IntWalk.i64_in _ (by omega)]; omega, some_tok (by simp [leI_len]; omega), by simp [leI_len]; omega, ⟨k + 1, by omega⟩, ⟨⟨wkD_eq ?_, rfl, wkD_eq rfl, rfl, wkD_eq ?_, rfl, wkD_eq rfl, rfl, trivial⟩, trivial, ⟨?_, Nat.le_of_ble_eq_true rfl, trivial⟩⟩, by (try simp only); omega⟩
          · exact some_i64 (by (try simp only); omega)
          · exact some_sli (by rw [byte_at hn (by omega), List.append_assoc, List.cons_append, ← le_succ])
          · exact some_tok (by simp [leI_len]; omega)
        · have h := of_decide_eq_false h
          obtain rfl : k = 2 := by omega
          simp (config := {dsimp := false}) only [↓vp0, vz, vn, nq, tys, cellD, wideIR, if_true, if_false, implies_true, forall_const, ne_eq, reduceIte, reduceCtorEq, Nat.reduceEqDiff, Nat.reduceAdd, Nat.reduceMul, Nat.reduceLT, Nat.reduceSub, Nat.reduceLeDiff, Nat.reduceBNe, Nat.reduceBEq, Nat.reduceBeqDiff, List.range, List.range.loop, gl0, Tryd.ntmps81, Tryd.results81, retB, vb, hc]
          exact ⟨[], [16], [], ⟨rfl, rfl⟩, ⟨rfl, rfl⟩, ⟨by simp, by simp⟩, by simp, by simp [getAll, S.tok, look], by simp [getAll, S.tok, look, leI_len]; try omega, ⟨_, rfl, rfl⟩, ⟨_, rfl, rfl⟩, id rfl⟩
      · refine loopI (Fin (4 + 1)) (fun k => [(35, .int .i64 (k.1 : Nat)), (34, .int .i64 ((4 : Nat) : Int)), (5, .sli (.tok 16) .u8 (b ++ 254 :: leI k.1 n)), (1, .int .u64 n)]) (fun k => ⟨[], [(16, (b.length + 1 + k.1, 1))], 92⟩) (fun k => 4 - k.1) 0 (fun _ => rfl) ?_ ?_
        · exact ⟨⟨wkD_eq rfl, rfl, wkD_eq rfl, rfl, wkD_eq rfl, rfl, wkD_eq rfl, rfl, trivial⟩, trivial, ⟨rfl, Nat.le_of_ble_eq_true rfl, trivial⟩⟩
        rintro ⟨k, hk⟩
        simp (config := {dsimp := false}) only [↓vp0, vz, vn, nq, tys, cellD, wideIR, if_true, if_false, implies_true, forall_const, ne_eq, reduceIte, reduceCtorEq, Nat.reduceEqDiff, Nat.reduceAdd, Nat.reduceMul, Nat.reduceLT, Nat.reduceSub, Nat.reduceLeDiff, Nat.reduceBNe, Nat.reduceBEq, Nat.reduceBeqDiff, List.range, List.range.loop, gl0, Tryd.ntmps81, Tryd.results81]
        refine ⟨fun h => ?_, fun h => ?_⟩
        · have h := of_decide_eq_true h
          refine ⟨by rw [IntWalk.i64_in _ (by omega)]; omega, some_tok (by simp [leI_len]; omega), by simp [leI_len]; omega, ⟨k + 1, by omega⟩, ⟨⟨wkD_eq ?_, rfl, wkD_eq rfl, rfl, wkD_eq ?_, rfl, wkD_eq rfl, rfl, trivial⟩, trivial, ⟨?_, Nat.le_of_ble_eq_true rfl, trivial⟩⟩, by (try simp only); omega⟩
          · exact some_i64 (by (try simp only); omega)
          · exact some_sli (by rw [byte_at hn (by omega), List.append_assoc, List.cons_append, ← le_succ])
          · exact some_tok (by simp [leI_len]; omega)
        · have h := of_decide_eq_false h
          obtain rfl : k = 4 := by omega
          simp (config := {dsimp := false}) only [↓vp0, vz, vn, nq, tys, cellD, wideIR, if_true, if_false, implies_true, forall_const, ne_eq, reduceIte, reduceCtorEq, Nat.reduceEqDiff, Nat.reduceAdd, Nat.reduceMul, Nat.reduceLT, Nat.reduceSub, Nat.reduceLeDiff, Nat.reduceBNe, Nat.reduceBEq, Nat.reduceBeqDiff, List.range, List.range.loop, gl0, Tryd.ntmps81, Tryd.results81, retB, vb, hc]
          exact ⟨[], [16], [], ⟨rfl, rfl⟩, ⟨rfl, rfl⟩, ⟨by simp, by simp⟩, by simp, by simp [getAll, S.tok, look], by simp [getAll, S.tok, look, leI_len]; try omega, ⟨_, rfl, rfl⟩, ⟨_, rfl, rfl⟩, id rfl⟩
      · refine loopI (Fin (8 + 1)) (fun k => [(35, .int .i64 (k.1 : Nat)), (34, .int .i64 ((8 : Nat) : Int)), (5, .sli (.tok 16) .u8 (b ++ 255 :: leI k.1 n)), (1, .int .u64 n)]) (fun k => ⟨[], [(16, (b.length + 1 + k.1, 1))], 92⟩) (fun k => 8 - k.1) 0 (fun _ => rfl) ?_ ?_
        · exact ⟨⟨wkD_eq rfl, rfl, wkD_eq rfl, rfl, wkD_eq rfl, rfl, wkD_eq rfl, rfl, trivial⟩, trivial, ⟨rfl, Nat.le_of_ble_eq_true rfl, trivial⟩⟩
        rintro ⟨k, hk⟩
        simp (config := {dsimp := false}) only [↓vp0, vz, vn, nq, tys, cellD, wideIR, if_true, if_false, implies_true, forall_const, ne_eq, reduceIte, reduceCtorEq, Nat.reduceEqDiff, Nat.reduceAdd, Nat.reduceMul, Nat.reduceLT, Nat.reduceSub, Nat.reduceLeDiff, Nat.reduceBNe, Nat.reduceBEq, Nat.reduceBeqDiff, List.range, List.range.loop, gl0, Tryd.ntmps81, Tryd.results81]
        refine ⟨fun h => ?_, fun h => ?_⟩
        · have h := of_decide_eq_true h
          refine ⟨by rw [IntWalk.i64_in _ (by omega)]; omega, some_tok (by simp [leI_len]; omega), by simp [leI_len]; omega, ⟨k + 1, by omega⟩, ⟨⟨wkD_eq ?_, rfl, wkD_eq rfl, rfl, wkD_eq ?_, rfl, wkD_eq rfl, rfl, trivial⟩, trivial, ⟨?_, Nat.le_of_ble_eq_true rfl, trivial⟩⟩, by (try simp only); omega⟩
          · exact some_i64 (by (try simp only); omega)
          · exact some_sli (by rw [byte_at hn (by omega), List.append_assoc, List.cons_append, ← le_succ])
          · exact some_tok (by simp [leI_len]; omega)
        · have h := of_decide_eq_false h
          obtain rfl : k = 8 := by omega
          simp (config := {dsimp := false}) only [↓vp0, vz, vn, nq, tys, cellD, wideIR, if_true, if_false, implies_true, forall_const, ne_eq, reduceIte, reduceCtorEq, Nat.reduceEqDiff, Nat.reduceAdd, Nat.reduceMul, Nat.reduceLT, Nat.reduceSub, Nat.reduceLeDiff, Nat.reduceBNe, Nat.reduceBEq, Nat.reduceBeqDiff, List.range, List.range.loop, gl0, Tryd.ntmps81, Tryd.results81, retB, vb, hc]
          exact ⟨[], [16], [], ⟨rfl, rfl⟩, ⟨rfl, rfl⟩, ⟨by simp, by simp⟩, by simp, by simp [getAll, S.tok, look], by simp [getAll, S.tok, look, leI_len]; try omega, ⟨_, rfl, rfl⟩, ⟨_, rfl, rfl⟩, id rfl⟩
  · have hf := fe_ne (.tok 0) hne
    rcases count_of hn.1 with ⟨hc, h253⟩ | ⟨h253, m, w, hc, hm⟩
    · have e1 : decide (IntKind.wrap .i64 (((1 : Nat) : Int) - 1) = 0) = true := rfl
      have e2 : IntKind.wrap .u8 n = n := IntWalk.u8_in n ⟨hn.1, by omega⟩
      simp (config := {dsimp := false}) only [↓vp0, vz, vn, nq, tys, cellD, wideIR, if_true, if_false, implies_true, forall_const, ne_eq, reduceIte, reduceCtorEq, Nat.reduceEqDiff, Nat.reduceAdd, Nat.reduceMul, Nat.reduceLT, Nat.reduceSub, Nat.reduceLeDiff, Nat.reduceBNe, Nat.reduceBEq, Nat.reduceBeqDiff, List.range, List.range.loop, gl0, Tryd.ntmps81, Tryd.results81, retB, vb, PF.toR, givesIf, hf, hc, e1, e2, eq_self, decide_true, spec_clone, sp_clone, c_clone, b_clone, spec_csize, sp_csize, c_csize, b_csize]
      exact ⟨.inr ⟨rfl, rfl, hne⟩, by omega, hn, by omega, [], [16], [], ⟨rfl, rfl⟩, ⟨rfl, rfl⟩, ⟨by simp, by simp⟩, by simp, by simp [getAll, S.tok, look], by simp [getAll, S.tok, look], ⟨_, rfl, rfl⟩, ⟨_, rfl, rfl⟩, id rfl⟩
    · have e1 : IntKind.wrap .i64 ((((leI w n).length + 1 : Nat) : Int) - 1) = (w : Int) := by rw [leI_len, IntWalk.i64_in _ (by omega)]; omega
      rcases hm with ⟨rfl, rfl⟩ | ⟨rfl, rfl⟩ | ⟨rfl, rfl⟩
      all_goals simp (config := {dsimp := false}) only [↓vp0, vz, vn, nq, tys, cellD, wideIR, if_true, if_false, implies_true, forall_const, ne_eq, reduceIte, reduceCtorEq, Nat.reduceEqDiff, Nat.reduceAdd, Nat.reduceMul, Nat.reduceLT, Nat.reduceSub, Nat.reduceLeDiff, Nat.reduceBNe, Nat.reduceBEq, Nat.reduceBeqDiff, List.range, List.range.loop, gl0, Tryd.ntmps81, Tryd.results81, retB, vb, PF.toR, givesIf, hf, hc, e1, eq_self, decide_true, show decide (((2 : Nat) : Int) = 0) = false from rfl, show decide (((4 : Nat) : Int) = 0) = false from rfl, show decide (((8 : Nat) : Int) = 0) = false from rfl, show decide (((2 : Nat) : Int) = 2) = true from rfl, show decide (((4 : Nat) : Int) = 2) = false from rfl, show decide (((8 : Nat) : Int) = 2) = false from rfl, show decide (((4 : Nat) : Int) = 4) = true from rfl, show decide (((8 : Nat) : Int) = 4) = false from rfl, spec_clone, sp_clone, c_clone, b_clone, spec_csize, sp_csize, c_csize, b_csize]
      all_goals refine ⟨.inr ⟨rfl, rfl, hne⟩, by omega, hn, by omega, ?_⟩
      · refine loopI (Fin (2 + 1)) (fun k => [(35, .int .i64 (k.1 : Nat)), (34, .int .i64 ((2 : Nat) : Int)), (5, .sli (.tok 16) .u8 (b ++ 253 :: leI k.1 n)), (1, .int .u64 n)]) (fun k => ⟨[], [(0, (b.length, 1)), (16, (b.length + 1 + k.1, 1))], 84⟩) (fun k => 2 - k.1) 0 (fun _ => rfl) ?_ ?_
        · exact ⟨⟨wkD_eq rfl, rfl, wkD_eq rfl, rfl, wkD_eq rfl, rfl, wkD_eq rfl, rfl, trivial⟩, trivial, ⟨rfl, Nat.le_of_ble_eq_true rfl, rfl, Nat.le_of_ble_eq_true rfl, trivial⟩⟩
        rintro ⟨k, hk⟩
        simp (config := {dsimp := false}) only [↓vp0, vz, vn, nq, tys, cellD, wideIR, if_true, if_false, implies_true, forall_const, ne_eq, reduceIte, reduceCtorEq, Nat.reduceEqDiff, Nat.reduceAdd, Nat.reduceMul, Nat.reduceLT, Nat.reduceSub, Nat.reduceLeDiff, Nat.reduceBNe, Nat.reduceBEq, Nat.reduceBeqDiff, List.range, List.range.loop, gl0, Tryd.ntmps81, Tryd.results81]
        refine ⟨fun h => ?_, fun h => ?_⟩
        · have h := of_decide_eq_true h
          refine ⟨by rw [IntWalk.i64_in _ (by omega)]; omega, some_tok (by simp [leI_len]; omega), by simp [leI_len]; omega, ⟨k + 1, by omega⟩, ⟨⟨wkD_eq ?_, rfl, wkD_eq rfl, rfl, wkD_eq ?_, rfl, wkD_eq rfl, rfl, trivial⟩, trivial, ⟨rfl, Nat.le_of_ble_eq_true rfl, ?_, Nat.le_of_ble_eq_true rfl, trivial⟩⟩, by (try simp only); omega⟩
          · exact some_i64 (by (try simp only); omega)
          · exact some_sli (by rw [byte_at hn (by omega), List.append_assoc, List.cons_append, ← le_succ])
          · exact some_tok (by simp [leI_len]; omega)
        · have h := of_decide_eq_false h
          obtain rfl : k = 2 := by omega
          simp (config := {dsimp := false}) only [↓vp0, vz, vn, nq, tys, cellD, wideIR, if_true, if_false, implies_true, forall_const, ne_eq, reduceIte, reduceCtorEq, Nat.reduceEqDiff, Nat.reduceAdd, Nat.reduceMul, Nat.reduceLT, Nat.reduceSub, Nat.reduceLeDiff, Nat.reduceBNe, Nat.reduceBEq, Nat.reduceBeqDiff, List.range, List.range.loop, gl0, Tryd.ntmps81, Tryd.results81, retB, vb, hc]
          exact ⟨[], [16], [], ⟨rfl, rfl⟩, ⟨rfl, rfl⟩, ⟨by simp, by simp⟩, by simp, by simp [getAll, S.tok, look], by simp [getAll, S.tok, look, leI_len]; try omega, ⟨_, rfl, rfl⟩, ⟨_, rfl, rfl⟩, id rfl⟩
      · refine loopI (Fin (4 + 1)) (fun k => [(35, .int .i64 (k.1 : Nat)), (34, .int .i64 ((4 : Nat) : Int)), (5, .sli (.tok 16) .u8 (b ++ 254 :: leI k.1 n)), (1, .int .u64 n)]) (fun k => ⟨[], [(0, (b.length, 1)), (16, (b.length + 1 + k.1, 1))], 92⟩) (fun k => 4 - k.1) 0 (fun _ => rfl) ?_ ?_
        · exact ⟨⟨wkD_eq rfl, rfl, wkD_eq rfl, rfl, wkD_eq rfl, rfl, wkD_eq rfl, rfl, trivial⟩, trivial, ⟨rfl, Nat.le_of_ble_eq_true rfl, rfl, Nat.le_of_ble_eq_true rfl, trivial⟩⟩
        rintro ⟨k, hk⟩
        simp (config := {dsimp := false}) only [↓vp0, vz, vn, nq, tys, cellD, wideIR, if_true, if_false, implies_true, forall_const, ne_eq, reduceIte, reduceCtorEq, Nat.reduceEqDiff, Nat.reduceAdd, Nat.reduceMul, Nat.reduceLT, Nat.reduceSub, Nat.reduceLeDiff, Nat.reduceBNe, Nat.reduceBEq, Nat.reduceBeqDiff, List.range, List.range.loop, gl0, Tryd.ntmps81, Tryd.results81]
        refine ⟨fun h => ?_, fun h => ?_⟩
        · have h := of_decide_eq_true h
          refine ⟨by rw [IntWalk.i64_in _ (by omega)]; omega, some_tok (by simp [leI_len]; omega), by simp [leI_len]; omega, ⟨k + 1, by omega⟩, ⟨⟨wkD_eq ?_, rfl, wkD_eq rfl, rfl, wkD_eq ?_, rfl, wkD_eq rfl, rfl, trivial⟩, trivial, ⟨rfl, Nat.le_of_ble_eq_true rfl, ?_, Nat.le_of_ble_eq_true rfl, trivial⟩⟩, by (try simp only); omega⟩
          · exact some_i64 (by (try simp only); omega)
          · exact some_sli (by rw [byte_at hn (by omega), List.append_assoc, List.cons_append, ← le_succ])
          · exact some_tok (by simp [leI_len]; omega)
        · have h := of_decide_eq_false h
          obtain rfl : k = 4 := by omega
          simp (config := {dsimp := false}) only [↓vp0, vz, vn, nq, tys, cellD, wideIR, if_true, if_false, implies_true, forall_const, ne_eq, reduceIte, reduceCtorEq, Nat.reduceEqDiff, Nat.reduceAdd, Nat.reduceMul, Nat.reduceLT, Nat.reduceSub, Nat.reduceLeDiff, Nat.reduceBNe, Nat.reduceBEq, Nat.reduceBeqDiff, List.range, List.range.loop, gl0, Tryd.ntmps81, Tryd.results81, retB, vb, hc]
          exact ⟨[], [16], [], ⟨rfl, rfl⟩, ⟨rfl, rfl⟩, ⟨by simp, by simp⟩, by simp, by simp [getAll, S.tok, look], by simp [getAll, S.tok, look, leI_len]; try omega, ⟨_, rfl, rfl⟩, ⟨_, rfl, rfl⟩, id rfl⟩
      · refine loopI (Fin (8 + 1)) (fun k => [(35, .int .i64 (k.1 : Nat)), (34, .int .i64 ((8 : Nat) : Int)), (5, .sli (.tok 16) .u8 (b ++ 255 :: leI k.1 n)), (1, .int .u64 n)]) (fun k => ⟨[], [(0, (b.length, 1)), (16, (b.length + 1 + k.1, 1))], 92⟩) (fun k => 8 - k.1) 0 (fun _ => rfl) ?_ ?_
        · exact ⟨⟨wkD_eq rfl, rfl, wkD_eq rfl, rfl, wkD_eq rfl, rfl, wkD_eq rfl, rfl, trivial⟩, trivial, ⟨rfl, Nat.le_of_ble_eq_true rfl, rfl, Nat.le_of_ble_eq_true rfl, trivial⟩⟩
        rintro ⟨k, hk⟩
        simp (config := {dsimp := false}) only [↓vp0, vz, vn, nq, tys, cellD, wideIR, if_true, if_false, implies_true, forall_const, ne_eq, reduceIte, reduceCtorEq, Nat.reduceEqDiff, Nat.reduceAdd, Nat.reduceMul, Nat.reduceLT, Nat.reduceSub, Nat.reduceLeDiff, Nat.reduceBNe, Nat.reduceBEq, Nat.reduceBeqDiff, List.range, List.range.loop, gl0, Tryd.ntmps81, Tryd.results81]
        refine ⟨fun h => ?_, fun h => ?_⟩
        · have h := of_decide_eq_true h
          refine ⟨by rw [IntWalk.i64_in _ (by omega)]; omega, some_tok (by simp [leI_len]; omega), by simp [leI_len]; omega, ⟨k + 1, by omega⟩, ⟨⟨wkD_eq ?_, rfl, wkD_eq rfl, rfl, wkD_eq ?_, rfl, wkD_eq rfl, rfl, trivial⟩, trivial, ⟨rfl, Nat.le_of_ble_eq_true rfl, ?_, Nat.le_of_ble_eq_true rfl, trivial⟩⟩, by (try simp only); omega⟩
          · exact some_i64 (by (try simp only); omega)
          · exact some_sli (by rw [byte_at hn (by omega), List.append_assoc, List.cons_append, ← le_succ])
          · exact some_tok (by simp [leI_len]; omega)
        · have h := of_decide_eq_false h
          obtain rfl : k = 8 := by omega
          simp (config := {dsimp := false}) only [↓vp0, vz, vn, nq, tys, cellD, wideIR, if_true, if_false, implies_true, forall_const, ne_eq, reduceIte, reduceCtorEq, Nat.reduceEqDiff, Nat.reduceAdd, Nat.reduceMul, Nat.reduceLT, Nat.reduceSub, Nat.reduceLeDiff, Nat.reduceBNe, Nat.reduceBEq, Nat.reduceBeqDiff, List.range, List.range.loop, gl0, Tryd.ntmps81, Tryd.results81, retB, vb, hc]
          exact ⟨[], [16], [], ⟨rfl, rfl⟩, ⟨rfl, rfl⟩, ⟨by simp, by simp⟩, by simp, by simp [getAll, S.tok, look], by simp [getAll, S.tok, look, leI_len]; try omega, ⟨_, rfl, rfl⟩, ⟨_, rfl, rfl⟩, id rfl⟩
end Go.Vi.CD
end

section
set_option linter.unusedVariables false
set_option linter.unusedSimpArgs false
set_option maxHeartbeats 0
set_option maxRecDepth 20000
namespace Go.Vi.CD
open Go.Proofs

theorem take32 {p : List Int} (h : p.length = 32) : List.take (((32 : Nat) : Int) - 0).toNat (List.drop (Int.toNat 0) p) = p := by
  rw [show Int.toNat 0 = 0 from rfl, List.drop_zero]
  exact List.take_of_length_le (by rw [h]; decide)
theorem c_putText : Contract E 72 := by
  refine contract_boxR hE hgl (show E.P.funcs[72]? = some Tryd.f72 from Tryd.func72) rfl (p := sp_putText) (fun _ _ _ => rfl) ?_
  intro args ds tv hv hdl htl
  unfold sp_putText at hv ⊢
  split at hv
  case h_2 => exact hv.elim
  rename_i b s n
  refine ⟨by simp, Nat.le_of_ble_eq_true rfl, ?_⟩
  obtain ⟨rfl, hne, hb, hs⟩ := hv
  have e1 : IntKind.wrap .u64 (s.length : Int) = (s.length : Int) := IntWalk.u64_in _ (by omega)
  have hc := count_len (s.length : Int)
  simp (config := {dsimp := false}) only [↓vp0, vz, vn, nq, tys, cellD, wideIR, if_true, if_false, implies_true, forall_const, ne_eq, reduceIte, reduceCtorEq, Nat.reduceEqDiff, Nat.reduceAdd, Nat.reduceMul, Nat.reduceLT, Nat.reduceSub, Nat.reduceLeDiff, Nat.reduceBNe, Nat.reduceBEq, Nat.reduceBeqDiff, List.range, List.range.loop, gl0, Tryd.ntmps72, Tryd.results72, retR, vb, e1, spec_cput, sp_cput, c_cput, b_cput]
  refine ⟨.inr ⟨rfl, rfl, hne⟩, ⟨by omega, by omega⟩, by omega, some_tok (by simp), by simp; omega, ?_⟩
  refine ⟨0, 28, 4, _, _, ⟨rfl, ⟨by decide, by decide⟩, rfl, ⟨_, _, rfl, ?_⟩, rfl, [], [], [], ⟨rfl, rfl⟩, ⟨rfl, rfl⟩, ⟨by simp, by simp⟩, by simp, ?_, rfl, ⟨_, rfl, rfl⟩, ⟨_, rfl, rfl⟩, ?_⟩⟩
  · simp only [List.length_append]; omega
  · simp [getAll, S.tok, look, reT, textI]; omega
  · rfl
theorem c_putIn : Contract E 68 := by
  refine contract_boxR hE hgl (show E.P.funcs[68]? = some Tryd.f68 from Tryd.func68) rfl (p := sp_putIn) (fun _ _ _ => rfl) ?_
  intro args ds tv hv hdl htl
  unfold sp_putIn at hv ⊢
  split at hv
  case h_2 => exact hv.elim
  rename_i b p i s q w n
  refine ⟨by simp, Nat.le_of_ble_eq_true rfl, ?_⟩
  obtain ⟨rfl, hne, ⟨hp, hi, hq⟩, hb, hs⟩ := hv
  have u1 : IntKind.wrap .u64 i = i := IntWalk.u64_in _ (by have := hi.1; have := hi.2; omega)
  have u2 : IntKind.wrap .u64 q = q := IntWalk.u64_in _ (by have := hq.1; have := hq.2; omega)
  have tp := take32 hp
  have ht := text_len s
  simp (config := {dsimp := false}) only [↓vp0, vz, vn, nq, tys, cellD, wideIR, if_true, if_false, implies_true, forall_const, ne_eq, reduceIte, reduceCtorEq, Nat.reduceEqDiff, Nat.reduceAdd, Nat.reduceMul, Nat.reduceLT, Nat.reduceSub, Nat.reduceLeDiff, Nat.reduceBNe, Nat.reduceBEq, Nat.reduceBeqDiff, List.range, List.range.loop, gl0, Tryd.ntmps68, Tryd.results68, retR, vb]
  refine drawX [0, 3] [(4, [5, 6, 7, 8])] [(4, [0])] (by kernel_rfl) (wild_of rfl) ?_
  simp (config := {dsimp := false}) only [↓vp0, vz, vn, nq, tys, cellD, wideIR, if_true, if_false, implies_true, forall_const, ne_eq, reduceIte, reduceCtorEq, Nat.reduceEqDiff, Nat.reduceAdd, Nat.reduceMul, Nat.reduceLT, Nat.reduceSub, Nat.reduceLeDiff, Nat.reduceBNe, Nat.reduceBEq, Nat.reduceBeqDiff, List.range, List.range.loop, gl0, Tryd.ntmps68, Tryd.results68, retR, vb, ↓vy0, vx0, u1, tp, hp, spec_num, sp_num, c_num, b_num]
  refine ⟨by decide, by decide, by decide, by omega, okUps_of (by kernel_rfl) rfl, .inr ⟨rfl, by simp [hp], by simp [hp]⟩, .inl trivial, hi.1, hi.2, by simp [hp]; omega, okUps_all rfl (by kernel_rfl), ?_⟩
  refine drawX [0, 3] [(3, [4, 5, 6])] [(3, [52])] (by kernel_rfl) (wild_of rfl) ?_
  simp (config := {dsimp := false}) only [↓vp0, vz, vn, nq, tys, cellD, wideIR, if_true, if_false, implies_true, forall_const, ne_eq, reduceIte, reduceCtorEq, Nat.reduceEqDiff, Nat.reduceAdd, Nat.reduceMul, Nat.reduceLT, Nat.reduceSub, Nat.reduceLeDiff, Nat.reduceBNe, Nat.reduceBEq, Nat.reduceBeqDiff, List.range, List.range.loop, gl0, Tryd.ntmps68, Tryd.results68, retR, vb, ↓vy0, vx0, u2, spec_num, sp_num, c_num, b_num, spec_putText, sp_putText, c_putText, b_putText]
  have l4 : ∀ x : Int, (leI (Int.toNat 4) x).length = 4 := fun x => leI_len _ _
  have t4 : Int.toNat 4 = 4 := rfl
  refine ⟨by simp [leI_len] <;> omega, by simp [leI_len] <;> omega, by simp [leI_len, hp] <;> omega, by omega, okUps_of (by kernel_rfl) rfl, .inr ⟨rfl, by simp [leI_len] <;> omega, by simp [leI_len] <;> omega⟩, .inl trivial, hq.1, hq.2, by simp [leI_len, hp] <;> omega, okUps_all rfl (by kernel_rfl), ?_⟩
  refine ⟨0, 88, 4, _, _, ⟨rfl, ⟨by decide, by decide⟩, rfl, ⟨_, _, rfl, ?_⟩, rfl, [], [], [], ⟨rfl, rfl⟩, ⟨rfl, rfl⟩, ⟨by simp, by simp⟩, by simp, ?_, rfl, ⟨_, rfl, rfl⟩, ⟨_, rfl, rfl⟩, ?_⟩⟩
  · simp [hp, leI_len] <;> omega
  · simp [getAll, S.tok, look, reT, inI, hp, leI_len] <;> omega
  · simp only [inI, List.append_assoc]; rfl
theorem c_putOut : Contract E 70 := by
  refine contract_boxR hE hgl (show E.P.funcs[70]? = some Tryd.f70 from Tryd.func70) rfl (p := sp_putOut) (fun _ _ _ => rfl) ?_
  intro args ds tv hv hdl htl
  unfold sp_putOut at hv ⊢
  split at hv
  case h_2 => exact hv.elim
  rename_i b v s n
  refine ⟨by simp, Nat.le_of_ble_eq_true rfl, ?_⟩
  obtain ⟨rfl, hne, hv1, hb, hs⟩ := hv
  have u1 : IntKind.wrap .u64 v = v % 18446744073709551616 := rfl
  have ht := text_len s
  have m1 := Int.emod_nonneg v (show (18446744073709551616 : Int) ≠ 0 by decide)
  have m2 := Int.emod_lt_of_pos v (show (0 : Int) < 18446744073709551616 by decide)
  simp (config := {dsimp := false}) only [↓vp0, vz, vn, nq, tys, cellD, wideIR, if_true, if_false, implies_true, forall_const, ne_eq, reduceIte, reduceCtorEq, Nat.reduceEqDiff, Nat.reduceAdd, Nat.reduceMul, Nat.reduceLT, Nat.reduceSub, Nat.reduceLeDiff, Nat.reduceBNe, Nat.reduceBEq, Nat.reduceBeqDiff, List.range, List.range.loop, gl0, Tryd.ntmps70, Tryd.results70, retR, vb]
  refine drawX [0, 3] [(4, [5, 6])] [(4, [0])] (by kernel_rfl) (wild_of rfl) ?_
  simp (config := {dsimp := false}) only [↓vp0, vz, vn, nq, tys, cellD, wideIR, if_true, if_false, implies_true, forall_const, ne_eq, reduceIte, reduceCtorEq, Nat.reduceEqDiff, Nat.reduceAdd, Nat.reduceMul, Nat.reduceLT, Nat.reduceSub, Nat.reduceLeDiff, Nat.reduceBNe, Nat.reduceBEq, Nat.reduceBeqDiff, List.range, List.range.loop, gl0, Tryd.ntmps70, Tryd.results70, retR, vb, ↓vy0, vx0, u1, spec_num, sp_num, c_num, b_num, spec_putText, sp_putText, c_putText, b_putText]
  refine ⟨.inr ⟨rfl, rfl, hne⟩, .inr trivial, m1, m2, by omega, okUps_of (by kernel_rfl) rfl, by simp [leI_len], by simp [leI_len] <;> omega, by simp [leI_len] <;> omega, by omega, okUps_all rfl (by kernel_rfl), ?_⟩
  refine ⟨0, 32, 4, _, _, ⟨rfl, ⟨by decide, by decide⟩, rfl, ⟨_, _, rfl, ?_⟩, rfl, [], [], [], ⟨rfl, rfl⟩, ⟨rfl, rfl⟩, ⟨by simp, by simp⟩, by simp, ?_, rfl, ⟨_, rfl, rfl⟩, ⟨_, rfl, rfl⟩, ?_⟩⟩
  · simp [leI_len] <;> omega
  · simp [getAll, S.tok, look, reT, outI, leI_len] <;> omega
  · simp only [outI, List.append_assoc]; rfl
end Go.Vi.CD
end

section
set_option linter.unusedVariables false
set_option linter.unusedSimpArgs false
set_option maxHeartbeats 0
set_option maxRecDepth 20000
namespace Go.Vi.CD
open Go.Proofs

theorem flat_snoc {α : Type} [Inhabited α] (f : α → List Int) (l : List α) (k : Nat) (h : k < l.length) : (l.take (k + 1)).flatMap f = (l.take k).flatMap f ++ f (l.getD k default) := by
  rw [List.take_add_one, List.flatMap_append]
  simp [List.getD, h]
theorem flat_le {α : Type} [Inhabited α] (f : α → List Int) (l : List α) (k : Nat) (h : k < l.length) : ((l.take k).flatMap f).length + (f (l.getD k default)).length ≤ (l.flatMap f).length := by
  have e : l.flatMap f = (l.take (k + 1)).flatMap f ++ (l.drop (k + 1)).flatMap f := by rw [← List.flatMap_append, List.take_append_drop]
  rw [e, flat_snoc f l k h]
  simp only [List.length_append]
  omega
theorem c_layIn : Contract E 67 := by
  refine contract_boxR hE hgl (show E.P.funcs[67]? = some Tryd.f67 from Tryd.func67) rfl (p := (sp_layIn 68)) (fun _ _ _ => rfl) ?_
  intro args ds tv hv hdl htl
  unfold sp_layIn at hv ⊢
  split at hv
  case h_2 => exact hv.elim
  rename_i b es h n
  refine ⟨by simp, Nat.le_of_ble_eq_true rfl, ?_⟩
  obtain ⟨rfl, rfl, hne, ⟨l, rfl, hok, hl⟩, hlen⟩ := hv
  simp only [ins_D] at hlen ⊢
  have e1 : IntKind.wrap .u64 (l.length : Int) = (l.length : Int) := IntWalk.u64_in _ (by omega)
  have hc := count_len (l.length : Int)
  simp only [List.length_append] at hlen
  simp (config := {dsimp := false}) only [↓vp0, vz, vn, nq, tys, cellD, wideIR, if_true, if_false, implies_true, forall_const, ne_eq, reduceIte, reduceCtorEq, Nat.reduceEqDiff, Nat.reduceAdd, Nat.reduceMul, Nat.reduceLT, Nat.reduceSub, Nat.reduceLeDiff, Nat.reduceBNe, Nat.reduceBEq, Nat.reduceBeqDiff, List.range, List.range.loop, gl0, Tryd.ntmps67, Tryd.results67, retR, vb, e1, spec_cput, sp_cput, c_cput, b_cput]
  refine ⟨.inr ⟨rfl, rfl, hne⟩, ⟨by omega, by omega⟩, by omega, ?_⟩
  refine loopI (Fin (l.length + 1)) (fun k => [(16, .int .i64 (k.1 : Nat)), (15, .int .i64 (l.length : Nat)), (14, .sl .no 36 (insD l)), (0, .sli (.tok 28) .u8 (b ++ (countI l.length ++ (l.take k.1).flatMap inI))), (2, .fn 68 [])]) (fun k => ⟨[], [(0, (b.length, 1)), (28, ((b ++ (countI l.length ++ (l.take k.1).flatMap inI)).length, 1))], 48⟩) (fun k => l.length - k.1) 0 (fun _ => rfl) ?_ ?_
  · refine ⟨⟨wkD_eq rfl, rfl, wkD_eq rfl, rfl, wkD_eq rfl, rfl, wkD_eq ?_, rfl, wkD_eq rfl, rfl, trivial⟩, trivial, ⟨rfl, Nat.le_of_ble_eq_true rfl, ?_, Nat.le_of_ble_eq_true rfl, trivial⟩⟩
    · exact some_sli (by simp)
    · exact some_tok (by simp)
  rintro ⟨k, hk⟩
  simp (config := {dsimp := false}) only [↓vp0, vz, vn, nq, tys, cellD, wideIR, if_true, if_false, implies_true, forall_const, ne_eq, reduceIte, reduceCtorEq, Nat.reduceEqDiff, Nat.reduceAdd, Nat.reduceMul, Nat.reduceLT, Nat.reduceSub, Nat.reduceLeDiff, Nat.reduceBNe, Nat.reduceBEq, Nat.reduceBeqDiff, List.range, List.range.loop, gl0, Tryd.ntmps67, Tryd.results67]
  refine ⟨fun h => ?_, fun h => ?_⟩
  · have h := of_decide_eq_true h
    have hk' : k < l.length := by omega
    have g1 := insD_get l k hk'
    have hx := hok _ (getD_memI hk')
    have hfl := flat_le inI l k hk'
    have hsn := flat_snoc inI l k hk'
    have hs : (l.getD k default).script.length ≤ (inI (l.getD k default)).length := by simp only [inI, textI, List.length_append]; omega
    simp (config := {dsimp := false}) only [↓vp0, vz, vn, nq, tys, cellD, wideIR, if_true, if_false, implies_true, forall_const, ne_eq, reduceIte, reduceCtorEq, Nat.reduceEqDiff, Nat.reduceAdd, Nat.reduceMul, Nat.reduceLT, Nat.reduceSub, Nat.reduceLeDiff, Nat.reduceBNe, Nat.reduceBEq, Nat.reduceBeqDiff, List.range, List.range.loop, gl0, Tryd.ntmps67, Tryd.results67, vb, Int.toNat_natCast, g1, inD, spec_putIn, sp_putIn, c_putIn, b_putIn]
    refine ⟨by omega, by omega, by simp only [List.length_append]; omega, hx.prev, hx.ix, hx.seq, by simp only [List.length_append]; omega, by omega, ⟨k + 1, by omega⟩, ⟨⟨wkD_eq ?_, rfl, wkD_eq rfl, rfl, wkD_eq rfl, rfl, wkD_eq ?_, rfl, wkD_eq rfl, rfl, trivial⟩, trivial, ⟨rfl, Nat.le_of_ble_eq_true rfl, ?_, Nat.le_of_ble_eq_true rfl, trivial⟩⟩, by (try simp only); omega⟩
    · exact some_i64 (by (try simp only); omega)
    · exact some_sli (by rw [hsn]; first | done | rfl | (simp only [List.append_assoc]; done) | (simp only [List.append_assoc]; rfl))
    · exact some_tok (by rw [hsn]; simp only [List.length_append, Nat.add_assoc]; try rfl)

  · have h := of_decide_eq_false h
    obtain rfl : k = l.length := by omega
    simp (config := {dsimp := false}) only [↓vp0, vz, vn, nq, tys, cellD, wideIR, if_true, if_false, implies_true, forall_const, ne_eq, reduceIte, reduceCtorEq, Nat.reduceEqDiff, Nat.reduceAdd, Nat.reduceMul, Nat.reduceLT, Nat.reduceSub, Nat.reduceLeDiff, Nat.reduceBNe, Nat.reduceBEq, Nat.reduceBeqDiff, List.range, List.range.loop, gl0, Tryd.ntmps67, Tryd.results67, retR, vb, List.take_length]
    refine ⟨0, 28, 6, _, _, ⟨rfl, ⟨by decide, by decide⟩, rfl, ⟨_, _, rfl, ?_⟩, rfl, [], [], [], ⟨rfl, rfl⟩, ⟨rfl, rfl⟩, ⟨by simp, by simp⟩, by simp, by simp [getAll, S.tok, look, reT], rfl, ⟨_, rfl, rfl⟩, ⟨_, rfl, rfl⟩, id rfl⟩⟩
    simp only [List.length_append]; omega
theorem c_layOut : Contract E 69 := by
  refine contract_boxR hE hgl (show E.P.funcs[69]? = some Tryd.f69 from Tryd.func69) rfl (p := (sp_layOut 70)) (fun _ _ _ => rfl) ?_
  intro args ds tv hv hdl htl
  unfold sp_layOut at hv ⊢
  split at hv
  case h_2 => exact hv.elim
  rename_i b es h n
  refine ⟨by simp, Nat.le_of_ble_eq_true rfl, ?_⟩
  obtain ⟨rfl, rfl, hne, ⟨l, rfl, hok, hl⟩, hlen⟩ := hv
  simp only [outs_D] at hlen ⊢
  have e1 : IntKind.wrap .u64 (l.length : Int) = (l.length : Int) := IntWalk.u64_in _ (by omega)
  have hc := count_len (l.length : Int)
  simp only [List.length_append] at hlen
  simp (config := {dsimp := false}) only [↓vp0, vz, vn, nq, tys, cellD, wideIR, if_true, if_false, implies_true, forall_const, ne_eq, reduceIte, reduceCtorEq, Nat.reduceEqDiff, Nat.reduceAdd, Nat.reduceMul, Nat.reduceLT, Nat.reduceSub, Nat.reduceLeDiff, Nat.reduceBNe, Nat.reduceBEq, Nat.reduceBeqDiff, List.range, List.range.loop, gl0, Tryd.ntmps69, Tryd.results69, retR, vb, e1, spec_cput, sp_cput, c_cput, b_cput]
  refine ⟨.inr ⟨rfl, rfl, hne⟩, ⟨by omega, by omega⟩, by omega, ?_⟩
  refine loopI (Fin (l.length + 1)) (fun k => [(16, .int .i64 (k.1 : Nat)), (15, .int .i64 (l.length : Nat)), (14, .sl .no 2 (outsD l)), (0, .sli (.tok 28) .u8 (b ++ (countI l.length ++ (l.take k.1).flatMap outI))), (2, .fn 70 [])]) (fun k => ⟨[], [(0, (b.length, 1)), (28, ((b ++ (countI l.length ++ (l.take k.1).flatMap outI)).length, 1))], 48⟩) (fun k => l.length - k.1) 0 (fun _ => rfl) ?_ ?_
  · refine ⟨⟨wkD_eq rfl, rfl, wkD_eq rfl, rfl, wkD_eq rfl, rfl, wkD_eq ?_, rfl, wkD_eq rfl, rfl, trivial⟩, trivial, ⟨rfl, Nat.le_of_ble_eq_true rfl, ?_, Nat.le_of_ble_eq_true rfl, trivial⟩⟩
    · exact some_sli (by simp)
    · exact some_tok (by simp)
  rintro ⟨k, hk⟩
  simp (config := {dsimp := false}) only [↓vp0, vz, vn, nq, tys, cellD, wideIR, if_true, if_false, implies_true, forall_const, ne_eq, reduceIte, reduceCtorEq, Nat.reduceEqDiff, Nat.reduceAdd, Nat.reduceMul, Nat.reduceLT, Nat.reduceSub, Nat.reduceLeDiff, Nat.reduceBNe, Nat.reduceBEq, Nat.reduceBeqDiff, List.range, List.range.loop, gl0, Tryd.ntmps69, Tryd.results69]
  refine ⟨fun h => ?_, fun h => ?_⟩
  · have h := of_decide_eq_true h
    have hk' : k < l.length := by omega
    have g1 := outsD_get l k hk'
    have hx := hok _ (getD_memI hk')
    have hfl := flat_le outI l k hk'
    have hsn := flat_snoc outI l k hk'
    have hs : (l.getD k default).script.length ≤ (outI (l.getD k default)).length := by simp only [outI, textI, List.length_append]; omega
    simp (config := {dsimp := false}) only [↓vp0, vz, vn, nq, tys, cellD, wideIR, if_true, if_false, implies_true, forall_const, ne_eq, reduceIte, reduceCtorEq, Nat.reduceEqDiff, Nat.reduceAdd, Nat.reduceMul, Nat.reduceLT, Nat.reduceSub, Nat.reduceLeDiff, Nat.reduceBNe, Nat.reduceBEq, Nat.reduceBeqDiff, List.range, List.range.loop, gl0, Tryd.ntmps69, Tryd.results69, vb, Int.toNat_natCast, g1, outD, spec_putOut, sp_putOut, c_putOut, b_putOut]
    refine ⟨by omega, by omega, by simp only [List.length_append]; omega, hx.value, by simp only [List.length_append]; omega, by omega, ⟨k + 1, by omega⟩, ⟨⟨wkD_eq ?_, rfl, wkD_eq rfl, rfl, wkD_eq rfl, rfl, wkD_eq ?_, rfl, wkD_eq rfl, rfl, trivial⟩, trivial, ⟨rfl, Nat.le_of_ble_eq_true rfl, ?_, Nat.le_of_ble_eq_true rfl, trivial⟩⟩, by (try simp only); omega⟩
    · exact some_i64 (by (try simp only); omega)
    · exact some_sli (by rw [hsn]; first | done | rfl | (simp only [List.append_assoc]; done) | (simp only [List.append_assoc]; rfl))
    · exact some_tok (by rw [hsn]; simp only [List.length_append, Nat.add_assoc]; try rfl)

  · have h := of_decide_eq_false h
    obtain rfl : k = l.length := by omega
    simp (config := {dsimp := false}) only [↓vp0, vz, vn, nq, tys, cellD, wideIR, if_true, if_false, implies_true, forall_const, ne_eq, reduceIte, reduceCtorEq, Nat.reduceEqDiff, Nat.reduceAdd, Nat.reduceMul, Nat.reduceLT, Nat.reduceSub, Nat.reduceLeDiff, Nat.reduceBNe, Nat.reduceBEq, Nat.reduceBeqDiff, List.range, List.range.loop, gl0, Tryd.ntmps69, Tryd.results69, retR, vb, List.take_length]
    refine ⟨0, 28, 6, _, _, ⟨rfl, ⟨by decide, by decide⟩, rfl, ⟨_, _, rfl, ?_⟩, rfl, [], [], [], ⟨rfl, rfl⟩, ⟨rfl, rfl⟩, ⟨by simp, by simp⟩, by simp, by simp [getAll, S.tok, look, reT], rfl, ⟨_, rfl, rfl⟩, ⟨_, rfl, rfl⟩, id rfl⟩⟩
    simp only [List.length_append]; omega
theorem c_layWit : Contract E 71 := by
  refine contract_boxR hE hgl (show E.P.funcs[71]? = some Tryd.f71 from Tryd.func71) rfl (p := (sp_layWit 72)) (fun _ _ _ => rfl) ?_
  intro args ds tv hv hdl htl
  unfold sp_layWit at hv ⊢
  split at hv
  case h_2 => exact hv.elim
  rename_i b es h n
  refine ⟨by simp, Nat.le_of_ble_eq_true rfl, ?_⟩
  obtain ⟨rfl, rfl, hne, ⟨l, rfl, hok, hl⟩, hlen⟩ := hv
  simp only [ts_slis] at hlen ⊢
  have e1 : IntKind.wrap .u64 (l.length : Int) = (l.length : Int) := IntWalk.u64_in _ (by omega)
  have hc := count_len (l.length : Int)
  simp only [List.length_append] at hlen
  simp (config := {dsimp := false}) only [↓vp0, vz, vn, nq, tys, cellD, wideIR, if_true, if_false, implies_true, forall_const, ne_eq, reduceIte, reduceCtorEq, Nat.reduceEqDiff, Nat.reduceAdd, Nat.reduceMul, Nat.reduceLT, Nat.reduceSub, Nat.reduceLeDiff, Nat.reduceBNe, Nat.reduceBEq, Nat.reduceBeqDiff, List.range, List.range.loop, gl0, Tryd.ntmps71, Tryd.results71, retR, vb, e1, spec_cput, sp_cput, c_cput, b_cput]
  refine ⟨.inr ⟨rfl, rfl, hne⟩, ⟨by omega, by omega⟩, by omega, ?_⟩
  refine loopI (Fin (l.length + 1)) (fun k => [(16, .int .i64 (k.1 : Nat)), (15, .int .i64 (l.length : Nat)), (14, .sl .no 1 (slis l)), (0, .sli (.tok 28) .u8 (b ++ (countI l.length ++ (l.take k.1).flatMap textI))), (2, .fn 72 [])]) (fun k => ⟨[], [(0, (b.length, 1)), (28, ((b ++ (countI l.length ++ (l.take k.1).flatMap textI)).length, 1))], 48⟩) (fun k => l.length - k.1) 0 (fun _ => rfl) ?_ ?_
  · refine ⟨⟨wkD_eq rfl, rfl, wkD_eq rfl, rfl, wkD_eq rfl, rfl, wkD_eq ?_, rfl, wkD_eq rfl, rfl, trivial⟩, trivial, ⟨rfl, Nat.le_of_ble_eq_true rfl, ?_, Nat.le_of_ble_eq_true rfl, trivial⟩⟩
    · exact some_sli (by simp)
    · exact some_tok (by simp)
  rintro ⟨k, hk⟩
  simp (config := {dsimp := false}) only [↓vp0, vz, vn, nq, tys, cellD, wideIR, if_true, if_false, implies_true, forall_const, ne_eq, reduceIte, reduceCtorEq, Nat.reduceEqDiff, Nat.reduceAdd, Nat.reduceMul, Nat.reduceLT, Nat.reduceSub, Nat.reduceLeDiff, Nat.reduceBNe, Nat.reduceBEq, Nat.reduceBeqDiff, List.range, List.range.loop, gl0, Tryd.ntmps71, Tryd.results71]
  refine ⟨fun h => ?_, fun h => ?_⟩
  · have h := of_decide_eq_true h
    have hk' : k < l.length := by omega
    have g1 := slis_get l k hk'
    have hx := hok _ (getD_mem hk')
    have hfl := flat_le textI l k hk'
    have hsn := flat_snoc textI l k hk'
    have hfl : ((l.take k).flatMap textI).length + (textI (l.getD k [])).length ≤ (l.flatMap textI).length := hfl
    have hsn : (l.take (k + 1)).flatMap textI = (l.take k).flatMap textI ++ textI (l.getD k []) := hsn
    have hs : (l.getD k []).length ≤ (textI (l.getD k [])).length := by simp only [textI, List.length_append]; omega
    simp (config := {dsimp := false}) only [↓vp0, vz, vn, nq, tys, cellD, wideIR, if_true, if_false, implies_true, forall_const, ne_eq, reduceIte, reduceCtorEq, Nat.reduceEqDiff, Nat.reduceAdd, Nat.reduceMul, Nat.reduceLT, Nat.reduceSub, Nat.reduceLeDiff, Nat.reduceBNe, Nat.reduceBEq, Nat.reduceBeqDiff, List.range, List.range.loop, gl0, Tryd.ntmps71, Tryd.results71, vb, Int.toNat_natCast, g1, spec_putText, sp_putText, c_putText, b_putText]
    refine ⟨by omega, by omega, by simp only [List.length_append]; omega, by simp only [List.length_append]; omega, by omega, ⟨k + 1, by omega⟩, ⟨⟨wkD_eq ?_, rfl, wkD_eq rfl, rfl, wkD_eq rfl, rfl, wkD_eq ?_, rfl, wkD_eq rfl, rfl, trivial⟩, trivial, ⟨rfl, Nat.le_of_ble_eq_true rfl, ?_, Nat.le_of_ble_eq_true rfl, trivial⟩⟩, by (try simp only); omega⟩
    · exact some_i64 (by (try simp only); omega)
    · exact some_sli (by rw [hsn]; first | done | rfl | (simp only [List.append_assoc]; done) | (simp only [List.append_assoc]; rfl))
    · exact some_tok (by rw [hsn]; simp only [List.length_append, Nat.add_assoc]; try rfl)

  · have h := of_decide_eq_false h
    obtain rfl : k = l.length := by omega
    simp (config := {dsimp := false}) only [↓vp0, vz, vn, nq, tys, cellD, wideIR, if_true, if_false, implies_true, forall_const, ne_eq, reduceIte, reduceCtorEq, Nat.reduceEqDiff, Nat.reduceAdd, Nat.reduceMul, Nat.reduceLT, Nat.reduceSub, Nat.reduceLeDiff, Nat.reduceBNe, Nat.reduceBEq, Nat.reduceBeqDiff, List.range, List.range.loop, gl0, Tryd.ntmps71, Tryd.results71, retR, vb, List.take_length]
    refine ⟨0, 28, 6, _, _, ⟨rfl, ⟨by decide, by decide⟩, rfl, ⟨_, _, rfl, ?_⟩, rfl, [], [], [], ⟨rfl, rfl⟩, ⟨rfl, rfl⟩, ⟨by simp, by simp⟩, by simp, by simp [getAll, S.tok, look, reT], rfl, ⟨_, rfl, rfl⟩, ⟨_, rfl, rfl⟩, id rfl⟩⟩
    simp only [List.length_append]; omega
end Go.Vi.CD
end

section
set_option linter.unusedVariables false
set_option linter.unusedSimpArgs false
set_option maxHeartbeats 0
set_option maxRecDepth 20000
namespace Go.Vi.CD
open Go.Proofs

theorem c_laid : Contract E 58 := by
  refine contract_boxT hE hgl (show E.P.funcs[58]? = some Tryd.f58 from Tryd.func58) rfl (p := sp_laid) (fun _ _ _ => rfl) ?_
  intro args ds tv hv hdl htl
  unfold sp_laid at hv ⊢
  split at hv
  case h_2 => exact hv.elim
  rename_i b v is os l full
  refine ⟨by simp, Nat.le_of_ble_eq_true rfl, ?_⟩
  obtain ⟨hok, hlen⟩ := hv
  obtain ⟨t, rfl, rfl, rfl, rfl, ht, -⟩ := okT_tx hok
  simp only [ins_D, outs_D] at hlen ⊢
  have hi : isInL (insD t.ins) := ⟨_, rfl, ht.ins, ht.mi⟩
  have ho : isOutL (outsD t.outs) := ⟨_, rfl, ht.outs, ht.mo⟩
  have u1 : IntKind.wrap .u64 t.ver = t.ver := IntWalk.u64_in _ (by have := ht.ver.1; have := ht.ver.2; omega)
  have u2 : IntKind.wrap .u64 t.lock = t.lock := IntWalk.u64_in _ (by have := ht.lock.1; have := ht.lock.2; omega)
  have hlay : layI ⟨t.ver, t.ins, t.outs, t.lock⟩ full = leI 4 t.ver ++ ((if full = true then [0, 1] else []) ++ ((countI t.ins.length ++ t.ins.flatMap inI) ++ ((countI t.outs.length ++ t.outs.flatMap outI) ++ ((if full = true then t.ins.flatMap witI else []) ++ leI 4 t.lock)))) := by
    simp only [layI, List.append_assoc]
  rw [hlay] at hlen ⊢
  simp only [List.length_append, leI_len] at hlen
  obtain ⟨X, hX⟩ : ∃ X : Bool → List Int, ∀ f, X f = leI 4 t.ver ++ ((if f = true then [0, 1] else []) ++ ((countI t.ins.length ++ t.ins.flatMap inI) ++ (countI t.outs.length ++ t.outs.flatMap outI))) := ⟨_, fun _ => rfl⟩
  have t4 : Int.toNat 4 = 4 := rfl
  cases full
  · have hf := hX false
    simp only [Bool.false_eq_true, if_false, List.nil_append, List.length_nil, List.length_cons] at hlen hf
    have hl2 := congrArg List.length hf
    simp only [List.length_append, leI_len, List.length_cons, List.length_nil] at hl2
    have hmi := ht.mi
    have hne : (b ++ X false).length ≠ 0 := by simp only [List.length_append]; omega
    simp (config := {dsimp := false}) only [↓vp0, vz, vn, nq, tys, cellD, wideIR, if_true, if_false, implies_true, forall_const, ne_eq, reduceIte, reduceCtorEq, Nat.reduceEqDiff, Nat.reduceAdd, Nat.reduceMul, Nat.reduceLT, Nat.reduceSub, Nat.reduceLeDiff, Nat.reduceBNe, Nat.reduceBEq, Nat.reduceBeqDiff, List.range, List.range.loop, gl0, Tryd.ntmps58, Tryd.results58, retB, vb, u1, spec_num, sp_num, c_num, b_num, spec_layIn, sp_layIn, c_layIn, b_layIn, spec_layOut, sp_layOut, c_layOut, b_layOut]
    refine ⟨.inl ⟨rfl, rfl⟩, .inl trivial, ht.ver.1, ht.ver.2, by omega, by simp [leI_len], by simp [leI_len], hi, by simp only [List.length_append, List.length_cons, List.length_nil, leI_len, t4]; omega, by simp [leI_len], ho, by simp only [List.length_append, List.length_cons, List.length_nil, leI_len, t4]; omega, ?_⟩
    refine loopI (Fin (t.ins.length + 1)) (fun k => [(29, .int .i64 (k.1 : Nat)), (28, .int .i64 (t.ins.length : Nat)), (27, .sl .no 36 (insD t.ins)), (0, .sli (.tok 32) .u8 (b ++ (X false ++ []))), (2, .bool false), (4, .bp 8 0)]) (fun k => ⟨[(8, .agg [.int .u32 t.ver, .sl .no 36 (insD t.ins), .sl .no 2 (outsD t.outs), .int .u32 t.lock])], [(32, ((b ++ (X false ++ [])).length, 1))], 100⟩) (fun k => t.ins.length - k.1) 0 (fun _ => rfl) ?_ ?_
    · refine ⟨⟨wkD_eq rfl, rfl, wkD_eq rfl, rfl, wkD_eq rfl, rfl, wkD_eq ?_, rfl, wkD_eq rfl, rfl, wkD_eq rfl, rfl, trivial⟩, ⟨rfl, Nat.le_of_ble_eq_true rfl, rfl, trivial⟩, ⟨?_, Nat.le_of_ble_eq_true rfl, trivial⟩⟩
      · exact some_sli (by rw [hf]; simp [t4])
      · exact some_tok (by rw [hf]; simp only [List.length_append, List.length_cons, List.length_nil, leI_len, t4, Fin.val_zero, List.take_zero, List.flatMap_nil]; omega)
    rintro ⟨k, hk⟩
    simp (config := {dsimp := false}) only [↓vp0, vz, vn, nq, tys, cellD, wideIR, if_true, if_false, implies_true, forall_const, ne_eq, reduceIte, reduceCtorEq, Nat.reduceEqDiff, Nat.reduceAdd, Nat.reduceMul, Nat.reduceLT, Nat.reduceSub, Nat.reduceLeDiff, Nat.reduceBNe, Nat.reduceBEq, Nat.reduceBeqDiff, List.range, List.range.loop, gl0, Tryd.ntmps58, Tryd.results58]
    refine ⟨fun h => ?_, fun h => ?_⟩
    · have h := of_decide_eq_true h
      have hk' : k < t.ins.length := by omega
      have g1 := insD_get t.ins k hk'
      simp (config := {dsimp := false}) only [↓vp0, vz, vn, nq, tys, cellD, wideIR, if_true, if_false, implies_true, forall_const, ne_eq, reduceIte, reduceCtorEq, Nat.reduceEqDiff, Nat.reduceAdd, Nat.reduceMul, Nat.reduceLT, Nat.reduceSub, Nat.reduceLeDiff, Nat.reduceBNe, Nat.reduceBEq, Nat.reduceBeqDiff, List.range, List.range.loop, gl0, Tryd.ntmps58, Tryd.results58, vb, Int.toNat_natCast, g1, inD]
      refine ⟨by omega, by omega, ⟨k + 1, by omega⟩, ⟨⟨wkD_eq ?_, rfl, wkD_eq rfl, rfl, wkD_eq rfl, rfl, wkD_eq rfl, rfl, wkD_eq rfl, rfl, wkD_eq rfl, rfl, trivial⟩, ⟨rfl, Nat.le_of_ble_eq_true rfl, rfl, trivial⟩, ⟨rfl, Nat.le_of_ble_eq_true rfl, trivial⟩⟩, by (try simp only); omega⟩
      · exact some_i64 (by (try simp only); omega)
    · have h := of_decide_eq_false h
      obtain rfl : k = t.ins.length := by omega
      simp (config := {dsimp := false}) only [↓vp0, vz, vn, nq, tys, cellD, wideIR, if_true, if_false, implies_true, forall_const, ne_eq, reduceIte, reduceCtorEq, Nat.reduceEqDiff, Nat.reduceAdd, Nat.reduceMul, Nat.reduceLT, Nat.reduceSub, Nat.reduceLeDiff, Nat.reduceBNe, Nat.reduceBEq, Nat.reduceBeqDiff, List.range, List.range.loop, gl0, Tryd.ntmps58, Tryd.results58, retB, vb, u2, List.take_length, spec_num, sp_num, c_num, b_num]
      refine ⟨.inr ⟨rfl, rfl, by simp only [List.length_append, List.length_nil] at hne ⊢; omega⟩, .inl trivial, ht.lock.1, ht.lock.2, by simp only [List.length_append, List.length_nil]; omega, ?_⟩
      exact ⟨[], [120], [], ⟨rfl, rfl⟩, ⟨rfl, rfl⟩, ⟨by simp, by simp⟩, by simp, rfl, (show some [(_, 1)] = some [(_, 1)] from congrArg (fun n => some [(n, 1)]) (by rw [hf]; simp only [List.length_append, List.length_cons, List.length_nil, leI_len, t4]; omega)), ⟨_, rfl, rfl⟩, ⟨_, rfl, rfl⟩, by rw [hf]; simp only [List.append_assoc, List.cons_append, List.nil_append]; rfl⟩
  · have hf := hX true
    simp only [if_true, List.nil_append, List.length_nil, List.length_cons] at hlen hf
    have hl2 := congrArg List.length hf
    simp only [List.length_append, leI_len, List.length_cons, List.length_nil] at hl2
    have hmi := ht.mi
    have hne : (b ++ X true).length ≠ 0 := by simp only [List.length_append]; omega
    simp (config := {dsimp := false}) only [↓vp0, vz, vn, nq, tys, cellD, wideIR, if_true, if_false, implies_true, forall_const, ne_eq, reduceIte, reduceCtorEq, Nat.reduceEqDiff, Nat.reduceAdd, Nat.reduceMul, Nat.reduceLT, Nat.reduceSub, Nat.reduceLeDiff, Nat.reduceBNe, Nat.reduceBEq, Nat.reduceBeqDiff, List.range, List.range.loop, gl0, Tryd.ntmps58, Tryd.results58, retB, vb, u1, spec_num, sp_num, c_num, b_num, spec_layIn, sp_layIn, c_layIn, b_layIn, spec_layOut, sp_layOut, c_layOut, b_layOut]
    refine ⟨.inl ⟨rfl, rfl⟩, .inl trivial, ht.ver.1, ht.ver.2, by omega, by simp [leI_len], by simp [leI_len] <;> omega, by simp [leI_len], by simp [leI_len], hi, by simp only [List.length_append, List.length_cons, List.length_nil, leI_len, t4]; omega, by simp [leI_len], ho, by simp only [List.length_append, List.length_cons, List.length_nil, leI_len, t4]; omega, ?_⟩
    refine loopI (Fin (t.ins.length + 1)) (fun k => [(29, .int .i64 (k.1 : Nat)), (28, .int .i64 (t.ins.length : Nat)), (27, .sl .no 36 (insD t.ins)), (0, .sli (.tok 32) .u8 (b ++ (X true ++ (t.ins.take k.1).flatMap witI))), (2, .bool true), (4, .bp 8 0)]) (fun k => ⟨[(8, .agg [.int .u32 t.ver, .sl .no 36 (insD t.ins), .sl .no 2 (outsD t.outs), .int .u32 t.lock])], [(32, ((b ++ (X true ++ (t.ins.take k.1).flatMap witI)).length, 1))], 116⟩) (fun k => t.ins.length - k.1) 0 (fun _ => rfl) ?_ ?_
    · refine ⟨⟨wkD_eq rfl, rfl, wkD_eq rfl, rfl, wkD_eq rfl, rfl, wkD_eq ?_, rfl, wkD_eq rfl, rfl, wkD_eq rfl, rfl, trivial⟩, ⟨rfl, Nat.le_of_ble_eq_true rfl, rfl, trivial⟩, ⟨?_, Nat.le_of_ble_eq_true rfl, trivial⟩⟩
      · exact some_sli (by rw [hf]; simp [t4])
      · exact some_tok (by rw [hf]; simp only [List.length_append, List.length_cons, List.length_nil, leI_len, t4, Fin.val_zero, List.take_zero, List.flatMap_nil]; omega)
    rintro ⟨k, hk⟩
    simp (config := {dsimp := false}) only [↓vp0, vz, vn, nq, tys, cellD, wideIR, if_true, if_false, implies_true, forall_const, ne_eq, reduceIte, reduceCtorEq, Nat.reduceEqDiff, Nat.reduceAdd, Nat.reduceMul, Nat.reduceLT, Nat.reduceSub, Nat.reduceLeDiff, Nat.reduceBNe, Nat.reduceBEq, Nat.reduceBeqDiff, List.range, List.range.loop, gl0, Tryd.ntmps58, Tryd.results58]
    refine ⟨fun h => ?_, fun h => ?_⟩
    · have h := of_decide_eq_true h
      have hk' : k < t.ins.length := by omega
      have g1 := insD_get t.ins k hk'
      have hx := ht.ins _ (getD_memI hk')
      have hw : isWitL (slis (t.ins.getD k default).wit) := ⟨_, rfl, hx.wit, hx.many⟩
      have hfl := flat_le witI t.ins k hk'
      have hsn := flat_snoc witI t.ins k hk'
      have hwl : (witI (t.ins.getD k default)).length = (countI (t.ins.getD k default).wit.length).length + ((t.ins.getD k default).wit.flatMap textI).length := by simp only [witI, List.length_append]
      have hwe : witI (t.ins.getD k default) = countI (t.ins.getD k default).wit.length ++ (t.ins.getD k default).wit.flatMap textI := rfl
      simp (config := {dsimp := false}) only [↓vp0, vz, vn, nq, tys, cellD, wideIR, if_true, if_false, implies_true, forall_const, ne_eq, reduceIte, reduceCtorEq, Nat.reduceEqDiff, Nat.reduceAdd, Nat.reduceMul, Nat.reduceLT, Nat.reduceSub, Nat.reduceLeDiff, Nat.reduceBNe, Nat.reduceBEq, Nat.reduceBeqDiff, List.range, List.range.loop, gl0, Tryd.ntmps58, Tryd.results58, vb, Int.toNat_natCast, g1, inD, spec_layWit, sp_layWit, c_layWit, b_layWit]
      refine ⟨by omega, by omega, by simp only [List.length_append] at hne ⊢; omega, hw, by simp only [List.length_append]; omega, ⟨k + 1, by omega⟩, ⟨⟨wkD_eq ?_, rfl, wkD_eq rfl, rfl, wkD_eq rfl, rfl, wkD_eq ?_, rfl, wkD_eq rfl, rfl, wkD_eq rfl, rfl, trivial⟩, ⟨rfl, Nat.le_of_ble_eq_true rfl, rfl, trivial⟩, ⟨?_, Nat.le_of_ble_eq_true rfl, trivial⟩⟩, by (try simp only); omega⟩
      · exact some_i64 (by (try simp only); omega)
      · exact some_sli (by rw [hsn, hwe])
      · exact some_tok (by rw [hsn, hwe])
    · have h := of_decide_eq_false h
      obtain rfl : k = t.ins.length := by omega
      simp (config := {dsimp := false}) only [↓vp0, vz, vn, nq, tys, cellD, wideIR, if_true, if_false, implies_true, forall_const, ne_eq, reduceIte, reduceCtorEq, Nat.reduceEqDiff, Nat.reduceAdd, Nat.reduceMul, Nat.reduceLT, Nat.reduceSub, Nat.reduceLeDiff, Nat.reduceBNe, Nat.reduceBEq, Nat.reduceBeqDiff, List.range, List.range.loop, gl0, Tryd.ntmps58, Tryd.results58, retB, vb, u2, List.take_length, spec_num, sp_num, c_num, b_num]
      refine ⟨.inr ⟨rfl, rfl, by simp only [List.length_append, List.length_nil] at hne ⊢; omega⟩, .inl trivial, ht.lock.1, ht.lock.2, by simp only [List.length_append, List.length_nil]; omega, ?_⟩
      exact ⟨[], [136], [], ⟨rfl, rfl⟩, ⟨rfl, rfl⟩, ⟨by simp, by simp⟩, by simp, rfl, (show some [(_, 1)] = some [(_, 1)] from congrArg (fun n => some [(n, 1)]) (by rw [hf]; simp only [List.length_append, List.length_cons, List.length_nil, leI_len, t4]; omega)), ⟨_, rfl, rfl⟩, ⟨_, rfl, rfl⟩, by rw [hf]; simp only [List.append_assoc, List.cons_append, List.nil_append]; rfl⟩
end Go.Vi.CD
end

section
set_option linter.unusedVariables false
set_option linter.unusedSimpArgs false
set_option maxHeartbeats 0
set_option maxRecDepth 20000
namespace Go.Vi.CD
open Go.Proofs

theorem c_w1 : Contract E 32 := by
  refine contract_seeT hE hgl (show E.P.funcs[32]? = some Tryd.f32 from Tryd.func32) rfl (p := sp_w1) (fun _ _ _ => rfl) ?_
  intro args hv
  unfold sp_w1 at hv ⊢
  split at hv
  case h_2 => exact hv.elim
  rename_i p i s q w
  refine ⟨by simp, Nat.le_of_ble_eq_true rfl, ?_⟩
  simp (config := {dsimp := false}) only [↓vp0, vz, vn, nq, tys, cellD, wideIR, if_true, if_false, implies_true, forall_const, ne_eq, reduceIte, reduceCtorEq, Nat.reduceEqDiff, Nat.reduceAdd, Nat.reduceMul, Nat.reduceLT, Nat.reduceSub, Nat.reduceLeDiff, Nat.reduceBNe, Nat.reduceBEq, Nat.reduceBeqDiff, List.range, List.range.loop, gl0, Tryd.ntmps32, Tryd.results32]
  simp only [givesIf]
  congr 2
  exact propext (by omega)
theorem c_in1 : Contract E 79 := by
  refine contract_seeT hE hgl (show E.P.funcs[79]? = some Tryd.f79 from Tryd.func79) rfl (p := sp_in1) (fun _ _ _ => rfl) ?_
  intro args hv
  unfold sp_in1 at hv ⊢
  split at hv
  case h_2 => exact hv.elim
  rename_i s
  refine ⟨by simp, Nat.le_of_ble_eq_true rfl, ?_⟩
  simp (config := {dsimp := false}) only [↓vp0, vz, vn, nq, tys, cellD, wideIR, if_true, if_false, implies_true, forall_const, ne_eq, reduceIte, reduceCtorEq, Nat.reduceEqDiff, Nat.reduceAdd, Nat.reduceMul, Nat.reduceLT, Nat.reduceSub, Nat.reduceLeDiff, Nat.reduceBNe, Nat.reduceBEq, Nat.reduceBeqDiff, List.range, List.range.loop, gl0, Tryd.ntmps79, Tryd.results79]
  simp only [givesIf, longW]
  congr 2
  exact propext (by omega)
theorem c_tmany : Contract E 63 := by
  refine contract_seeT hE hgl (show E.P.funcs[63]? = some Tryd.f63 from Tryd.func63) rfl (p := sp_tmany) (fun _ _ _ => rfl) ?_
  intro args hv
  unfold sp_tmany at hv ⊢
  split at hv
  case h_2 => exact hv.elim
  rename_i n m
  refine ⟨by simp, Nat.le_of_ble_eq_true rfl, ?_⟩
  simp (config := {dsimp := false}) only [↓vp0, vz, vn, nq, tys, cellD, wideIR, if_true, if_false, implies_true, forall_const, ne_eq, reduceIte, reduceCtorEq, Nat.reduceEqDiff, Nat.reduceAdd, Nat.reduceMul, Nat.reduceLT, Nat.reduceSub, Nat.reduceLeDiff, Nat.reduceBNe, Nat.reduceBEq, Nat.reduceBeqDiff, List.range, List.range.loop, gl0, Tryd.ntmps63, Tryd.results63]
  simp only [gives, manyP, decide_eq_true_eq, decide_eq_false_iff_not]
  refine ⟨fun h => by rw [if_pos h], fun h => ⟨fun h2 => by rw [if_neg h, if_pos h2], fun h2 => by rw [if_neg h, if_neg h2]⟩⟩
theorem c_tout : Contract E 65 := by
  refine contract_seeT hE hgl (show E.P.funcs[65]? = some Tryd.f65 from Tryd.func65) rfl (p := sp_tout) (fun _ _ _ => rfl) ?_
  intro args hv
  unfold sp_tout at hv ⊢
  split at hv
  case h_2 => exact hv.elim
  rename_i v s
  refine ⟨by simp, Nat.le_of_ble_eq_true rfl, ?_⟩
  simp (config := {dsimp := false}) only [↓vp0, vz, vn, nq, tys, cellD, wideIR, if_true, if_false, implies_true, forall_const, ne_eq, reduceIte, reduceCtorEq, Nat.reduceEqDiff, Nat.reduceAdd, Nat.reduceMul, Nat.reduceLT, Nat.reduceSub, Nat.reduceLeDiff, Nat.reduceBNe, Nat.reduceBEq, Nat.reduceBeqDiff, List.range, List.range.loop, gl0, Tryd.ntmps65, Tryd.results65]
  simp only [givesIf]
  congr 2
  exact propext (by omega)
theorem idx_go {α : Type} [Inhabited α] (p : α → Bool) (l : List α) : (∀ k, k < l.length → (∀ j, j < k → p (l.getD j default) = false) → p (l.getD k default) = true → idxP p l = (k : Int)) ∧ ((∀ j, j < l.length → p (l.getD j default) = false) → idxP p l = -1) := by
  have hg : ∀ (i : Nat) (h : i < l.length), l.getD i default = l[i] := fun i h => by simp [List.getD, h]
  refine ⟨fun k hk hb hp => ?_, fun hb => ?_⟩
  · have : l.findIdx? p = some k := by
      rw [List.findIdx?_eq_some_iff_getElem]
      refine ⟨hk, by rw [← hg k hk]; exact hp, fun j hj => ?_⟩
      rw [← hg j (by omega), hb j hj]; decide
    simp only [idxP, this]
  · have : l.findIdx? p = none := by
      rw [List.findIdx?_eq_none_iff]
      intro x hx
      obtain ⟨i, h1, rfl⟩ := List.getElem_of_mem hx
      rw [← hg i h1]
      exact hb i h1
    simp only [idxP, this]
theorem idx_any {α : Type} (p : α → Bool) (l : List α) : decide (0 ≤ idxP p l) = l.any p := by
  cases h : l.findIdx? p with
  | none =>
    have h2 := List.findIdx?_eq_none_iff.1 h
    simp only [idxP, h]
    have : l.any p = false := List.any_eq_false.2 fun x hx => by rw [h2 x hx]; decide
    rw [this]; rfl
  | some k =>
    obtain ⟨h1, h2, _⟩ := List.findIdx?_eq_some_iff_getElem.1 h
    simp only [idxP, h]
    have : l.any p = true := List.any_eq_true.2 ⟨_, List.getElem_mem h1, h2⟩
    rw [this]; simp
theorem c_indexIn : Contract E 51 := by
  refine contract_seeT hE hgl (show E.P.funcs[51]? = some Tryd.f51 from Tryd.func51) rfl (p := (sp_indexIn 32)) (fun _ _ _ => rfl) ?_
  intro args hv
  unfold sp_indexIn at hv ⊢
  split at hv
  case h_2 => exact hv.elim
  rename_i es h
  refine ⟨by simp, Nat.le_of_ble_eq_true rfl, ?_⟩
  simp only [givesIf] at hv
  obtain ⟨rfl, l, rfl, hok, hl⟩ := hv
  obtain ⟨hI1, hI2⟩ := idx_go hasWit l
  simp (config := {dsimp := false}) only [↓vp0, vz, vn, nq, tys, cellD, wideIR, if_true, if_false, implies_true, forall_const, ne_eq, reduceIte, reduceCtorEq, Nat.reduceEqDiff, Nat.reduceAdd, Nat.reduceMul, Nat.reduceLT, Nat.reduceSub, Nat.reduceLeDiff, Nat.reduceBNe, Nat.reduceBEq, Nat.reduceBeqDiff, List.range, List.range.loop, gl0, Tryd.ntmps51, Tryd.results51]
  refine loopI {k : Nat // k ≤ l.length ∧ ∀ j, j < k → hasWit (l.getD j default) = false} (fun k => [(8, .int .i64 (k.1 : Nat)), (7, .int .i64 (l.length : Nat)), (0, .sl .no 36 (insD l)), (1, .fn 32 [])]) (fun _ => ⟨[], [], 16⟩) (fun k => l.length - k.1) ⟨0, by simp⟩ (fun _ => rfl) ?_ ?_
  · exact ⟨⟨wkD_eq rfl, rfl, wkD_eq rfl, rfl, wkD_eq rfl, rfl, wkD_eq rfl, rfl, trivial⟩, trivial, trivial⟩
  rintro ⟨k, hk, hb⟩
  simp (config := {dsimp := false}) only [↓vp0, vz, vn, nq, tys, cellD, wideIR, if_true, if_false, implies_true, forall_const, ne_eq, reduceIte, reduceCtorEq, Nat.reduceEqDiff, Nat.reduceAdd, Nat.reduceMul, Nat.reduceLT, Nat.reduceSub, Nat.reduceLeDiff, Nat.reduceBNe, Nat.reduceBEq, Nat.reduceBeqDiff, List.range, List.range.loop, gl0, Tryd.ntmps51, Tryd.results51]
  refine ⟨fun hh => ?_, fun hh => ?_⟩
  · have hh := of_decide_eq_true hh
    have hk' : k < l.length := by omega
    have g1 := insD_get l k hk'
    have hx := hok _ (getD_memI hk')
    cases hp : hasWit (l.getD k default)
    · have hq : decide (0 < (l.getD k default).wit.length) = false := hp
      simp (config := {dsimp := false}) only [↓vp0, vz, vn, nq, tys, cellD, wideIR, if_true, if_false, implies_true, forall_const, ne_eq, reduceIte, reduceCtorEq, Nat.reduceEqDiff, Nat.reduceAdd, Nat.reduceMul, Nat.reduceLT, Nat.reduceSub, Nat.reduceLeDiff, Nat.reduceBNe, Nat.reduceBEq, Nat.reduceBeqDiff, List.range, List.range.loop, gl0, Tryd.ntmps51, Tryd.results51, PF.toR, givesIf, Int.toNat_natCast, g1, inD, hq, spec_w1, sp_w1, c_w1, b_w1]
      refine ⟨by omega, by omega, hx.many, ⟨k + 1, by omega, fun j hj => ?_⟩, ⟨⟨wkD_eq ?_, rfl, wkD_eq rfl, rfl, wkD_eq rfl, rfl, wkD_eq rfl, rfl, trivial⟩, trivial, trivial⟩, by (try simp only); omega⟩
      · rcases Nat.lt_or_ge j k with h7 | h7
        · exact hb j h7
        · obtain rfl : j = k := by omega
          exact hp
      · exact some_i64 (by (try simp only); omega)
    · have hq : decide (0 < (l.getD k default).wit.length) = true := hp
      simp (config := {dsimp := false}) only [↓vp0, vz, vn, nq, tys, cellD, wideIR, if_true, if_false, implies_true, forall_const, ne_eq, reduceIte, reduceCtorEq, Nat.reduceEqDiff, Nat.reduceAdd, Nat.reduceMul, Nat.reduceLT, Nat.reduceSub, Nat.reduceLeDiff, Nat.reduceBNe, Nat.reduceBEq, Nat.reduceBeqDiff, List.range, List.range.loop, gl0, Tryd.ntmps51, Tryd.results51, PF.toR, givesIf, Int.toNat_natCast, g1, inD, hq, ins_D, hI1 k hk' hb hp, spec_w1, sp_w1, c_w1, b_w1]
      exact ⟨by omega, by omega, hx.many⟩
  · have hh := of_decide_eq_false hh
    obtain rfl : k = l.length := by omega
    simp (config := {dsimp := false}) only [↓vp0, vz, vn, nq, tys, cellD, wideIR, if_true, if_false, implies_true, forall_const, ne_eq, reduceIte, reduceCtorEq, Nat.reduceEqDiff, Nat.reduceAdd, Nat.reduceMul, Nat.reduceLT, Nat.reduceSub, Nat.reduceLeDiff, Nat.reduceBNe, Nat.reduceBEq, Nat.reduceBeqDiff, List.range, List.range.loop, gl0, Tryd.ntmps51, Tryd.results51, givesIf, ins_D, hI2 hb]
    all_goals rfl
theorem c_containsIn : Contract E 31 := by
  refine contract_seeT hE hgl (show E.P.funcs[31]? = some Tryd.f31 from Tryd.func31) rfl (p := (sp_containsIn 32)) (fun _ _ _ => rfl) ?_
  intro args hv
  unfold sp_containsIn at hv ⊢
  split at hv
  case h_2 => exact hv.elim
  rename_i es h
  refine ⟨by simp, Nat.le_of_ble_eq_true rfl, ?_⟩
  simp only [givesIf] at hv
  obtain ⟨rfl, l, rfl, hok, hl⟩ := hv
  simp (config := {dsimp := false}) only [↓vp0, vz, vn, nq, tys, cellD, wideIR, if_true, if_false, implies_true, forall_const, ne_eq, reduceIte, reduceCtorEq, Nat.reduceEqDiff, Nat.reduceAdd, Nat.reduceMul, Nat.reduceLT, Nat.reduceSub, Nat.reduceLeDiff, Nat.reduceBNe, Nat.reduceBEq, Nat.reduceBeqDiff, List.range, List.range.loop, gl0, Tryd.ntmps31, Tryd.results31, PF.toR, givesIf, ins_D, idx_any, spec_indexIn, sp_indexIn, c_indexIn, b_indexIn]
  exact ⟨_, rfl, hok, hl⟩
theorem c_twitnessed : Contract E 18 := by
  refine contract_seeT hE hgl (show E.P.funcs[18]? = some Tryd.f18 from Tryd.func18) rfl (p := sp_twitnessed) (fun _ _ _ => rfl) ?_
  intro args hv
  unfold sp_twitnessed at hv ⊢
  split at hv
  case h_2 => exact hv.elim
  rename_i v is os l
  refine ⟨by simp, Nat.le_of_ble_eq_true rfl, ?_⟩
  simp only [givesIf] at hv
  obtain ⟨t, rfl, rfl, rfl, rfl, ht, -⟩ := okT_tx hv
  simp (config := {dsimp := false}) only [↓vp0, vz, vn, nq, tys, cellD, wideIR, if_true, if_false, implies_true, forall_const, ne_eq, reduceIte, reduceCtorEq, Nat.reduceEqDiff, Nat.reduceAdd, Nat.reduceMul, Nat.reduceLT, Nat.reduceSub, Nat.reduceLeDiff, Nat.reduceBNe, Nat.reduceBEq, Nat.reduceBeqDiff, List.range, List.range.loop, gl0, Tryd.ntmps18, Tryd.results18, PF.toR, givesIf, spec_containsIn, sp_containsIn, c_containsIn, b_containsIn]
  exact ⟨_, rfl, ht.ins, ht.mi⟩
theorem c_indexB : Contract E 85 := by
  refine contract_seeT hE hgl (show E.P.funcs[85]? = some Tryd.f85 from Tryd.func85) rfl (p := (sp_indexB 79)) (fun _ _ _ => rfl) ?_
  intro args hv
  unfold sp_indexB at hv ⊢
  split at hv
  case h_2 => exact hv.elim
  rename_i es h
  refine ⟨by simp, Nat.le_of_ble_eq_true rfl, ?_⟩
  simp only [givesIf] at hv
  obtain ⟨rfl, l, rfl, hok, hl⟩ := hv
  obtain ⟨hI1, hI2⟩ := idx_go longW l
  simp (config := {dsimp := false}) only [↓vp0, vz, vn, nq, tys, cellD, wideIR, if_true, if_false, implies_true, forall_const, ne_eq, reduceIte, reduceCtorEq, Nat.reduceEqDiff, Nat.reduceAdd, Nat.reduceMul, Nat.reduceLT, Nat.reduceSub, Nat.reduceLeDiff, Nat.reduceBNe, Nat.reduceBEq, Nat.reduceBeqDiff, List.range, List.range.loop, gl0, Tryd.ntmps85, Tryd.results85]
  refine loopI {k : Nat // k ≤ l.length ∧ ∀ j, j < k → longW (l.getD j default) = false} (fun k => [(8, .int .i64 (k.1 : Nat)), (7, .int .i64 (l.length : Nat)), (0, .sl .no 1 (slis l)), (1, .fn 79 [])]) (fun _ => ⟨[], [], 16⟩) (fun k => l.length - k.1) ⟨0, by simp⟩ (fun _ => rfl) ?_ ?_
  · exact ⟨⟨wkD_eq rfl, rfl, wkD_eq rfl, rfl, wkD_eq rfl, rfl, wkD_eq rfl, rfl, trivial⟩, trivial, trivial⟩
  rintro ⟨k, hk, hb⟩
  simp (config := {dsimp := false}) only [↓vp0, vz, vn, nq, tys, cellD, wideIR, if_true, if_false, implies_true, forall_const, ne_eq, reduceIte, reduceCtorEq, Nat.reduceEqDiff, Nat.reduceAdd, Nat.reduceMul, Nat.reduceLT, Nat.reduceSub, Nat.reduceLeDiff, Nat.reduceBNe, Nat.reduceBEq, Nat.reduceBeqDiff, List.range, List.range.loop, gl0, Tryd.ntmps85, Tryd.results85]
  refine ⟨fun hh => ?_, fun hh => ?_⟩
  · have hh := of_decide_eq_true hh
    have hk' : k < l.length := by omega
    have g1 : (slis l).getD k .any = .sli .no .u8 (l.getD k default) := slis_get l k hk'
    have hx := hok _ (getD_memI hk')
    cases hp : longW (l.getD k default)
    · have hq : longW (l.getD k default) = false := hp
      simp (config := {dsimp := false}) only [↓vp0, vz, vn, nq, tys, cellD, wideIR, if_true, if_false, implies_true, forall_const, ne_eq, reduceIte, reduceCtorEq, Nat.reduceEqDiff, Nat.reduceAdd, Nat.reduceMul, Nat.reduceLT, Nat.reduceSub, Nat.reduceLeDiff, Nat.reduceBNe, Nat.reduceBEq, Nat.reduceBeqDiff, List.range, List.range.loop, gl0, Tryd.ntmps85, Tryd.results85, PF.toR, givesIf, Int.toNat_natCast, g1, hq, spec_in1, sp_in1, c_in1, b_in1]
      refine ⟨by omega, by omega, hx.2, ⟨k + 1, by omega, fun j hj => ?_⟩, ⟨⟨wkD_eq ?_, rfl, wkD_eq rfl, rfl, wkD_eq rfl, rfl, wkD_eq rfl, rfl, trivial⟩, trivial, trivial⟩, by (try simp only); omega⟩
      · rcases Nat.lt_or_ge j k with h7 | h7
        · exact hb j h7
        · obtain rfl : j = k := by omega
          exact hp
      · exact some_i64 (by (try simp only); omega)
    · have hq : longW (l.getD k default) = true := hp
      simp (config := {dsimp := false}) only [↓vp0, vz, vn, nq, tys, cellD, wideIR, if_true, if_false, implies_true, forall_const, ne_eq, reduceIte, reduceCtorEq, Nat.reduceEqDiff, Nat.reduceAdd, Nat.reduceMul, Nat.reduceLT, Nat.reduceSub, Nat.reduceLeDiff, Nat.reduceBNe, Nat.reduceBEq, Nat.reduceBeqDiff, List.range, List.range.loop, gl0, Tryd.ntmps85, Tryd.results85, PF.toR, givesIf, Int.toNat_natCast, g1, hq, ts_slis, hI1 k hk' hb hp, spec_in1, sp_in1, c_in1, b_in1]
      exact ⟨by omega, by omega, hx.2⟩
  · have hh := of_decide_eq_false hh
    obtain rfl : k = l.length := by omega
    simp (config := {dsimp := false}) only [↓vp0, vz, vn, nq, tys, cellD, wideIR, if_true, if_false, implies_true, forall_const, ne_eq, reduceIte, reduceCtorEq, Nat.reduceEqDiff, Nat.reduceAdd, Nat.reduceMul, Nat.reduceLT, Nat.reduceSub, Nat.reduceLeDiff, Nat.reduceBNe, Nat.reduceBEq, Nat.reduceBeqDiff, List.range, List.range.loop, gl0, Tryd.ntmps85, Tryd.results85, givesIf, ts_slis, hI2 hb]
    all_goals rfl
theorem c_containsB : Contract E 78 := by
  refine contract_seeT hE hgl (show E.P.funcs[78]? = some Tryd.f78 from Tryd.func78) rfl (p := (sp_containsB 79)) (fun _ _ _ => rfl) ?_
  intro args hv
  unfold sp_containsB at hv ⊢
  split at hv
  case h_2 => exact hv.elim
  rename_i es h
  refine ⟨by simp, Nat.le_of_ble_eq_true rfl, ?_⟩
  simp only [givesIf] at hv
  obtain ⟨rfl, l, rfl, hok, hl⟩ := hv
  simp (config := {dsimp := false}) only [↓vp0, vz, vn, nq, tys, cellD, wideIR, if_true, if_false, implies_true, forall_const, ne_eq, reduceIte, reduceCtorEq, Nat.reduceEqDiff, Nat.reduceAdd, Nat.reduceMul, Nat.reduceLT, Nat.reduceSub, Nat.reduceLeDiff, Nat.reduceBNe, Nat.reduceBEq, Nat.reduceBeqDiff, List.range, List.range.loop, gl0, Tryd.ntmps78, Tryd.results78, PF.toR, givesIf, ts_slis, idx_any, spec_indexB, sp_indexB, c_indexB, b_indexB]
  exact ⟨_, rfl, hok, hl⟩
theorem c_tin : Contract E 64 := by
  refine contract_seeT hE hgl (show E.P.funcs[64]? = some Tryd.f64 from Tryd.func64) rfl (p := sp_tin) (fun _ _ _ => rfl) ?_
  intro args hv
  unfold sp_tin at hv ⊢
  split at hv
  case h_2 => exact hv.elim
  rename_i p i s q w
  refine ⟨by simp, Nat.le_of_ble_eq_true rfl, ?_⟩
  simp only [givesIf] at hv
  obtain ⟨⟨l, rfl, hok, hl⟩, hs⟩ := hv
  have d1 : decide ((s.length : Int) ≤ 128) = decide (s.length ≤ 128) := by congr 1; exact propext (by omega)
  have d2 : decide ((l.length : Int) ≤ 8) = decide (l.length ≤ 8) := by congr 1; exact propext (by omega)
  have hw : isWitL (slis l) := ⟨_, rfl, hok, hl⟩
  cases h1 : decide (s.length ≤ 128) <;> cases h2 : decide (l.length ≤ 8)
  all_goals simp (config := {dsimp := false}) only [↓vp0, vz, vn, nq, tys, cellD, wideIR, if_true, if_false, implies_true, forall_const, ne_eq, reduceIte, reduceCtorEq, Nat.reduceEqDiff, Nat.reduceAdd, Nat.reduceMul, Nat.reduceLT, Nat.reduceSub, Nat.reduceLeDiff, Nat.reduceBNe, Nat.reduceBEq, Nat.reduceBeqDiff, List.range, List.range.loop, gl0, Tryd.ntmps64, Tryd.results64, PF.toR, givesIf, d1, d2, h1, h2, spec_containsB, sp_containsB, c_containsB, b_containsB]
  exact hw
theorem check_1 {t : TxP} (h : ¬ manyP t.ins.length 16 = 0) : checkP t = manyP t.ins.length 16 := by unfold checkP; rw [if_pos h]
theorem check_2 {t : TxP} (h : manyP t.ins.length 16 = 0) (h2 : ¬ manyP t.outs.length 16 = 0) : checkP t = manyP t.outs.length 16 := by unfold checkP; rw [if_neg (by simp [h]), if_pos h2]
theorem check_3 {t : TxP} (h : manyP t.ins.length 16 = 0) (h2 : manyP t.outs.length 16 = 0) {x : InP} (hx : x ∈ t.ins) (hb : inOkP x = false) : checkP t = 3 := by
  unfold checkP
  rw [if_neg (by simp [h]), if_neg (by simp [h2]), if_pos (List.all_eq_false.2 ⟨x, hx, by rw [hb]; decide⟩)]
theorem check_4 {t : TxP} (h : manyP t.ins.length 16 = 0) (h2 : manyP t.outs.length 16 = 0) (hi : ∀ j, j < t.ins.length → inOkP (t.ins.getD j default) = true) {x : OutP} (hx : x ∈ t.outs) (hb : outOkP x = false) : checkP t = 3 := by
  unfold checkP
  rw [if_neg (by simp [h]), if_neg (by simp [h2]), if_neg, if_pos (List.all_eq_false.2 ⟨x, hx, by rw [hb]; decide⟩)]
  rw [List.all_eq_true.2 fun x hx => by
    obtain ⟨i, h1, rfl⟩ := List.getElem_of_mem hx
    have := hi i h1
    simpa [List.getD, h1] using this]
  decide
theorem check_5 {t : TxP} (h : manyP t.ins.length 16 = 0) (h2 : manyP t.outs.length 16 = 0) (hi : ∀ j, j < t.ins.length → inOkP (t.ins.getD j default) = true) (ho : ∀ j, j < t.outs.length → outOkP (t.outs.getD j default) = true) : checkP t = 0 := by
  unfold checkP
  rw [if_neg (by simp [h]), if_neg (by simp [h2]), if_neg, if_neg]
  · rw [List.all_eq_true.2 fun x hx => by
      obtain ⟨i, h1, rfl⟩ := List.getElem_of_mem hx
      have := ho i h1
      simpa [List.getD, h1] using this]
    decide
  · rw [List.all_eq_true.2 fun x hx => by
      obtain ⟨i, h1, rfl⟩ := List.getElem_of_mem hx
      have := hi i h1
      simpa [List.getD, h1] using this]
    decide
theorem c_tcheck : Contract E 57 := by
  refine contract_seeT hE hgl (show E.P.funcs[57]? = some Tryd.f57 from Tryd.func57) rfl (p := sp_tcheck) (fun _ _ _ => rfl) ?_
  intro args hv
  unfold sp_tcheck at hv ⊢
  split at hv
  case h_2 => exact hv.elim
  rename_i v is os l
  refine ⟨by simp, Nat.le_of_ble_eq_true rfl, ?_⟩
  simp only [givesIf] at hv
  obtain ⟨t, rfl, rfl, rfl, rfl, ht, he⟩ := okT_tx hv
  have hmi := ht.mi
  have hmo := ht.mo
  have eta : (⟨t.ver, t.ins, t.outs, t.lock⟩ : TxP) = t := rfl
  by_cases h1 : manyP t.ins.length 16 = 0
  case neg => simp (config := {dsimp := false}) only [↓vp0, vz, vn, nq, tys, cellD, wideIR, if_true, if_false, implies_true, forall_const, ne_eq, reduceIte, reduceCtorEq, Nat.reduceEqDiff, Nat.reduceAdd, Nat.reduceMul, Nat.reduceLT, Nat.reduceSub, Nat.reduceLeDiff, Nat.reduceBNe, Nat.reduceBEq, Nat.reduceBeqDiff, List.range, List.range.loop, gl0, Tryd.ntmps57, Tryd.results57, PF.toR, givesIf, gives, h1, decide_false, eta, check_1 h1, spec_tmany, sp_tmany, c_tmany, b_tmany]
  by_cases h2 : manyP t.outs.length 16 = 0
  case neg => simp (config := {dsimp := false}) only [↓vp0, vz, vn, nq, tys, cellD, wideIR, if_true, if_false, implies_true, forall_const, ne_eq, reduceIte, reduceCtorEq, Nat.reduceEqDiff, Nat.reduceAdd, Nat.reduceMul, Nat.reduceLT, Nat.reduceSub, Nat.reduceLeDiff, Nat.reduceBNe, Nat.reduceBEq, Nat.reduceBeqDiff, List.range, List.range.loop, gl0, Tryd.ntmps57, Tryd.results57, PF.toR, givesIf, gives, h1, h2, eq_self, decide_true, decide_false, eta, check_2 h1 h2, spec_tmany, sp_tmany, c_tmany, b_tmany]
  simp (config := {dsimp := false}) only [↓vp0, vz, vn, nq, tys, cellD, wideIR, if_true, if_false, implies_true, forall_const, ne_eq, reduceIte, reduceCtorEq, Nat.reduceEqDiff, Nat.reduceAdd, Nat.reduceMul, Nat.reduceLT, Nat.reduceSub, Nat.reduceLeDiff, Nat.reduceBNe, Nat.reduceBEq, Nat.reduceBeqDiff, List.range, List.range.loop, gl0, Tryd.ntmps57, Tryd.results57, PF.toR, givesIf, gives, h1, h2, eq_self, decide_true, eta, spec_tmany, sp_tmany, c_tmany, b_tmany]
  refine loopI {k : Nat // k ≤ t.ins.length ∧ ∀ j, j < k → inOkP (t.ins.getD j default) = true} (fun k => [(26, .int .i64 (k.1 : Nat)), (25, .int .i64 (t.ins.length : Nat)), (24, .sl .no 36 (insD t.ins)), (1, .bp 0 0)]) (fun _ => ⟨[(0, .agg [.int .u32 t.ver, .sl .no 36 (insD t.ins), .sl .no 2 (outsD t.outs), .int .u32 t.lock])], [], 80⟩) (fun k => t.ins.length - k.1) ⟨0, by simp⟩ (fun _ => rfl) ?_ ?_
  · exact ⟨⟨wkD_eq rfl, rfl, wkD_eq rfl, rfl, wkD_eq rfl, rfl, wkD_eq rfl, rfl, trivial⟩, ⟨rfl, Nat.le_of_ble_eq_true rfl, rfl, trivial⟩, trivial⟩
  rintro ⟨k, hk, hb⟩
  simp (config := {dsimp := false}) only [↓vp0, vz, vn, nq, tys, cellD, wideIR, if_true, if_false, implies_true, forall_const, ne_eq, reduceIte, reduceCtorEq, Nat.reduceEqDiff, Nat.reduceAdd, Nat.reduceMul, Nat.reduceLT, Nat.reduceSub, Nat.reduceLeDiff, Nat.reduceBNe, Nat.reduceBEq, Nat.reduceBeqDiff, List.range, List.range.loop, gl0, Tryd.ntmps57, Tryd.results57]
  refine ⟨fun hh => ?_, fun hh => ?_⟩
  · have hh := of_decide_eq_true hh
    have hk' : k < t.ins.length := by omega
    have g1 := insD_get t.ins k hk'
    have hx := ht.ins _ (getD_memI hk')
    have hw : isWitL (slis (t.ins.getD k default).wit) := ⟨_, rfl, hx.wit, hx.many⟩
    cases hp : inOkP (t.ins.getD k default)
    · have hq : (decide ((t.ins.getD k default).script.length ≤ 128) && (decide ((t.ins.getD k default).wit.length ≤ 8) && !(t.ins.getD k default).wit.any longW)) = false := hp
      simp (config := {dsimp := false}) only [↓vp0, vz, vn, nq, tys, cellD, wideIR, if_true, if_false, implies_true, forall_const, ne_eq, reduceIte, reduceCtorEq, Nat.reduceEqDiff, Nat.reduceAdd, Nat.reduceMul, Nat.reduceLT, Nat.reduceSub, Nat.reduceLeDiff, Nat.reduceBNe, Nat.reduceBEq, Nat.reduceBeqDiff, List.range, List.range.loop, gl0, Tryd.ntmps57, Tryd.results57, PF.toR, givesIf, Int.toNat_natCast, g1, inD, hq, check_3 h1 h2 (getD_memI hk') hp, spec_tin, sp_tin, c_tin, b_tin]
      exact ⟨by omega, by omega, hw, hx.script.2⟩
    · have hq : (decide ((t.ins.getD k default).script.length ≤ 128) && (decide ((t.ins.getD k default).wit.length ≤ 8) && !(t.ins.getD k default).wit.any longW)) = true := hp
      simp (config := {dsimp := false}) only [↓vp0, vz, vn, nq, tys, cellD, wideIR, if_true, if_false, implies_true, forall_const, ne_eq, reduceIte, reduceCtorEq, Nat.reduceEqDiff, Nat.reduceAdd, Nat.reduceMul, Nat.reduceLT, Nat.reduceSub, Nat.reduceLeDiff, Nat.reduceBNe, Nat.reduceBEq, Nat.reduceBeqDiff, List.range, List.range.loop, gl0, Tryd.ntmps57, Tryd.results57, PF.toR, givesIf, Int.toNat_natCast, g1, inD, hq, spec_tin, sp_tin, c_tin, b_tin]
      refine ⟨by omega, by omega, hw, hx.script.2, ⟨k + 1, by omega, fun j hj => ?_⟩, ⟨⟨wkD_eq ?_, rfl, wkD_eq rfl, rfl, wkD_eq rfl, rfl, wkD_eq rfl, rfl, trivial⟩, ⟨rfl, Nat.le_of_ble_eq_true rfl, rfl, trivial⟩, trivial⟩, by (try simp only); omega⟩
      · rcases Nat.lt_or_ge j k with h7 | h7
        · exact hb j h7
        · obtain rfl : j = k := by omega
          exact hp
      · exact some_i64 (by (try simp only); omega)
  have hh := of_decide_eq_false hh
  obtain rfl : k = t.ins.length := by omega
  have hbi := hb
  refine loopI {k : Nat // k ≤ t.outs.length ∧ ∀ j, j < k → outOkP (t.outs.getD j default) = true} (fun k => [(37, .int .i64 (k.1 : Nat)), (36, .int .i64 (t.outs.length : Nat)), (35, .sl .no 2 (outsD t.outs)), (1, .bp 0 0)]) (fun _ => ⟨[(0, .agg [.int .u32 t.ver, .sl .no 36 (insD t.ins), .sl .no 2 (outsD t.outs), .int .u32 t.lock])], [], 100⟩) (fun k => t.outs.length - k.1) ⟨0, by simp⟩ (fun _ => rfl) ?_ ?_
  · exact ⟨⟨wkD_eq rfl, rfl, wkD_eq rfl, rfl, wkD_eq rfl, rfl, wkD_eq rfl, rfl, trivial⟩, ⟨rfl, Nat.le_of_ble_eq_true rfl, rfl, trivial⟩, trivial⟩
  rintro ⟨k, hk, hb⟩
  simp (config := {dsimp := false}) only [↓vp0, vz, vn, nq, tys, cellD, wideIR, if_true, if_false, implies_true, forall_const, ne_eq, reduceIte, reduceCtorEq, Nat.reduceEqDiff, Nat.reduceAdd, Nat.reduceMul, Nat.reduceLT, Nat.reduceSub, Nat.reduceLeDiff, Nat.reduceBNe, Nat.reduceBEq, Nat.reduceBeqDiff, List.range, List.range.loop, gl0, Tryd.ntmps57, Tryd.results57]
  refine ⟨fun hh => ?_, fun hh => ?_⟩
  · have hh := of_decide_eq_true hh
    have hk' : k < t.outs.length := by omega
    have g1 := outsD_get t.outs k hk'
    have hx := ht.outs _ (getD_memI hk')
    skip
    cases hp : outOkP (t.outs.getD k default)
    · have hq : decide ((t.outs.getD k default).script.length ≤ 128) = false := hp
      simp (config := {dsimp := false}) only [↓vp0, vz, vn, nq, tys, cellD, wideIR, if_true, if_false, implies_true, forall_const, ne_eq, reduceIte, reduceCtorEq, Nat.reduceEqDiff, Nat.reduceAdd, Nat.reduceMul, Nat.reduceLT, Nat.reduceSub, Nat.reduceLeDiff, Nat.reduceBNe, Nat.reduceBEq, Nat.reduceBeqDiff, List.range, List.range.loop, gl0, Tryd.ntmps57, Tryd.results57, PF.toR, givesIf, Int.toNat_natCast, g1, outD, hq, check_4 h1 h2 hbi (getD_memI hk') hp, spec_tout, sp_tout, c_tout, b_tout]
      exact ⟨by omega, by omega, hx.script.2⟩
    · have hq : decide ((t.outs.getD k default).script.length ≤ 128) = true := hp
      simp (config := {dsimp := false}) only [↓vp0, vz, vn, nq, tys, cellD, wideIR, if_true, if_false, implies_true, forall_const, ne_eq, reduceIte, reduceCtorEq, Nat.reduceEqDiff, Nat.reduceAdd, Nat.reduceMul, Nat.reduceLT, Nat.reduceSub, Nat.reduceLeDiff, Nat.reduceBNe, Nat.reduceBEq, Nat.reduceBeqDiff, List.range, List.range.loop, gl0, Tryd.ntmps57, Tryd.results57, PF.toR, givesIf, Int.toNat_natCast, g1, outD, hq, spec_tout, sp_tout, c_tout, b_tout]
      refine ⟨by omega, by omega, hx.script.2, ⟨k + 1, by omega, fun j hj => ?_⟩, ⟨⟨wkD_eq ?_, rfl, wkD_eq rfl, rfl, wkD_eq rfl, rfl, wkD_eq rfl, rfl, trivial⟩, ⟨rfl, Nat.le_of_ble_eq_true rfl, rfl, trivial⟩, trivial⟩, by (try simp only); omega⟩
      · rcases Nat.lt_or_ge j k with h7 | h7
        · exact hb j h7
        · obtain rfl : j = k := by omega
          exact hp
      · exact some_i64 (by (try simp only); omega)
  have hh := of_decide_eq_false hh
  obtain rfl : k = t.outs.length := by omega
  simp (config := {dsimp := false}) only [↓vp0, vz, vn, nq, tys, cellD, wideIR, if_true, if_false, implies_true, forall_const, ne_eq, reduceIte, reduceCtorEq, Nat.reduceEqDiff, Nat.reduceAdd, Nat.reduceMul, Nat.reduceLT, Nat.reduceSub, Nat.reduceLeDiff, Nat.reduceBNe, Nat.reduceBEq, Nat.reduceBeqDiff, List.range, List.range.loop, gl0, Tryd.ntmps57, Tryd.results57, check_5 h1 h2 hbi hb]
  all_goals rfl
end Go.Vi.CD
end

section
set_option linter.unusedVariables false
set_option linter.unusedSimpArgs false
set_option maxHeartbeats 0
set_option maxRecDepth 20000
namespace Go.Vi.CD
open Go.Proofs

theorem u64_ge (n : Int) : 0 ≤ IntKind.wrap .u64 n := by rw [IntKind.wrap_u64]; omega
theorem turnedI_take (x : Int) (ns : List Int) (i : Nat) (h : i < ns.length) : turnedI x (ns.take (i + 1)) = xorI .u32 (turnedI x (ns.take i)) (rotl x (IntKind.wrap .i64 (-(ns[i]?.getD 0)))) := by
  unfold turnedI
  rw [List.take_add_one, List.foldl_append]
  simp [h]
theorem hexVal_at (i : Nat) (h : i < 16) : hexVal (byteAt hexT i) = i := by
  have : ∀ i : Fin 16, hexVal (byteAt hexT (i.1 : Nat)) = i.1 := by decide
  exact this ⟨i, h⟩
theorem hexVal_none (c : Int) (h : ∀ j : Nat, j < 16 → byteAt hexT j ≠ c) : hexVal c = -1 := by
  unfold hexVal
  split
  · exfalso
    have : c = 48 ∨ c = 49 ∨ c = 50 ∨ c = 51 ∨ c = 52 ∨ c = 53 ∨ c = 54 ∨ c = 55 ∨ c = 56 ∨ c = 57 := by omega
    rcases this with rfl | rfl | rfl | rfl | rfl | rfl | rfl | rfl | rfl | rfl
    · exact h 0 (by omega) (by decide)
    · exact h 1 (by omega) (by decide)
    · exact h 2 (by omega) (by decide)
    · exact h 3 (by omega) (by decide)
    · exact h 4 (by omega) (by decide)
    · exact h 5 (by omega) (by decide)
    · exact h 6 (by omega) (by decide)
    · exact h 7 (by omega) (by decide)
    · exact h 8 (by omega) (by decide)
    · exact h 9 (by omega) (by decide)
  · split
    · exfalso
      have : c = 97 ∨ c = 98 ∨ c = 99 ∨ c = 100 ∨ c = 101 ∨ c = 102 := by omega
      rcases this with rfl | rfl | rfl | rfl | rfl | rfl
      · exact h 10 (by omega) (by decide)
      · exact h 11 (by omega) (by decide)
      · exact h 12 (by omega) (by decide)
      · exact h 13 (by omega) (by decide)
      · exact h 14 (by omega) (by decide)
      · exact h 15 (by omega) (by decide)
    · rfl
theorem c_first : Contract E 52 := by
  refine contract_seeT hE hgl (show E.P.funcs[52]? = some Tryd.f52 from Tryd.func52) rfl (p := sp_first) (fun _ _ _ => rfl) ?_
  intro args hv
  unfold sp_first at hv ⊢
  split at hv
  case h_2 => exact hv.elim
  refine ⟨by simp, by simp, ?_⟩
  simp (config := {dsimp := false}) only [↓vp0, vz, vn, nq, tys, cellD, wideIR, if_true, if_false, implies_true, forall_const, ne_eq, reduceIte, reduceCtorEq, Nat.reduceEqDiff, Nat.reduceAdd, Nat.reduceMul, Nat.reduceLT, Nat.reduceSub, Nat.reduceLeDiff, Nat.reduceBNe, Nat.reduceBEq, Nat.reduceBeqDiff, List.range, List.range.loop, gl0, Tryd.ntmps52, Tryd.results52, gives, u32s, h0]
theorem c_plus : Contract E 75 := by
  refine contract_seeT hE hgl (show E.P.funcs[75]? = some Tryd.f75 from Tryd.func75) rfl (p := sp_plus) (fun _ _ _ => rfl) ?_
  intro args hv
  unfold sp_plus at hv ⊢
  split at hv
  case h_2 => exact hv.elim
  refine ⟨by simp, Nat.le_of_ble_eq_true rfl, ?_⟩
  simp (config := {dsimp := false}) only [↓vp0, vz, vn, nq, tys, cellD, wideIR, if_true, if_false, implies_true, forall_const, ne_eq, reduceIte, reduceCtorEq, Nat.reduceEqDiff, Nat.reduceAdd, Nat.reduceMul, Nat.reduceLT, Nat.reduceSub, Nat.reduceLeDiff, Nat.reduceBNe, Nat.reduceBEq, Nat.reduceBeqDiff, List.range, List.range.loop, gl0, Tryd.ntmps75, Tryd.results75]
  rfl
theorem c_rotl : Contract E 89 := by
  refine contract_seeT hE hgl (show E.P.funcs[89]? = some Tryd.f89 from Tryd.func89) rfl (p := sp_rotl) (fun _ _ _ => rfl) ?_
  intro args hv
  unfold sp_rotl at hv ⊢
  split at hv
  case h_2 => exact hv.elim
  refine ⟨by simp, Nat.le_of_ble_eq_true rfl, ?_⟩
  simp (config := {dsimp := false}) only [↓vp0, vz, vn, nq, tys, cellD, wideIR, if_true, if_false, implies_true, forall_const, ne_eq, reduceIte, reduceCtorEq, Nat.reduceEqDiff, Nat.reduceAdd, Nat.reduceMul, Nat.reduceLT, Nat.reduceSub, Nat.reduceLeDiff, Nat.reduceBNe, Nat.reduceBEq, Nat.reduceBeqDiff, List.range, List.range.loop, gl0, Tryd.ntmps89, Tryd.results89]
  exact ⟨u64_ge _, u64_ge _, rfl⟩
theorem c_turned : Contract E 83 := by
  refine contract_seeT hE hgl (show E.P.funcs[83]? = some Tryd.f83 from Tryd.func83) rfl (p := sp_turned) (fun _ _ _ => rfl) ?_
  intro args hv
  unfold sp_turned at hv ⊢
  split at hv
  case h_2 => exact hv.elim
  rename_i x ns
  refine ⟨by simp, Nat.le_of_ble_eq_true rfl, ?_⟩
  simp (config := {dsimp := false}) only [↓vp0, vz, vn, nq, tys, cellD, wideIR, if_true, if_false, implies_true, forall_const, ne_eq, reduceIte, reduceCtorEq, Nat.reduceEqDiff, Nat.reduceAdd, Nat.reduceMul, Nat.reduceLT, Nat.reduceSub, Nat.reduceLeDiff, Nat.reduceBNe, Nat.reduceBEq, Nat.reduceBeqDiff, List.range, List.range.loop, gl0, Tryd.ntmps83, Tryd.results83]
  refine loopI (Fin (ns.length + 1)) (fun i => [(4, .int .u32 (turnedI x (ns.take i))), (0, .int .u32 x), (7, .sli .no .i64 ns), (8, .int .i64 ns.length), (9, .int .i64 (i : Nat))]) (fun _ => ⟨[], [], 16⟩) (fun i => ns.length - i) 0 (fun _ => rfl) ?_ ?_
  · simp [Wk, wkSl, wkD, wkBs, wkTs, look, D.under, underO, turnedI]
  intro i
  simp (config := {dsimp := false}) only [↓vp0, vz, vn, nq, tys, cellD, wideIR, if_true, if_false, implies_true, forall_const, ne_eq, reduceIte, reduceCtorEq, Nat.reduceEqDiff, Nat.reduceAdd, Nat.reduceMul, Nat.reduceLT, Nat.reduceSub, Nat.reduceLeDiff, Nat.reduceBNe, Nat.reduceBEq, Nat.reduceBeqDiff, List.range, List.range.loop, gl0, Tryd.ntmps83, Tryd.results83, PF.toR, gives, spec_rotl, sp_rotl, c_rotl, b_rotl]
  obtain ⟨i, hi⟩ := i
  simp only [givesIf] at hv
  refine ⟨fun h => ?_, fun h => ?_⟩
  · have h := of_decide_eq_true h
    simp only at h
    refine ⟨by simp, h, ⟨i + 1, by omega⟩, ?_, by simp only; omega⟩
    simp [Wk, wkSl, wkD, wkBs, wkTs, look, D.under, underO, turnedI_take x ns i (by omega), IntWalk.i64_in ((i : Int) + 1) (by omega)]
  · have h := of_decide_eq_false h
    simp only at h
    change D.int .u32 (turnedI x (ns.take i)) = D.int .u32 (turnedI x ns)
    rw [List.take_of_length_le (by omega)]
theorem c_round : Contract E 74 := by
  refine contract_seeT hE hgl (show E.P.funcs[74]? = some Tryd.f74 from Tryd.func74) rfl (p := sp_round) (fun _ _ _ => rfl) ?_
  intro args hv
  unfold sp_round at hv ⊢
  split at hv
  case h_2 => exact hv.elim
  refine ⟨by simp, Nat.le_of_ble_eq_true rfl, ?_⟩
  simp (config := {dsimp := false}) only [↓vp0, vz, vn, nq, tys, cellD, wideIR, if_true, if_false, implies_true, forall_const, ne_eq, reduceIte, reduceCtorEq, Nat.reduceEqDiff, Nat.reduceAdd, Nat.reduceMul, Nat.reduceLT, Nat.reduceSub, Nat.reduceLeDiff, Nat.reduceBNe, Nat.reduceBEq, Nat.reduceBeqDiff, List.range, List.range.loop, gl0, Tryd.ntmps74, Tryd.results74]
  refine drawI [2, 4, 1] (by kernel_rfl) ?_
  simp (config := {dsimp := false}) only [↓vp0, vz, vn, nq, tys, cellD, wideIR, if_true, if_false, implies_true, forall_const, ne_eq, reduceIte, reduceCtorEq, Nat.reduceEqDiff, Nat.reduceAdd, Nat.reduceMul, Nat.reduceLT, Nat.reduceSub, Nat.reduceLeDiff, Nat.reduceBNe, Nat.reduceBEq, Nat.reduceBeqDiff, List.range, List.range.loop, gl0, Tryd.ntmps74, Tryd.results74, PF.toR, givesIf, spec_turned, sp_turned, c_turned, b_turned]
  refine drawI [2, 4, 5] (by kernel_rfl) ?_
  simp (config := {dsimp := false}) only [↓vp0, vz, vn, nq, tys, cellD, wideIR, if_true, if_false, implies_true, forall_const, ne_eq, reduceIte, reduceCtorEq, Nat.reduceEqDiff, Nat.reduceAdd, Nat.reduceMul, Nat.reduceLT, Nat.reduceSub, Nat.reduceLeDiff, Nat.reduceBNe, Nat.reduceBEq, Nat.reduceBeqDiff, List.range, List.range.loop, gl0, Tryd.ntmps74, Tryd.results74, PF.toR, givesIf, spec_turned, sp_turned, c_turned, b_turned]
  rfl
theorem be_take (n : Int) (i : Nat) (h : i < 8) : (beBytes n).take (i + 1) = (beBytes n).take i ++ [IntKind.wrap .u8 (shrI .u64 (shlI .u64 (IntKind.wrap .u64 n) 3) (56 - 8 * (i : Int)))] := by
  match i, h with
  | 0, _ => rfl
  | 1, _ => rfl
  | 2, _ => rfl
  | 3, _ => rfl
  | 4, _ => rfl
  | 5, _ => rfl
  | 6, _ => rfl
  | 7, _ => rfl
theorem c_closing : Contract E 59 := by
  refine contract_seeT hE hgl (show E.P.funcs[59]? = some Tryd.f59 from Tryd.func59) rfl (p := sp_closing) (fun _ _ _ => rfl) ?_
  intro args hv
  unfold sp_closing at hv ⊢
  split at hv
  case h_2 => exact hv.elim
  rename_i n
  refine ⟨by simp, Nat.le_of_ble_eq_true rfl, ?_⟩
  simp (config := {dsimp := false}) only [↓vp0, vz, vn, nq, tys, cellD, wideIR, if_true, if_false, implies_true, forall_const, ne_eq, reduceIte, reduceCtorEq, Nat.reduceEqDiff, Nat.reduceAdd, Nat.reduceMul, Nat.reduceLT, Nat.reduceSub, Nat.reduceLeDiff, Nat.reduceBNe, Nat.reduceBEq, Nat.reduceBeqDiff, List.range, List.range.loop, gl0, Tryd.ntmps59, Tryd.results59]
  simp only [givesIf] at hv
  have hm : n.tmod 64 = n % 64 := Int.tmod_eq_emod_of_nonneg hv.1
  have hp : (IntKind.wrap .i64 (119 - n.tmod 64)).tmod 64 = (119 - n % 64) % 64 := by
    rw [hm, IntWalk.i64_in _ (by omega), Int.tmod_eq_emod_of_nonneg (by omega)]
  have hpad : ((IntKind.wrap .i64 (119 - n.tmod 64)).tmod 64).toNat = pad n := by rw [hp]; rfl
  have hp0 : 0 ≤ (IntKind.wrap .i64 (119 - n.tmod 64)).tmod 64 := by rw [hp]; omega
  have hp1 : pad n < 64 := by unfold pad; omega
  rw [hpad]
  refine ⟨by decide, by decide, by simp; omega, fun kk m e => by cases e; exact hp0, ?_⟩
  refine loopI (Fin 9) (fun i => [(5, .int .i64 (56 - 8 * (i.1 : Int))), (4, .sli (.tok 32) .u8 (128 :: List.replicate (pad n) 0 ++ (beBytes n).take i.1)), (0, .int .i64 n)]) (fun i => ⟨[], [(32, (1 + pad n + i.1, 1))], 44⟩) (fun i => 8 - i.1) 0 (fun _ => rfl) ?_ ?_
  · simp [Wk, wkSl, wkD, wkBs, wkTs, look, D.under, underO, S.tok]
  rintro ⟨i, hi⟩
  simp (config := {dsimp := false}) only [↓vp0, vz, vn, nq, tys, cellD, wideIR, if_true, if_false, implies_true, forall_const, ne_eq, reduceIte, reduceCtorEq, Nat.reduceEqDiff, Nat.reduceAdd, Nat.reduceMul, Nat.reduceLT, Nat.reduceSub, Nat.reduceLeDiff, Nat.reduceBNe, Nat.reduceBEq, Nat.reduceBeqDiff, List.range, List.range.loop, gl0, Tryd.ntmps59, Tryd.results59]
  have hbl : (beBytes n).length = 8 := rfl
  refine ⟨fun h => ?_, fun h => ?_⟩
  · have h := of_decide_eq_true h
    have hi8 : i < 8 := by omega
    have hlen : (List.replicate (pad n) (0 : Int) ++ (beBytes n).take i).length = pad n + i := by simp; omega
    refine ⟨by decide, h, by rw [hlen]; simp; omega, by rw [hlen]; omega, ⟨i + 1, by omega⟩, ?_, by simp only; omega⟩
    have e1 : IntKind.wrap .i64 (56 - 8 * (i : Int) - 8) = 56 - 8 * ((i : Int) + 1) := by rw [IntWalk.i64_in _ (by omega)]; omega
    simp [Wk, wkSl, wkD, wkBs, wkTs, look, D.under, underO, S.tok, e1, be_take n i hi8]
    omega
  · have h := of_decide_eq_false h
    obtain rfl : i = 8 := by omega
    rfl
end Go.Vi.CD
end

section
set_option linter.unusedVariables false
set_option linter.unusedSimpArgs false
set_option maxHeartbeats 0
set_option maxRecDepth 20000
namespace Go.Vi.CD
open Go.Proofs

theorem c_numbers : Contract E 73 := by
  refine contract_boxT hE hgl (show E.P.funcs[73]? = some Tryd.f73 from Tryd.func73) rfl (p := (sp_numbers 82)) (fun _ _ _ => rfl) ?_
  intro args ds tv hv hdl htl
  unfold sp_numbers at hv ⊢
  split at hv
  case h_2 => exact hv.elim
  rename_i b
  refine ⟨by simp, Nat.le_of_ble_eq_true rfl, ?_⟩
  simp (config := {dsimp := false}) only [↓vp0, vz, vn, nq, tys, cellD, wideIR, if_true, if_false, implies_true, forall_const, ne_eq, reduceIte, reduceCtorEq, Nat.reduceEqDiff, Nat.reduceAdd, Nat.reduceMul, Nat.reduceLT, Nat.reduceSub, Nat.reduceLeDiff, Nat.reduceBNe, Nat.reduceBEq, Nat.reduceBeqDiff, List.range, List.range.loop, gl0, Tryd.ntmps73, Tryd.results73, retB, vb]
  exact ⟨[20, 8, 16], [], [], ⟨rfl, rfl⟩, ⟨rfl, rfl⟩, ⟨by decide, by decide⟩, by simp, rfl, rfl, ⟨_, rfl, rfl⟩, ⟨_, rfl, rfl⟩, id rfl⟩
theorem c_next : Contract E 82 := by
  refine contract_boxT hE hgl (show E.P.funcs[82]? = some Tryd.f82 from Tryd.func82) rfl (p := sp_next) (fun _ _ _ => rfl) ?_
  intro args ds tv hv hdl htl
  unfold sp_next at hv ⊢
  split at hv
  case h_2 => exact hv.elim
  rename_i n b ws
  refine ⟨by simp, Nat.le_of_ble_eq_true rfl, ?_⟩
  simp (config := {dsimp := false}) only [↓vp0, vz, vn, nq, tys, cellD, wideIR, if_true, if_false, implies_true, forall_const, ne_eq, reduceIte, reduceCtorEq, Nat.reduceEqDiff, Nat.reduceAdd, Nat.reduceMul, Nat.reduceLT, Nat.reduceSub, Nat.reduceLeDiff, Nat.reduceBNe, Nat.reduceBEq, Nat.reduceBeqDiff, List.range, List.range.loop, gl0, Tryd.ntmps82, Tryd.results82, retB, vb]
  obtain ⟨⟨h0, h64⟩, hb, hw⟩ := hv
  refine ⟨fun h => ?_, fun h => ?_⟩
  · have h := of_decide_eq_true h
    have e4 : IntKind.wrap .i64 (4 * n) = 4 * n := IntWalk.i64_in _ (by omega)
    have ht : List.take (b.length : Int).toNat b = b := List.take_of_length_le (by omega)
    rw [e4, ht]
    refine ⟨by omega, by omega, Int.le_refl _, ?_⟩
    refine drawI [4, 0, 1, 2] (by kernel_rfl) ?_
    simp (config := {dsimp := false}) only [↓vp0, vz, vn, nq, tys, cellD, wideIR, if_true, if_false, implies_true, forall_const, ne_eq, reduceIte, reduceCtorEq, Nat.reduceEqDiff, Nat.reduceAdd, Nat.reduceMul, Nat.reduceLT, Nat.reduceSub, Nat.reduceLeDiff, Nat.reduceBNe, Nat.reduceBEq, Nat.reduceBeqDiff, List.range, List.range.loop, gl0, Tryd.ntmps82, Tryd.results82, retB, vb]
    have hd : ∀ j, (List.drop (4 * n).toNat b).getD j 0 = b.getD (4 * n.toNat + j) 0 := by
      intro j
      rw [show (4 * n).toNat = 4 * n.toNat by omega]
      simp [List.getD]
    have hdl2 : ((List.drop (4 * n).toNat b).length : Int) ≥ 4 := by simp; omega
    have e1 : IntKind.wrap .i64 (n + 1) = n + 1 := IntWalk.i64_in _ (by omega)
    have e2 : IntKind.wrap .i64 (n + 1 - 1) = n := by rw [IntWalk.i64_in _ (by omega)]; omega
    have hgs : ∀ x, (ws.set n.toNat x).getD n.toNat 0 = x := by intro x; simp [List.getD, List.getElem?_set_self (show n.toNat < ws.length by omega)]
    have hn16 : n.toNat < 16 := by omega
    have hnx : nextP b ws n.toNat = wordP b n.toNat := if_pos hn16
    simp only [hd, e1, e2, hgs, hnx, show Int.toNat 3 = 3 from rfl, show Int.toNat 2 = 2 from rfl, show Int.toNat 1 = 1 from rfl, show Int.toNat 0 = 0 from rfl, Nat.add_zero]
    refine ⟨by decide, by omega, by decide, by omega, by decide, by decide, by omega, by decide, by decide, by omega, by decide, by omega, by omega, by kernel_rfl, by omega, by omega, ?_⟩
    exact ⟨[], [], [], ⟨rfl, rfl⟩, ⟨rfl, rfl⟩, ⟨by simp, by simp⟩, by simp, rfl, rfl, ⟨_, rfl, rfl⟩, ⟨_, rfl, rfl⟩, id rfl⟩
  · have h := of_decide_eq_false h
    refine drawI [0, 1, 2] (by kernel_rfl) ?_
    simp (config := {dsimp := false}) only [↓vp0, vz, vn, nq, tys, cellD, wideIR, if_true, if_false, implies_true, forall_const, ne_eq, reduceIte, reduceCtorEq, Nat.reduceEqDiff, Nat.reduceAdd, Nat.reduceMul, Nat.reduceLT, Nat.reduceSub, Nat.reduceLeDiff, Nat.reduceBNe, Nat.reduceBEq, Nat.reduceBeqDiff, List.range, List.range.loop, gl0, Tryd.ntmps82, Tryd.results82, retB, vb]
    have e1 : IntKind.wrap .i64 (n + 1) = n + 1 := IntWalk.i64_in _ (by omega)
    have e2 : IntKind.wrap .i64 (n + 1 - 1) = n := by rw [IntWalk.i64_in _ (by omega)]; omega
    have e15 : IntKind.wrap .i64 (n - 15) = n - 15 := IntWalk.i64_in _ (by omega)
    have e3 : IntKind.wrap .i64 (n - 2) = n - 2 := IntWalk.i64_in _ (by omega)
    have e16 : IntKind.wrap .i64 (n - 16) = n - 16 := IntWalk.i64_in _ (by omega)
    have e7 : IntKind.wrap .i64 (n - 7) = n - 7 := IntWalk.i64_in _ (by omega)
    rw [e15, e3]
    refine ⟨by omega, by omega, by omega, by omega, ?_⟩
    refine drawI [0, 1, 2, 5, 6] (by kernel_rfl) ?_
    simp (config := {dsimp := false}) only [↓vp0, vz, vn, nq, tys, cellD, wideIR, if_true, if_false, implies_true, forall_const, ne_eq, reduceIte, reduceCtorEq, Nat.reduceEqDiff, Nat.reduceAdd, Nat.reduceMul, Nat.reduceLT, Nat.reduceSub, Nat.reduceLeDiff, Nat.reduceBNe, Nat.reduceBEq, Nat.reduceBeqDiff, List.range, List.range.loop, gl0, Tryd.ntmps82, Tryd.results82, retB, vb, PF.toR, gives, givesIf, e16, e7, spec_turned, sp_turned, c_turned, b_turned]
    have hgs : ∀ x, (ws.set n.toNat x).getD n.toNat 0 = x := by intro x; simp [List.getD, List.getElem?_set_self (show n.toNat < ws.length by omega)]
    have n15 : (n - 15).toNat = n.toNat - 15 := by omega
    have n2 : (n - 2).toNat = n.toNat - 2 := by omega
    have n16 : (n - 16).toNat = n.toNat - 16 := by omega
    have n7 : (n - 7).toNat = n.toNat - 7 := by omega
    have nn : ¬ n.toNat < 16 := by omega
    have hnx : nextP b ws n.toNat = _ := if_neg nn
    simp only [e1, e2, hgs, hnx, n15, n2, n16, n7]
    refine ⟨by omega, by omega, by decide, by omega, by omega, by decide, by omega, by omega, by kernel_rfl, by omega, by omega, ?_⟩
    exact ⟨[], [], [], ⟨rfl, rfl⟩, ⟨rfl, rfl⟩, ⟨by simp, by simp⟩, by simp, rfl, rfl, ⟨_, rfl, rfl⟩, ⟨_, rfl, rfl⟩, id rfl⟩
end Go.Vi.CD
end

section
set_option linter.unusedVariables false
set_option linter.unusedSimpArgs false
set_option maxHeartbeats 0
set_option maxRecDepth 20000
namespace Go.Vi.CD
open Go.Proofs

theorem nextP_len (b s : List Int) : ∀ n, (runP b s n).1.length = 64
  | 0 => rfl
  | n + 1 => by simp [runP, nextP_len b s n]
theorem roundL_len (s : List Int) (k : Int) : (roundL s k).length = 8 := rfl
theorem runP_len (b s : List Int) (h : s.length = 8) : ∀ n, (runP b s n).2.length = 8
  | 0 => h
  | n + 1 => rfl
theorem eight (l : List Int) (h : l.length = 8) : l = [l.getD 0 0, l.getD 1 0, l.getD 2 0, l.getD 3 0, l.getD 4 0, l.getD 5 0, l.getD 6 0, l.getD 7 0] := by
  match l, h with
  | [a, b, c, d, e, f, g, i], _ => rfl
theorem kList_get (i : Nat) (h : i < 64) : kList[i]? = some (kList.getD i 0) := by
  have : i < kList.length := h
  simp [List.getD, this]
theorem c_change : Contract E 60 := by
  refine contract_seeT hE hgl (show E.P.funcs[60]? = some Tryd.f60 from Tryd.func60) rfl (p := sp_change) (fun _ _ _ => rfl) ?_
  intro args hv
  unfold sp_change at hv ⊢
  split at hv
  case h_2 => exact hv.elim
  rename_i a b c d e f g h x
  refine ⟨by simp, Nat.le_of_ble_eq_true rfl, ?_⟩
  simp only [givesIf] at hv
  simp (config := {dsimp := false}) only [↓vp0, vz, vn, nq, tys, cellD, wideIR, if_true, if_false, implies_true, forall_const, ne_eq, reduceIte, reduceCtorEq, Nat.reduceEqDiff, Nat.reduceAdd, Nat.reduceMul, Nat.reduceLT, Nat.reduceSub, Nat.reduceLeDiff, Nat.reduceBNe, Nat.reduceBEq, Nat.reduceBeqDiff, List.range, List.range.loop, gl0, Tryd.ntmps60, Tryd.results60]
  refine drawX [1, 2, 4] [(1, [2, 3]), (3, [0, 1, 2])] [] (by kernel_rfl) (wild_of rfl) ?_
  simp (config := {dsimp := false}) only [↓vp0, vz, vn, nq, tys, cellD, wideIR, if_true, if_false, implies_true, forall_const, ne_eq, reduceIte, reduceCtorEq, Nat.reduceEqDiff, Nat.reduceAdd, Nat.reduceMul, Nat.reduceLT, Nat.reduceSub, Nat.reduceLeDiff, Nat.reduceBNe, Nat.reduceBEq, Nat.reduceBeqDiff, List.range, List.range.loop, gl0, Tryd.ntmps60, Tryd.results60, vb, ↓vy0, vx0, spec_numbers, sp_numbers, c_numbers, b_numbers]
  refine ⟨okUps_of (by kernel_rfl) rfl, okUps_of (by kernel_rfl) rfl, okUps_all rfl (by kernel_rfl), ?_⟩
  refine loopI (Fin 65) (fun i => [(13, .int .i64 (i.1 : Int)), (12, .arr .u32 64 kList), (5, .fn 82 [.bp 12 0, .bp 13 0, .bp 14 0]), (6, .bp 20 0), (2, .bp 0 0), (4, .bp 4 0)])
    (fun i => ⟨[(0, st8 [a, b, c, d, e, f, g, h]), (4, st8 []), (12, .int .i64 (i.1 : Int)), (13, .sli .no .u8 x), (14, .arr .u32 64 (runP x [a, b, c, d, e, f, g, h] i.1).1), (20, st8 (runP x [a, b, c, d, e, f, g, h] i.1).2)], [], 40⟩) (fun i => 64 - i.1) 0 (fun _ => rfl) ?_ ?_
  · exact ⟨⟨wkD_eq rfl, rfl, wkD_eq rfl, rfl, wkD_eq rfl, rfl, wkD_eq rfl, rfl, wkD_eq rfl, rfl, wkD_eq rfl, rfl, trivial⟩, ⟨rfl, Nat.le_of_ble_eq_true rfl, rfl, rfl, Nat.le_of_ble_eq_true rfl, rfl, rfl, Nat.le_of_ble_eq_true rfl, rfl, rfl, Nat.le_of_ble_eq_true rfl, rfl, rfl, Nat.le_of_ble_eq_true rfl, rfl, rfl, Nat.le_of_ble_eq_true rfl, rfl, trivial⟩, trivial⟩
  rintro ⟨i, hi⟩
  simp (config := {dsimp := false}) only [↓vp0, vz, vn, nq, tys, cellD, wideIR, if_true, if_false, implies_true, forall_const, ne_eq, reduceIte, reduceCtorEq, Nat.reduceEqDiff, Nat.reduceAdd, Nat.reduceMul, Nat.reduceLT, Nat.reduceSub, Nat.reduceLeDiff, Nat.reduceBNe, Nat.reduceBEq, Nat.reduceBeqDiff, List.range, List.range.loop, gl0, Tryd.ntmps60, Tryd.results60, st8]
  refine ⟨fun hh => ?_, fun hh => ?_⟩
  · have hh := of_decide_eq_true hh
    have hw := nextP_len x [a, b, c, d, e, f, g, h] i
    refine ⟨by omega, by omega, ?_⟩
    refine drawX [2, 4, 5, 6, 8, 12, 13] [(3, [0, 1])] [(3, [12, 13, 14])] (by kernel_rfl) (wild_of rfl) ?_
    simp (config := {dsimp := false}) only [↓vp0, vz, vn, nq, tys, cellD, wideIR, if_true, if_false, implies_true, forall_const, ne_eq, reduceIte, reduceCtorEq, Nat.reduceEqDiff, Nat.reduceAdd, Nat.reduceMul, Nat.reduceLT, Nat.reduceSub, Nat.reduceLeDiff, Nat.reduceBNe, Nat.reduceBEq, Nat.reduceBeqDiff, List.range, List.range.loop, gl0, Tryd.ntmps60, Tryd.results60, vb, ↓vy0, vx0, PF.toR, gives, u32s, roundI, spec_next, sp_next, c_next, b_next, spec_round, sp_round, c_round, b_round]
    refine ⟨by omega, by omega, hv, hw, okUps_of (by kernel_rfl) rfl, okUps_all rfl (by kernel_rfl), ⟨i + 1, by omega⟩, ⟨⟨wkD_eq ?_, rfl, wkD_eq rfl, rfl, wkD_eq rfl, rfl, wkD_eq rfl, rfl, wkD_eq rfl, rfl, wkD_eq rfl, rfl, trivial⟩, ⟨rfl, Nat.le_of_ble_eq_true rfl, rfl, rfl, Nat.le_of_ble_eq_true rfl, rfl, rfl, Nat.le_of_ble_eq_true rfl, rfl, rfl, Nat.le_of_ble_eq_true rfl, rfl, rfl, Nat.le_of_ble_eq_true rfl, rfl, rfl, Nat.le_of_ble_eq_true rfl, rfl, trivial⟩, trivial⟩, by (try simp only); omega⟩
    exact some_i64 (by (try simp only); omega)
  · have hh := of_decide_eq_false hh
    obtain rfl : i = 64 := by omega
    simp (config := {dsimp := false}) only [↓vp0, vz, vn, nq, tys, cellD, wideIR, if_true, if_false, implies_true, forall_const, ne_eq, reduceIte, reduceCtorEq, Nat.reduceEqDiff, Nat.reduceAdd, Nat.reduceMul, Nat.reduceLT, Nat.reduceSub, Nat.reduceLeDiff, Nat.reduceBNe, Nat.reduceBEq, Nat.reduceBeqDiff, List.range, List.range.loop, gl0, Tryd.ntmps60, Tryd.results60, vb, PF.toR, gives, u32s, spec_plus, sp_plus, c_plus, b_plus]
    rfl
theorem closingI_len (n : Int) : (closingI n).length = pad n + 9 := by simp [closingI]; rfl
theorem paddedP_len (gone : Int) (r : List Int) (h : r.length < 1000000000) (h0 : 0 ≤ gone) (h1 : gone < 1000000000) (h2 : gone % 64 = 0) : ∃ m, (paddedP gone r).length = 64 * m ∧ m < 16000000 := by
  refine ⟨(paddedP gone r).length / 64, ?_, ?_⟩ <;> simp [paddedP, closingI_len] <;> unfold pad <;> omega
theorem changeP_len (s b : List Int) : (changeP s b).length = 8 := by simp [changeP, plusL]
theorem blocksP_len (all s : List Int) (h : s.length = 8) : ∀ i, (blocksP all s i).length = 8
  | 0 => h
  | i + 1 => changeP_len _ _
theorem outP_len (s : List Int) : (outP s).length = 32 := by simp [outP]
theorem st8_of (l : List Int) (h : l.length = 8) : D.agg (u32s l) = st8 l := by
  match l, h with
  | [a, b, c, d, e, f, g, i], _ => rfl
theorem set4 (L : List Int) (j : Nat) (hL : L.length = 32) (hj : j < 8) (a b c d : Int) (ha : L[4 * j]? = some a) (hb : L[4 * j + 1]? = some b) (hc : L[4 * j + 2]? = some c) (hd : L[4 * j + 3]? = some d) :
    ((((L.take (4 * j) ++ List.replicate (32 - 4 * j) 0).set (4 * j) a).set (4 * j + 1) b).set (4 * j + 2) c).set (4 * j + 3) d = L.take (4 * (j + 1)) ++ List.replicate (32 - 4 * (j + 1)) 0 := by
  have hT : (L.take (4 * j)).length = 4 * j := by simp; omega
  have e1 : 4 * (j + 1) = 4 * j + 1 + 1 + 1 + 1 := by omega
  have e2 : 32 - 4 * j = (32 - (4 * j + 1 + 1 + 1 + 1)) + 1 + 1 + 1 + 1 := by omega
  rw [e2, e1]
  simp only [List.replicate_succ]
  rw [List.set_append_right _ _ (by omega), List.set_append_right _ _ (by omega), List.set_append_right _ _ (by omega), List.set_append_right _ _ (by omega), hT]
  simp only [Nat.sub_self, List.set_cons_zero, show 4 * j + 1 - 4 * j = 1 by omega, show 4 * j + 2 - 4 * j = 2 by omega, show 4 * j + 3 - 4 * j = 3 by omega, List.set_cons_succ]
  simp only [List.take_add_one, ha, hb, hc, hd, Option.toList, List.append_assoc, List.cons_append, List.nil_append]
theorem outP_at (s : List Int) (j r : Nat) (hj : j < 8) (hr : r < 4) : (outP s)[4 * j + r]? = some (IntKind.wrap .u8 (if r = 3 then s.getD j 0 else shrI .u32 (s.getD j 0) (24 - 8 * (r : Int)))) := by
  have h1 : (4 * j + r) % 4 = r := by omega
  have h2 : (4 * j + r) / 4 = j := by omega
  simp only [outP, List.getElem?_map, List.getElem?_range (show 4 * j + r < 32 by omega), Option.map_some, h1, h2]
theorem c_digest : Contract E 53 := by
  refine contract_seeT hE hgl (show E.P.funcs[53]? = some Tryd.f53 from Tryd.func53) rfl (p := sp_digest) (fun _ _ _ => rfl) ?_
  intro args hv
  unfold sp_digest at hv ⊢
  split at hv
  case h_2 => exact hv.elim
  rename_i a b c d e f g h n x
  refine ⟨by simp, Nat.le_of_ble_eq_true rfl, ?_⟩
  simp only [givesIf] at hv
  obtain ⟨hx, h0', h1, h2⟩ := hv
  obtain ⟨m, hm, hm2⟩ := paddedP_len n x hx h0' h1 h2
  have e1 : IntKind.wrap .i64 (n + (x.length : Int)) = n + x.length := IntWalk.i64_in _ (by omega)
  simp (config := {dsimp := false}) only [↓vp0, vz, vn, nq, tys, cellD, wideIR, if_true, if_false, implies_true, forall_const, ne_eq, reduceIte, reduceCtorEq, Nat.reduceEqDiff, Nat.reduceAdd, Nat.reduceMul, Nat.reduceLT, Nat.reduceSub, Nat.reduceLeDiff, Nat.reduceBNe, Nat.reduceBEq, Nat.reduceBeqDiff, List.range, List.range.loop, gl0, Tryd.ntmps53, Tryd.results53, PF.toR, gives, givesIf, e1, spec_closing, sp_closing, c_closing, b_closing]
  have hpd : x ++ 128 :: (List.replicate (pad (n + ↑x.length)) 0 ++ beBytes (n + ↑x.length)) = paddedP n x := by simp [paddedP, closingI]
  have hlen : x.length + ((List.replicate (pad (n + ↑x.length)) (0 : Int) ++ beBytes (n + ↑x.length)).length + 1) = (paddedP n x).length := by rw [← hpd]; simp
  have hlen2 : x.length ≤ (paddedP n x).length := by rw [← hlen]; omega
  rw [hpd, hlen]
  refine ⟨by omega, by omega, by omega, by simp, by omega, ?_⟩
  generalize hst : [a, b, c, d, e, f, g, h] = s0
  have hs0 : s0.length = 8 := by rw [← hst]; rfl
  refine loopI (Fin (m + 1)) (fun i => [(7, .sli .no .u8 ((paddedP n x).drop (64 * i.1))), (3, .bp 0 0), (6, .bp 4 0)]) (fun i => ⟨[(0, st8 (blocksP (paddedP n x) s0 i.1)), (4, .arr .u8 32 (List.replicate 32 0))], [], 48⟩) (fun i => m - i.1) 0 (fun _ => rfl) ?_ ?_
  · refine ⟨⟨.inr ⟨_, rfl⟩, rfl, wkD_eq rfl, rfl, wkD_eq rfl, rfl, trivial⟩, ⟨?_, Nat.le_of_ble_eq_true rfl, rfl, rfl, Nat.le_of_ble_eq_true rfl, rfl, trivial⟩, trivial⟩
    subst hst
    rfl
  rintro ⟨i, hi⟩
  simp (config := {dsimp := false}) only [↓vp0, vz, vn, nq, tys, cellD, wideIR, if_true, if_false, implies_true, forall_const, ne_eq, reduceIte, reduceCtorEq, Nat.reduceEqDiff, Nat.reduceAdd, Nat.reduceMul, Nat.reduceLT, Nat.reduceSub, Nat.reduceLeDiff, Nat.reduceBNe, Nat.reduceBEq, Nat.reduceBeqDiff, List.range, List.range.loop, gl0, Tryd.ntmps53, Tryd.results53, PF.toR, givesIf, st8, u32s, spec_change, sp_change, c_change, b_change]
  have hdl : ((paddedP n x).drop (64 * i)).length = 64 * (m - i) := by simp; omega
  rw [hdl]
  have hb8 := blocksP_len (paddedP n x) s0 hs0 i
  refine ⟨fun hh => ?_, fun hh => ?_⟩
  · have hh := of_decide_eq_true hh
    have hlt : i < m := by omega
    refine ⟨by omega, by decide, by omega, Int.le_refl _, ⟨i + 1, by omega⟩, ⟨⟨wkD_eq ?_, rfl, wkD_eq rfl, rfl, wkD_eq rfl, rfl, trivial⟩, ⟨?_, Nat.le_of_ble_eq_true rfl, rfl, rfl, Nat.le_of_ble_eq_true rfl, rfl, trivial⟩, trivial⟩, by (try simp only); omega⟩
    · refine some_sli ?_
      rw [List.take_of_length_le (by omega), List.drop_drop]
      rfl
    · exact congrArg (fun l => some (st8 (changeP l ((paddedP n x).drop (64 * i))))) (eight _ hb8).symm
  · have hh := of_decide_eq_false hh
    obtain rfl : i = m := by omega
    generalize hbs : blocksP (paddedP n x) s0 i = st at hb8 ⊢
    refine loopI (Fin 9) (fun j => [(44, .int .i64 (j.1 : Int)), (43, .arr .u32 8 [st.getD 0 0, st.getD 1 0, st.getD 2 0, st.getD 3 0, st.getD 4 0, st.getD 5 0, st.getD 6 0, st.getD 7 0]), (6, .bp 4 0)]) (fun j => ⟨[(4, .arr .u8 32 ((outP st).take (4 * j.1) ++ List.replicate (32 - 4 * j.1) 0))], [], 132⟩) (fun j => 8 - j.1) 0 (fun _ => rfl) ?_ ?_
    · exact ⟨⟨wkD_eq rfl, rfl, wkD_eq rfl, rfl, wkD_eq rfl, rfl, trivial⟩, ⟨rfl, Nat.le_of_ble_eq_true rfl, rfl, trivial⟩, trivial⟩
    rw [← eight _ hb8]
    rintro ⟨j, hj⟩
    simp (config := {dsimp := false}) only [↓vp0, vz, vn, nq, tys, cellD, wideIR, if_true, if_false, implies_true, forall_const, ne_eq, reduceIte, reduceCtorEq, Nat.reduceEqDiff, Nat.reduceAdd, Nat.reduceMul, Nat.reduceLT, Nat.reduceSub, Nat.reduceLeDiff, Nat.reduceBNe, Nat.reduceBEq, Nat.reduceBeqDiff, List.range, List.range.loop, gl0, Tryd.ntmps53, Tryd.results53]
    refine ⟨fun hh => ?_, fun hh => ?_⟩
    · have hh := of_decide_eq_true hh
      have e4 : IntKind.wrap .i64 (4 * (j : Int)) = 4 * j := IntWalk.i64_in _ (by omega)
      rw [e4]
      have e5 : IntKind.wrap .i64 (4 * (j : Int) + 1) = 4 * j + 1 := IntWalk.i64_in _ (by omega)
      have e6 : IntKind.wrap .i64 (4 * (j : Int) + 2) = 4 * j + 2 := IntWalk.i64_in _ (by omega)
      have e7 : IntKind.wrap .i64 (4 * (j : Int) + 3) = 4 * j + 3 := IntWalk.i64_in _ (by omega)
      rw [e5, e6, e7]
      refine ⟨by omega, by omega, by decide, by decide, by decide, by omega, by omega, by omega, by omega, by omega, by omega, by omega, by omega, ⟨j + 1, by omega⟩, ⟨⟨wkD_eq ?_, rfl, wkD_eq rfl, rfl, wkD_eq rfl, rfl, trivial⟩, ⟨?_, Nat.le_of_ble_eq_true rfl, rfl, trivial⟩, trivial⟩, by (try simp only); omega⟩
      · exact some_i64 (by (try simp only); omega)
      · refine some_arr ?_
        rw [show (4 * (j : Int) + 1).toNat = 4 * j + 1 by omega, show (4 * (j : Int) + 2).toNat = 4 * j + 2 by omega, show (4 * (j : Int) + 3).toNat = 4 * j + 3 by omega, show (4 * (j : Int)).toNat = 4 * j by omega]
        exact set4 (outP st) j (outP_len st) (by omega) _ _ _ _ (outP_at st j 0 (by omega) (by omega)) (outP_at st j 1 (by omega) (by omega)) (outP_at st j 2 (by omega) (by omega)) (outP_at st j 3 (by omega) (by omega))
    · have hh := of_decide_eq_false hh
      obtain rfl : j = 8 := by omega
      subst hbs hst
      have : (paddedP n x).length / 64 = i := by omega
      rw [List.take_of_length_le (by rw [outP_len]; decide)]
      simp [digestP, this, givesIf]
theorem c_sum : Contract E 35 := by
  refine contract_seeT hE hgl (show E.P.funcs[35]? = some Tryd.f35 from Tryd.func35) rfl (p := sp_sum) (fun _ _ _ => rfl) ?_
  intro args hv
  unfold sp_sum at hv ⊢
  split at hv
  case h_2 => exact hv.elim
  rename_i b
  refine ⟨by simp, Nat.le_of_ble_eq_true rfl, ?_⟩
  simp only [givesIf] at hv
  simp (config := {dsimp := false}) only [↓vp0, vz, vn, nq, tys, cellD, wideIR, if_true, if_false, implies_true, forall_const, ne_eq, reduceIte, reduceCtorEq, Nat.reduceEqDiff, Nat.reduceAdd, Nat.reduceMul, Nat.reduceLT, Nat.reduceSub, Nat.reduceLeDiff, Nat.reduceBNe, Nat.reduceBEq, Nat.reduceBeqDiff, List.range, List.range.loop, gl0, Tryd.ntmps35, Tryd.results35, PF.toR, gives, givesIf, u32s, h0, spec_first, sp_first, c_first, b_first, spec_digest, sp_digest, c_digest, b_digest]
  exact ⟨hv, by decide, by decide, by decide, rfl⟩
theorem c_again : Contract E 34 := by
  refine contract_seeT hE hgl (show E.P.funcs[34]? = some Tryd.f34 from Tryd.func34) rfl (p := sp_again) (fun _ _ _ => rfl) ?_
  intro args hv
  unfold sp_again at hv ⊢
  split at hv
  case h_2 => exact hv.elim
  rename_i h
  refine ⟨by simp, Nat.le_of_ble_eq_true rfl, ?_⟩
  simp only [givesIf] at hv
  simp (config := {dsimp := false}) only [↓vp0, vz, vn, nq, tys, cellD, wideIR, if_true, if_false, implies_true, forall_const, ne_eq, reduceIte, reduceCtorEq, Nat.reduceEqDiff, Nat.reduceAdd, Nat.reduceMul, Nat.reduceLT, Nat.reduceSub, Nat.reduceLeDiff, Nat.reduceBNe, Nat.reduceBEq, Nat.reduceBeqDiff, List.range, List.range.loop, gl0, Tryd.ntmps34, Tryd.results34, PF.toR, gives, givesIf, spec_sum, sp_sum, c_sum, b_sum]
  have e : List.take ((32 : Nat) - 0 : Int).toNat (List.drop (Int.toNat 0) h) = h := by
    rw [show Int.toNat 0 = 0 from rfl, List.drop_zero]
    exact List.take_of_length_le (by rw [hv]; decide)
  rw [e]
  exact ⟨by decide, by decide, by decide, by omega, rfl⟩
theorem c_twice : Contract E 22 := by
  refine contract_seeT hE hgl (show E.P.funcs[22]? = some Tryd.f22 from Tryd.func22) rfl (p := sp_twice) (fun _ _ _ => rfl) ?_
  intro args hv
  unfold sp_twice at hv ⊢
  split at hv
  case h_2 => exact hv.elim
  rename_i b
  refine ⟨by simp, Nat.le_of_ble_eq_true rfl, ?_⟩
  simp only [givesIf] at hv
  simp (config := {dsimp := false}) only [↓vp0, vz, vn, nq, tys, cellD, wideIR, if_true, if_false, implies_true, forall_const, ne_eq, reduceIte, reduceCtorEq, Nat.reduceEqDiff, Nat.reduceAdd, Nat.reduceMul, Nat.reduceLT, Nat.reduceSub, Nat.reduceLeDiff, Nat.reduceBNe, Nat.reduceBEq, Nat.reduceBeqDiff, List.range, List.range.loop, gl0, Tryd.ntmps22, Tryd.results22, PF.toR, gives, givesIf, spec_sum, sp_sum, c_sum, b_sum, spec_again, sp_again, c_again, b_again]
  exact ⟨hv, outP_len _⟩
end Go.Vi.CD
end

section
set_option linter.unusedVariables false
set_option linter.unusedSimpArgs false
set_option maxHeartbeats 0
set_option maxRecDepth 20000
namespace Go.Vi.CD
open Go.Proofs

theorem put_0 {b : List Int} {t : TxP} {f : Bool} (h : checkP t = 0) : putV b t f = .tup [.sli .no .u8 (b ++ layI t f), .int .i64 0] := if_pos h
theorem put_e {b : List Int} {t : TxP} {f : Bool} (h : ¬ checkP t = 0) : putV b t f = .tup [.sl .full 0 [], .int .i64 (checkP t)] := if_neg h
theorem c_tput : Contract E 84 := by
  refine contract_seeT hE hgl (show E.P.funcs[84]? = some Tryd.f84 from Tryd.func84) rfl (p := sp_tput) (fun _ _ _ => rfl) ?_
  intro args hv
  unfold sp_tput at hv ⊢
  split at hv
  case h_2 => exact hv.elim
  rename_i b v is os l
  refine ⟨by simp, Nat.le_of_ble_eq_true rfl, ?_⟩
  simp only [givesIf] at hv
  obtain ⟨hok, hb⟩ := hv
  obtain ⟨t, rfl, rfl, rfl, rfl, ht, -⟩ := okT_tx hok
  have eta : (⟨t.ver, t.ins, t.outs, t.lock⟩ : TxP) = t := rfl
  have hc : okT t.ver (insD t.ins) (outsD t.outs) t.lock := hok
  obtain ⟨W, hW⟩ : ∃ W, witnessedP t = W := ⟨_, rfl⟩
  have hW' : t.ins.any hasWit = W := hW
  by_cases h : checkP t = 0
  · have hlen := lay_len ht h W
    have hd : decide (checkP t = 0) = true := decide_eq_true h
    simp (config := {dsimp := false}) only [↓vp0, vz, vn, nq, tys, cellD, wideIR, if_true, if_false, implies_true, forall_const, ne_eq, reduceIte, reduceCtorEq, Nat.reduceEqDiff, Nat.reduceAdd, Nat.reduceMul, Nat.reduceLT, Nat.reduceSub, Nat.reduceLeDiff, Nat.reduceBNe, Nat.reduceBEq, Nat.reduceBeqDiff, List.range, List.range.loop, gl0, Tryd.ntmps84, Tryd.results84, PF.toR, givesIf, eta, hd, hW, put_0 h, spec_tcheck, sp_tcheck, c_tcheck, b_tcheck]
    refine ⟨hc, ?_⟩
    refine drawX [0, 3] [] [] (by kernel_rfl) (wild_of rfl) ?_
    simp (config := {dsimp := false}) only [↓vp0, vz, vn, nq, tys, cellD, wideIR, if_true, if_false, implies_true, forall_const, ne_eq, reduceIte, reduceCtorEq, Nat.reduceEqDiff, Nat.reduceAdd, Nat.reduceMul, Nat.reduceLT, Nat.reduceSub, Nat.reduceLeDiff, Nat.reduceBNe, Nat.reduceBEq, Nat.reduceBeqDiff, List.range, List.range.loop, gl0, Tryd.ntmps84, Tryd.results84, vb, ↓vy0, vx0, PF.toR, givesIf, eta, hW', spec_twitnessed, sp_twitnessed, c_twitnessed, b_twitnessed, spec_laid, sp_laid, c_laid, b_laid]
    refine ⟨hc, hc, by simp only [List.length_append]; omega, okUps_all rfl (by kernel_rfl), ?_⟩
    rw [hW, put_0 h]
  · have hd : decide (checkP t = 0) = false := decide_eq_false h
    simp (config := {dsimp := false}) only [↓vp0, vz, vn, nq, tys, cellD, wideIR, if_true, if_false, implies_true, forall_const, ne_eq, reduceIte, reduceCtorEq, Nat.reduceEqDiff, Nat.reduceAdd, Nat.reduceMul, Nat.reduceLT, Nat.reduceSub, Nat.reduceLeDiff, Nat.reduceBNe, Nat.reduceBEq, Nat.reduceBeqDiff, List.range, List.range.loop, gl0, Tryd.ntmps84, Tryd.results84, PF.toR, givesIf, eta, hd, put_e h, spec_tcheck, sp_tcheck, c_tcheck, b_tcheck]
    exact hc
theorem c_tname : Contract E 47 := by
  refine contract_seeT hE hgl (show E.P.funcs[47]? = some Tryd.f47 from Tryd.func47) rfl (p := sp_tname) (fun _ _ _ => rfl) ?_
  intro args hv
  unfold sp_tname at hv ⊢
  split at hv
  case h_2 => exact hv.elim
  rename_i b e
  refine ⟨by simp, Nat.le_of_ble_eq_true rfl, ?_⟩
  simp only [givesIf] at hv
  by_cases h : e = 0
  · subst h
    simp (config := {dsimp := false}) only [↓vp0, vz, vn, nq, tys, cellD, wideIR, if_true, if_false, implies_true, forall_const, ne_eq, reduceIte, reduceCtorEq, Nat.reduceEqDiff, Nat.reduceAdd, Nat.reduceMul, Nat.reduceLT, Nat.reduceSub, Nat.reduceLeDiff, Nat.reduceBNe, Nat.reduceBEq, Nat.reduceBeqDiff, List.range, List.range.loop, gl0, Tryd.ntmps47, Tryd.results47, PF.toR, givesIf, eq_self, decide_true, spec_twice, sp_twice, c_twice, b_twice]
    exact hv
  · simp (config := {dsimp := false}) only [↓vp0, vz, vn, nq, tys, cellD, wideIR, if_true, if_false, implies_true, forall_const, ne_eq, reduceIte, reduceCtorEq, Nat.reduceEqDiff, Nat.reduceAdd, Nat.reduceMul, Nat.reduceLT, Nat.reduceSub, Nat.reduceLeDiff, Nat.reduceBNe, Nat.reduceBEq, Nat.reduceBeqDiff, List.range, List.range.loop, gl0, Tryd.ntmps47, Tryd.results47, PF.toR, givesIf, h, decide_false, spec_twice, sp_twice, c_twice, b_twice]
    all_goals rfl
theorem c_tfull : Contract E 77 := by
  refine contract_seeT hE hgl (show E.P.funcs[77]? = some Tryd.f77 from Tryd.func77) rfl (p := sp_tfull) (fun _ _ _ => rfl) ?_
  intro args hv
  unfold sp_tfull at hv ⊢
  split at hv
  case h_2 => exact hv.elim
  rename_i v is os l
  refine ⟨by simp, Nat.le_of_ble_eq_true rfl, ?_⟩
  simp only [givesIf] at hv
  have hok := hv
  obtain ⟨t, rfl, rfl, rfl, rfl, ht, -⟩ := okT_tx hok
  have eta : (⟨t.ver, t.ins, t.outs, t.lock⟩ : TxP) = t := rfl
  by_cases h : checkP t = 0
  · have hlen := lay_len ht h (witnessedP t)
    have hf : fullP t = sumP (sumP (layI t (witnessedP t))) := if_pos h
    simp (config := {dsimp := false}) only [↓vp0, vz, vn, nq, tys, cellD, wideIR, if_true, if_false, implies_true, forall_const, ne_eq, reduceIte, reduceCtorEq, Nat.reduceEqDiff, Nat.reduceAdd, Nat.reduceMul, Nat.reduceLT, Nat.reduceSub, Nat.reduceLeDiff, Nat.reduceBNe, Nat.reduceBEq, Nat.reduceBeqDiff, List.range, List.range.loop, gl0, Tryd.ntmps77, Tryd.results77, PF.toR, givesIf, eta, put_0 h, hf, eq_self, spec_tput, sp_tput, c_tput, b_tput, spec_tname, sp_tname, c_tname, b_tname]
    exact ⟨hok, by omega⟩
  · have hf : fullP t = List.replicate 32 0 := if_neg h
    simp (config := {dsimp := false}) only [↓vp0, vz, vn, nq, tys, cellD, wideIR, if_true, if_false, implies_true, forall_const, ne_eq, reduceIte, reduceCtorEq, Nat.reduceEqDiff, Nat.reduceAdd, Nat.reduceMul, Nat.reduceLT, Nat.reduceSub, Nat.reduceLeDiff, Nat.reduceBNe, Nat.reduceBEq, Nat.reduceBeqDiff, List.range, List.range.loop, gl0, Tryd.ntmps77, Tryd.results77, PF.toR, givesIf, eta, put_e h, hf, h, spec_tput, sp_tput, c_tput, b_tput, spec_tname, sp_tname, c_tname, b_tname]
    exact hok
end Go.Vi.CD
end

section
set_option linter.unusedVariables false
set_option linter.unusedSimpArgs false
set_option maxHeartbeats 0
set_option maxRecDepth 20000
namespace Go.Vi.CD
open Go.Proofs

theorem refSize_len (n : Int) : ∀ k, (refSize n k).1.length = 8
  | 0 => rfl
  | k + 1 => by simp [refSize, refSize_len n k]
end Go.Vi.CD
end

section
set_option linter.unusedVariables false
set_option linter.unusedSimpArgs false
set_option maxHeartbeats 0
set_option maxRecDepth 20000
namespace Go.Vi.CD
open Go.Proofs

theorem toldL_pos (m : Nat) (h : 0 < m) : toldL m = ((m % 10 : Nat) : Int) :: toldL (m / 10) := by
  cases m with
  | zero => omega
  | succ m => rw [toldL]
theorem toldL_len : ∀ (k n : Nat), n < 10 ^ k → (toldL n).length ≤ k
  | 0, n, h => by
    have : n = 0 := by simpa using h
    subst this
    simp [toldL]
  | k + 1, n, h => by
    rcases Nat.eq_zero_or_pos n with e | e
    · subst e; simp [toldL]
    · rw [toldL_pos n e]
      have := toldL_len k (n / 10) (by rw [Nat.pow_succ] at h; omega)
      simp only [List.length_cons]
      omega
end Go.Vi.CD
end

section
set_option linter.unusedVariables false
set_option linter.unusedSimpArgs false
set_option maxHeartbeats 0
set_option maxRecDepth 20000
namespace Go.Vi.CD
open Go.Proofs

theorem chStep_len (st : List Int) (w k : Int) (h : st.length = 8) : (chStep st w k).length = 8 := by
  simp [chStep, h]
theorem chRun_len (st b ks : List Int) (h : st.length = 8) : ∀ i, (chRun st b ks i).1.length = i ∧ (chRun st b ks i).2.length = 8
  | 0 => ⟨rfl, h⟩
  | i + 1 => by
    obtain ⟨h1, h2⟩ := chRun_len st b ks h i
    exact ⟨by simp [chRun, h1], chStep_len _ _ _ h2⟩
end Go.Vi.CD
end

section
set_option linter.unusedVariables false
set_option linter.unusedSimpArgs false
set_option maxHeartbeats 0
set_option maxRecDepth 20000
namespace Go.Vi.CD
open Go.Proofs

theorem changeI_len (s b k : List Int) : (changeI s b k).length = 8 := by simp [changeI]
theorem refBlocks_len (k all : List Int) (s : List Int) (h : s.length = 8) : ∀ i, (refBlocks k all i s).length = 8
  | 0 => h
  | i + 1 => changeI_len _ _ _
theorem refPadded_len (b : List Int) (h : b.length < 1000000000) : ∃ m, (refPadded b).length = 64 * m ∧ m < 16000000 := by
  have := refSize_len b.length 8
  refine ⟨(refPadded b).length / 64, ?_, ?_⟩ <;> simp [refPadded, this] <;> unfold pad <;> omega
theorem outBytes_len (s : List Int) : (outBytes s).length = 32 := by simp [outBytes]
theorem refTextI_len (h : List Int) : (refTextI h).length = 64 := by simp [refTextI]
theorem refTextI_at (h : List Int) (i : Nat) (hi : i < 64) : (refTextI h)[i]? = some (hexOf (if i % 2 = 1 then (h.getD (i / 2) 0).tmod 16 else IntKind.wrap .u8 ((h.getD (i / 2) 0).tdiv 16))) := by
  simp only [refTextI, List.getElem?_map, List.getElem?_range hi, Option.map_some]
theorem byteAt_range (s : ByteArray) (k : Int) : 0 ≤ byteAt s k ∧ byteAt s k < 256 := by
  unfold byteAt
  split
  · rename_i b _
    have := b.toNat_lt
    omega
  · omega
theorem refOf_none {s : ByteArray} {i : Nat} (h : refOfP s i = none) : ∀ j, i ≤ j → refOfP s j = none := by
  intro j hj
  induction j with
  | zero => obtain rfl : i = 0 := by omega
            exact h
  | succ j ih =>
    by_cases e : i = j + 1
    · subst e; exact h
    · simp only [refOfP, ih (by omega)]
theorem hexVal_le (c : Int) : hexVal c ≤ 15 ∧ -1 ≤ hexVal c := by
  unfold hexVal
  split
  · omega
  · split <;> omega
theorem of_none {s : ByteArray} {i : Nat} (h : ofP s i = none) : ∀ j, i ≤ j → ofP s j = none := by
  intro j hj
  induction j with
  | zero => obtain rfl : i = 0 := by omega
            exact h
  | succ j ih =>
    by_cases e : i = j + 1
    · subst e; exact h
    · simp only [ofP, ih (by omega)]
end Go.Vi.CD
end

section
set_option linter.unusedVariables false
set_option linter.unusedSimpArgs false
set_option maxHeartbeats 0
set_option maxRecDepth 20000
namespace Go.Vi.CD
open Go.Proofs

theorem c_tbare : Contract E 48 := by
  refine contract_seeT hE hgl (show E.P.funcs[48]? = some Tryd.f48 from Tryd.func48) rfl (p := sp_tbare) (fun _ _ _ => rfl) ?_
  intro args hv
  unfold sp_tbare at hv ⊢
  split at hv
  case h_2 => exact hv.elim
  rename_i b v is os l
  refine ⟨by simp, Nat.le_of_ble_eq_true rfl, ?_⟩
  simp only [givesIf] at hv
  obtain ⟨hok, hb⟩ := hv
  obtain ⟨t, rfl, rfl, rfl, rfl, ht, -⟩ := okT_tx hok
  have eta : (⟨t.ver, t.ins, t.outs, t.lock⟩ : TxP) = t := rfl
  have hc : okT t.ver (insD t.ins) (outsD t.outs) t.lock := hok
  by_cases h : checkP t = 0
  · have hlen := lay_len ht h false
    have hd : decide (checkP t = 0) = true := decide_eq_true h
    simp (config := {dsimp := false}) only [↓vp0, vz, vn, nq, tys, cellD, wideIR, if_true, if_false, implies_true, forall_const, ne_eq, reduceIte, reduceCtorEq, Nat.reduceEqDiff, Nat.reduceAdd, Nat.reduceMul, Nat.reduceLT, Nat.reduceSub, Nat.reduceLeDiff, Nat.reduceBNe, Nat.reduceBEq, Nat.reduceBeqDiff, List.range, List.range.loop, gl0, Tryd.ntmps48, Tryd.results48, vb, PF.toR, givesIf, eta, hd, put_0 h, spec_tcheck, sp_tcheck, c_tcheck, b_tcheck, spec_laid, sp_laid, c_laid, b_laid]
    exact ⟨hc, hc, by simp only [List.length_append]; omega⟩
  · have hd : decide (checkP t = 0) = false := decide_eq_false h
    simp (config := {dsimp := false}) only [↓vp0, vz, vn, nq, tys, cellD, wideIR, if_true, if_false, implies_true, forall_const, ne_eq, reduceIte, reduceCtorEq, Nat.reduceEqDiff, Nat.reduceAdd, Nat.reduceMul, Nat.reduceLT, Nat.reduceSub, Nat.reduceLeDiff, Nat.reduceBNe, Nat.reduceBEq, Nat.reduceBeqDiff, List.range, List.range.loop, gl0, Tryd.ntmps48, Tryd.results48, PF.toR, givesIf, eta, hd, put_e h, spec_tcheck, sp_tcheck, c_tcheck, b_tcheck]
    exact hc
theorem c_tid : Contract E 28 := by
  refine contract_seeT hE hgl (show E.P.funcs[28]? = some Tryd.f28 from Tryd.func28) rfl (p := sp_tid) (fun _ _ _ => rfl) ?_
  intro args hv
  unfold sp_tid at hv ⊢
  split at hv
  case h_2 => exact hv.elim
  rename_i v is os l
  refine ⟨by simp, Nat.le_of_ble_eq_true rfl, ?_⟩
  simp only [givesIf] at hv
  have hok := hv
  obtain ⟨t, rfl, rfl, rfl, rfl, ht, -⟩ := okT_tx hok
  have eta : (⟨t.ver, t.ins, t.outs, t.lock⟩ : TxP) = t := rfl
  by_cases h : checkP t = 0
  · have hlen := lay_len ht h false
    have hf : idP t = sumP (sumP (layI t false)) := if_pos h
    simp (config := {dsimp := false}) only [↓vp0, vz, vn, nq, tys, cellD, wideIR, if_true, if_false, implies_true, forall_const, ne_eq, reduceIte, reduceCtorEq, Nat.reduceEqDiff, Nat.reduceAdd, Nat.reduceMul, Nat.reduceLT, Nat.reduceSub, Nat.reduceLeDiff, Nat.reduceBNe, Nat.reduceBEq, Nat.reduceBeqDiff, List.range, List.range.loop, gl0, Tryd.ntmps28, Tryd.results28, PF.toR, givesIf, eta, put_0 h, hf, eq_self, spec_tbare, sp_tbare, c_tbare, b_tbare, spec_tname, sp_tname, c_tname, b_tname]
    exact ⟨hok, by omega⟩
  · have hf : idP t = List.replicate 32 0 := if_neg h
    simp (config := {dsimp := false}) only [↓vp0, vz, vn, nq, tys, cellD, wideIR, if_true, if_false, implies_true, forall_const, ne_eq, reduceIte, reduceCtorEq, Nat.reduceEqDiff, Nat.reduceAdd, Nat.reduceMul, Nat.reduceLT, Nat.reduceSub, Nat.reduceLeDiff, Nat.reduceBNe, Nat.reduceBEq, Nat.reduceBeqDiff, List.range, List.range.loop, gl0, Tryd.ntmps28, Tryd.results28, PF.toR, givesIf, eta, put_e h, hf, h, spec_tbare, sp_tbare, c_tbare, b_tbare, spec_tname, sp_tname, c_tname, b_tname]
    exact hok
end Go.Vi.CD
end

section
set_option linter.unusedVariables false
set_option linter.unusedSimpArgs false
set_option maxHeartbeats 0
set_option maxRecDepth 20000
namespace Go.Vi.CD
open Go.Proofs

theorem c_fulls1 : Contract E 76 := by
  refine contract_seeT hE hgl (show E.P.funcs[76]? = some Tryd.f76 from Tryd.func76) rfl (p := sp_fulls1) (fun _ _ _ => rfl) ?_
  intro args hv
  unfold sp_fulls1 at hv ⊢
  split at hv
  case h_2 => exact hv.elim
  rename_i i v is os l
  refine ⟨by simp, Nat.le_of_ble_eq_true rfl, ?_⟩
  simp only [givesIf] at hv
  have hok := hv
  obtain ⟨t, rfl, rfl, rfl, rfl, ht, -⟩ := okT_tx hok
  by_cases h : i = 0
  · subst h
    simp (config := {dsimp := false}) only [↓vp0, vz, vn, nq, tys, cellD, wideIR, if_true, if_false, implies_true, forall_const, ne_eq, reduceIte, reduceCtorEq, Nat.reduceEqDiff, Nat.reduceAdd, Nat.reduceMul, Nat.reduceLT, Nat.reduceSub, Nat.reduceLeDiff, Nat.reduceBNe, Nat.reduceBEq, Nat.reduceBeqDiff, List.range, List.range.loop, gl0, Tryd.ntmps76, Tryd.results76, PF.toR, givesIf, eq_self, decide_true, spec_tfull, sp_tfull, c_tfull, b_tfull]
    all_goals rfl
  · simp (config := {dsimp := false}) only [↓vp0, vz, vn, nq, tys, cellD, wideIR, if_true, if_false, implies_true, forall_const, ne_eq, reduceIte, reduceCtorEq, Nat.reduceEqDiff, Nat.reduceAdd, Nat.reduceMul, Nat.reduceLT, Nat.reduceSub, Nat.reduceLeDiff, Nat.reduceBNe, Nat.reduceBEq, Nat.reduceBeqDiff, List.range, List.range.loop, gl0, Tryd.ntmps76, Tryd.results76, PF.toR, givesIf, h, decide_false, spec_tfull, sp_tfull, c_tfull, b_tfull]
    exact hok
theorem c_ids1 : Contract E 27 := by
  refine contract_seeT hE hgl (show E.P.funcs[27]? = some Tryd.f27 from Tryd.func27) rfl (p := sp_ids1) (fun _ _ _ => rfl) ?_
  intro args hv
  unfold sp_ids1 at hv ⊢
  split at hv
  case h_2 => exact hv.elim
  rename_i i v is os l
  refine ⟨by simp, Nat.le_of_ble_eq_true rfl, ?_⟩
  simp only [givesIf] at hv
  have hok := hv
  obtain ⟨t, rfl, rfl, rfl, rfl, ht, -⟩ := okT_tx hok
  simp (config := {dsimp := false}) only [↓vp0, vz, vn, nq, tys, cellD, wideIR, if_true, if_false, implies_true, forall_const, ne_eq, reduceIte, reduceCtorEq, Nat.reduceEqDiff, Nat.reduceAdd, Nat.reduceMul, Nat.reduceLT, Nat.reduceSub, Nat.reduceLeDiff, Nat.reduceBNe, Nat.reduceBEq, Nat.reduceBeqDiff, List.range, List.range.loop, gl0, Tryd.ntmps27, Tryd.results27, PF.toR, givesIf, spec_tid, sp_tid, c_tid, b_tid]
  exact hok
theorem hashes_get (f : Bool) (l : List TxP) (k : Nat) (h : k < l.length) : (hashesP f l).take (k + 1) = (hashesP f l).take k ++ [if f = true then (if k = 0 then List.replicate 32 0 else fullP (l.getD k default)) else idP (l.getD k default)] := by
  rw [List.take_add_one]
  simp [hashesP, h]
theorem c_names : Contract E 26 := by
  refine contract_seeT hE hgl (show E.P.funcs[26]? = some Tryd.f26 from Tryd.func26) rfl (p := (sp_names 76 27)) (fun _ _ _ => rfl) ?_
  intro args hv
  unfold sp_names at hv ⊢
  split at hv
  case h_2 => exact hv.elim
  rename_i h0' hp hr h1 h2 h3 es h
  refine ⟨by simp, Nat.le_of_ble_eq_true rfl, ?_⟩
  simp only [givesIf] at hv
  obtain ⟨hh, hff, hhd, ⟨l, rfl, hok, hl⟩, hlen⟩ := hv
  simp only [txsD_length] at hlen
  have hx : ∀ (a : L2) (x : List Int), arrs a ++ [D.arr .u8 32 x] = arrs (a ++ [x]) := fun a x => arrs_append a [x]
  have htl : ∀ f, (hashesP f l).take l.length = hashesP f l := fun f => List.take_of_length_le (by rw [hashes_len]; exact Nat.le_refl _)
  rcases hh with rfl | ⟨rfl, h0⟩
  · skip
    simp (config := {dsimp := false}) only [↓vp0, vz, vn, nq, tys, cellD, wideIR, if_true, if_false, implies_true, forall_const, ne_eq, reduceIte, reduceCtorEq, Nat.reduceEqDiff, Nat.reduceAdd, Nat.reduceMul, Nat.reduceLT, Nat.reduceSub, Nat.reduceLeDiff, Nat.reduceBNe, Nat.reduceBEq, Nat.reduceBeqDiff, List.range, List.range.loop, gl0, Tryd.ntmps26, Tryd.results26]
    refine loopA [(4, none, 32)] ?_
    simp only [adopt, look, if_true, if_false, reduceIte, Nat.reduceEqDiff, setL, List.length_nil]
    refine ⟨Fin (l.length + 1), fun k => [(10, .int .i64 (k.1 : Nat)), (9, .int .i64 (l.length : Nat)), (8, .sl .no 4 (txsD l)), (4, .sl (.tok 24) 32 (arrs ((hashesP true l).take k.1))), (2, .bp 0 0), (1, .fn 76 [])], fun k => ⟨[(0, .agg [.agg [.int .u32 h0', .arr .u8 32 hp, .arr .u8 32 hr, .int .u32 h1, .int .u32 h2, .int .u32 h3], .sl .no 4 (txsD l)])], [(24, (k.1, 32))], 28⟩, fun k => l.length - k.1, 0, fun _ => rfl, ?_, ?_⟩
    · exact ⟨⟨wkD_eq rfl, rfl, wkD_eq rfl, rfl, wkD_eq rfl, rfl, wkD_eq rfl, rfl, wkD_eq rfl, rfl, wkD_eq rfl, rfl, trivial⟩, ⟨rfl, Nat.le_of_ble_eq_true rfl, rfl, trivial⟩, ⟨rfl, Nat.le_of_ble_eq_true rfl, trivial⟩⟩
    rintro ⟨k, hk⟩
    have hal : (arrs ((hashesP true l).take k)).length = k := by rw [arrs_length, List.length_take, hashes_len]; omega
    simp (config := {dsimp := false}) only [↓vp0, vz, vn, nq, tys, cellD, wideIR, if_true, if_false, implies_true, forall_const, ne_eq, reduceIte, reduceCtorEq, Nat.reduceEqDiff, Nat.reduceAdd, Nat.reduceMul, Nat.reduceLT, Nat.reduceSub, Nat.reduceLeDiff, Nat.reduceBNe, Nat.reduceBEq, Nat.reduceBeqDiff, List.range, List.range.loop, gl0, Tryd.ntmps26, Tryd.results26]
    refine ⟨fun hh => ?_, fun hh => ?_⟩
    · have hh := of_decide_eq_true hh
      have hk' : k < l.length := by omega
      have g1 := txsD_get l k hk'
      have ht := hok _ (getD_memI hk')
      have hg := hashes_get true l k hk'
      simp (config := {dsimp := false}) only [↓vp0, vz, vn, nq, tys, cellD, wideIR, if_true, if_false, implies_true, forall_const, ne_eq, reduceIte, reduceCtorEq, Nat.reduceEqDiff, Nat.reduceAdd, Nat.reduceMul, Nat.reduceLT, Nat.reduceSub, Nat.reduceLeDiff, Nat.reduceBNe, Nat.reduceBEq, Nat.reduceBeqDiff, List.range, List.range.loop, gl0, Tryd.ntmps26, Tryd.results26, PF.toR, givesIf, Int.toNat_natCast, g1, txD, hal, spec_fulls1, sp_fulls1, c_fulls1, b_fulls1]
      refine ⟨by omega, by omega, tx_okT ht, by omega, .inr trivial, .inr trivial, ⟨k + 1, by omega⟩, ⟨⟨wkD_eq ?_, rfl, wkD_eq rfl, rfl, wkD_eq rfl, rfl, wkD_eq ?_, rfl, wkD_eq rfl, rfl, wkD_eq rfl, rfl, trivial⟩, ⟨rfl, Nat.le_of_ble_eq_true rfl, rfl, trivial⟩, ⟨rfl, Nat.le_of_ble_eq_true rfl, trivial⟩⟩, by (try simp only); omega⟩
      · exact some_i64 (by (try simp only); omega)
      · rw [hg, bare_arr, hx]
        rw [if_pos rfl]
        by_cases hz : k = 0
        · subst hz; rfl
        · rw [if_neg hz, if_neg (by omega)]; rfl
    · have hh := of_decide_eq_false hh
      obtain rfl : k = l.length := by omega
      simp (config := {dsimp := false}) only [↓vp0, vz, vn, nq, tys, cellD, wideIR, if_true, if_false, implies_true, forall_const, ne_eq, reduceIte, reduceCtorEq, Nat.reduceEqDiff, Nat.reduceAdd, Nat.reduceMul, Nat.reduceLT, Nat.reduceSub, Nat.reduceLeDiff, Nat.reduceBNe, Nat.reduceBEq, Nat.reduceBeqDiff, List.range, List.range.loop, gl0, Tryd.ntmps26, Tryd.results26, givesIf, htl, strips_arrs, ts_slis, eq_self, decide_true]
      all_goals rfl
  · skip
    simp (config := {dsimp := false}) only [↓vp0, vz, vn, nq, tys, cellD, wideIR, if_true, if_false, implies_true, forall_const, ne_eq, reduceIte, reduceCtorEq, Nat.reduceEqDiff, Nat.reduceAdd, Nat.reduceMul, Nat.reduceLT, Nat.reduceSub, Nat.reduceLeDiff, Nat.reduceBNe, Nat.reduceBEq, Nat.reduceBeqDiff, List.range, List.range.loop, gl0, Tryd.ntmps26, Tryd.results26]
    refine loopA [(4, none, 32)] ?_
    simp only [adopt, look, if_true, if_false, reduceIte, Nat.reduceEqDiff, setL, List.length_nil]
    refine ⟨Fin (l.length + 1), fun k => [(10, .int .i64 (k.1 : Nat)), (9, .int .i64 (l.length : Nat)), (8, .sl .no 4 (txsD l)), (4, .sl (.tok 24) 32 (arrs ((hashesP false l).take k.1))), (2, .bp 0 0), (1, .fn 27 [])], fun k => ⟨[(0, .agg [.agg [.int .u32 h0', .arr .u8 32 hp, .arr .u8 32 hr, .int .u32 h1, .int .u32 h2, .int .u32 h3], .sl .no 4 (txsD l)])], [(24, (k.1, 32))], 28⟩, fun k => l.length - k.1, 0, fun _ => rfl, ?_, ?_⟩
    · exact ⟨⟨wkD_eq rfl, rfl, wkD_eq rfl, rfl, wkD_eq rfl, rfl, wkD_eq rfl, rfl, wkD_eq rfl, rfl, wkD_eq rfl, rfl, trivial⟩, ⟨rfl, Nat.le_of_ble_eq_true rfl, rfl, trivial⟩, ⟨rfl, Nat.le_of_ble_eq_true rfl, trivial⟩⟩
    rintro ⟨k, hk⟩
    have hal : (arrs ((hashesP false l).take k)).length = k := by rw [arrs_length, List.length_take, hashes_len]; omega
    simp (config := {dsimp := false}) only [↓vp0, vz, vn, nq, tys, cellD, wideIR, if_true, if_false, implies_true, forall_const, ne_eq, reduceIte, reduceCtorEq, Nat.reduceEqDiff, Nat.reduceAdd, Nat.reduceMul, Nat.reduceLT, Nat.reduceSub, Nat.reduceLeDiff, Nat.reduceBNe, Nat.reduceBEq, Nat.reduceBeqDiff, List.range, List.range.loop, gl0, Tryd.ntmps26, Tryd.results26]
    refine ⟨fun hh => ?_, fun hh => ?_⟩
    · have hh := of_decide_eq_true hh
      have hk' : k < l.length := by omega
      have g1 := txsD_get l k hk'
      have ht := hok _ (getD_memI hk')
      have hg := hashes_get false l k hk'
      simp (config := {dsimp := false}) only [↓vp0, vz, vn, nq, tys, cellD, wideIR, if_true, if_false, implies_true, forall_const, ne_eq, reduceIte, reduceCtorEq, Nat.reduceEqDiff, Nat.reduceAdd, Nat.reduceMul, Nat.reduceLT, Nat.reduceSub, Nat.reduceLeDiff, Nat.reduceBNe, Nat.reduceBEq, Nat.reduceBeqDiff, List.range, List.range.loop, gl0, Tryd.ntmps26, Tryd.results26, PF.toR, givesIf, Int.toNat_natCast, g1, txD, hal, spec_ids1, sp_ids1, c_ids1, b_ids1]
      refine ⟨by omega, by omega, tx_okT ht, by omega, .inr trivial, .inr trivial, ⟨k + 1, by omega⟩, ⟨⟨wkD_eq ?_, rfl, wkD_eq rfl, rfl, wkD_eq rfl, rfl, wkD_eq ?_, rfl, wkD_eq rfl, rfl, wkD_eq rfl, rfl, trivial⟩, ⟨rfl, Nat.le_of_ble_eq_true rfl, rfl, trivial⟩, ⟨rfl, Nat.le_of_ble_eq_true rfl, trivial⟩⟩, by (try simp only); omega⟩
      · exact some_i64 (by (try simp only); omega)
      · rw [hg, bare_arr, hx]
        all_goals rfl
    · have hh := of_decide_eq_false hh
      obtain rfl : k = l.length := by omega
      simp (config := {dsimp := false}) only [↓vp0, vz, vn, nq, tys, cellD, wideIR, if_true, if_false, implies_true, forall_const, ne_eq, reduceIte, reduceCtorEq, Nat.reduceEqDiff, Nat.reduceAdd, Nat.reduceMul, Nat.reduceLT, Nat.reduceSub, Nat.reduceLeDiff, Nat.reduceBNe, Nat.reduceBEq, Nat.reduceBeqDiff, List.range, List.range.loop, gl0, Tryd.ntmps26, Tryd.results26, givesIf, htl, strips_arrs, ts_slis, eq_self, decide_true]
      all_goals rfl
theorem c_fulls : Contract E 62 := by
  refine contract_seeT hE hgl (show E.P.funcs[62]? = some Tryd.f62 from Tryd.func62) rfl (p := sp_fulls) (fun _ _ _ => rfl) ?_
  intro args hv
  unfold sp_fulls at hv ⊢
  split at hv
  case h_2 => exact hv.elim
  rename_i h0 hp hr h1 h2 h3 es
  refine ⟨by simp, Nat.le_of_ble_eq_true rfl, ?_⟩
  simp only [givesIf] at hv
  obtain ⟨hhd, ⟨l, rfl, hok, hl⟩, hlen⟩ := hv
  simp (config := {dsimp := false}) only [↓vp0, vz, vn, nq, tys, cellD, wideIR, if_true, if_false, implies_true, forall_const, ne_eq, reduceIte, reduceCtorEq, Nat.reduceEqDiff, Nat.reduceAdd, Nat.reduceMul, Nat.reduceLT, Nat.reduceSub, Nat.reduceLeDiff, Nat.reduceBNe, Nat.reduceBEq, Nat.reduceBeqDiff, List.range, List.range.loop, gl0, Tryd.ntmps62, Tryd.results62, PF.toR, givesIf, strips_arrs, eq_self, decide_true, spec_names, sp_names, c_names, b_names]
  exact ⟨.inl trivial, hhd, ⟨l, rfl, hok, hl⟩, by simp only [txsD_length] at hlen ⊢; omega⟩
theorem c_ids : Contract E 16 := by
  refine contract_seeT hE hgl (show E.P.funcs[16]? = some Tryd.f16 from Tryd.func16) rfl (p := sp_ids) (fun _ _ _ => rfl) ?_
  intro args hv
  unfold sp_ids at hv ⊢
  split at hv
  case h_2 => exact hv.elim
  rename_i h0 hp hr h1 h2 h3 es
  refine ⟨by simp, Nat.le_of_ble_eq_true rfl, ?_⟩
  simp only [givesIf] at hv
  obtain ⟨hhd, ⟨l, rfl, hok, hl⟩, hlen⟩ := hv
  simp (config := {dsimp := false}) only [↓vp0, vz, vn, nq, tys, cellD, wideIR, if_true, if_false, implies_true, forall_const, ne_eq, reduceIte, reduceCtorEq, Nat.reduceEqDiff, Nat.reduceAdd, Nat.reduceMul, Nat.reduceLT, Nat.reduceSub, Nat.reduceLeDiff, Nat.reduceBNe, Nat.reduceBEq, Nat.reduceBeqDiff, List.range, List.range.loop, gl0, Tryd.ntmps16, Tryd.results16, PF.toR, givesIf, strips_arrs, decide_false, spec_names, sp_names, c_names, b_names]
  exact ⟨.inr trivial, hhd, ⟨l, rfl, hok, hl⟩, by simp only [txsD_length] at hlen ⊢; omega⟩
end Go.Vi.CD
end

section
set_option linter.unusedVariables false
set_option linter.unusedSimpArgs false
set_option maxHeartbeats 0
set_option maxRecDepth 20000
namespace Go.Vi.CD
open Go.Proofs

theorem wrapI64 {n : Int} (h1 : -9223372036854775808 ≤ n) (h2 : n ≤ 9223372036854775807) : IntKind.wrap .i64 n = n := by rw [IntKind.wrap_i64]; omega
theorem tx_eta (t : TxP) : (⟨t.ver, ins (insD t.ins), outs (outsD t.outs), t.lock⟩ : TxP) = t := by rw [ins_D, outs_D]
theorem c_cbase : Contract E 10 := by
  refine contract_seeT hE hgl (show E.P.funcs[10]? = some Tryd.f10 from Tryd.func10) rfl (p := sp_cbase) (fun _ _ _ => rfl) ?_
  intro args hv
  unfold sp_cbase at hv ⊢
  split at hv
  case h_2 => exact hv.elim
  rename_i v is os l
  refine ⟨by simp, Nat.le_of_ble_eq_true rfl, ?_⟩
  simp only [givesIf] at hv
  obtain ⟨t, rfl, rfl, rfl, rfl, ht⟩ := hv
  rw [tx_eta]
  by_cases h1 : t.ins.length = 1
  case neg =>
    have d1 : decide (((t.ins.length : Nat) : Int) = 1) = false := decide_eq_false (by omega)
    simp (config := {dsimp := false}) only [↓vp0, vz, vn, nq, tys, cellD, wideIR, if_true, if_false, implies_true, forall_const, ne_eq, reduceIte, reduceCtorEq, Nat.reduceEqDiff, Nat.reduceAdd, Nat.reduceMul, Nat.reduceLT, Nat.reduceSub, Nat.reduceLeDiff, Nat.reduceBNe, Nat.reduceBEq, Nat.reduceBeqDiff, List.range, List.range.loop, gl0, Tryd.ntmps10, Tryd.results10, d1, base_not1 h1, givesIf]
    all_goals rfl
  obtain ⟨tv, ti, to, tl⟩ := t
  obtain ⟨x, rfl⟩ : ∃ x, ti = [x] := by
    match ti, h1 with
    | [x], _ => exact ⟨x, rfl⟩
  have hx := ht.ins x (List.mem_cons_self ..)
  have he : eqFs E (eqB E 7) 0 [(0, 32), (32, 22)] [D.arr IntKind.u8 32 x.prev, D.int IntKind.u32 x.ix] [D.arr IntKind.u8 32 (List.replicate 32 0), D.int IntKind.u32 4294967295] = some (decide (x.prev = List.replicate 32 0) && decide (x.ix = 4294967295)) := by
    simp [eqFs, eqB, D.size, tsize, known, E, tyC]
  simp (config := {dsimp := false}) only [↓vp0, vz, vn, nq, tys, cellD, wideIR, if_true, if_false, implies_true, forall_const, ne_eq, reduceIte, reduceCtorEq, Nat.reduceEqDiff, Nat.reduceAdd, Nat.reduceMul, Nat.reduceLT, Nat.reduceSub, Nat.reduceLeDiff, Nat.reduceBNe, Nat.reduceBEq, Nat.reduceBeqDiff, List.range, List.range.loop, gl0, Tryd.ntmps10, Tryd.results10, show insD [x] = [inD x] from rfl, inD, show decide (((1 : Nat) : Int) = 1) = true from rfl, show Int.toNat 0 = 0 from rfl, List.getD_cons_zero, he, baseP, inBase, givesIf]
  exact ⟨Int.le_refl _, by decide⟩
theorem c_csum : Contract E 8 := by
  refine contract_seeT hE hgl (show E.P.funcs[8]? = some Tryd.f8 from Tryd.func8) rfl (p := sp_csum) (fun _ _ _ => rfl) ?_
  intro args hv
  unfold sp_csum at hv ⊢
  split at hv
  case h_2 => exact hv.elim
  rename_i v is os l
  refine ⟨by simp, Nat.le_of_ble_eq_true rfl, ?_⟩
  simp only [givesIf] at hv
  obtain ⟨t, rfl, rfl, rfl, rfl, ht⟩ := hv
  have hmo := ht.mo
  simp only [outs_D]
  simp (config := {dsimp := false}) only [↓vp0, vz, vn, nq, tys, cellD, wideIR, if_true, if_false, implies_true, forall_const, ne_eq, reduceIte, reduceCtorEq, Nat.reduceEqDiff, Nat.reduceAdd, Nat.reduceMul, Nat.reduceLT, Nat.reduceSub, Nat.reduceLeDiff, Nat.reduceBNe, Nat.reduceBEq, Nat.reduceBeqDiff, List.range, List.range.loop, gl0, Tryd.ntmps8, Tryd.results8]
  refine loopI {p : Nat × Int // p.1 ≤ t.outs.length ∧ sumG 0 (t.outs.take p.1) = some p.2 ∧ 0 ≤ p.2 ∧ p.2 ≤ 2100000000000000} (fun p => [(10, .int .i64 (p.1.1 : Nat)), (9, .int .i64 (t.outs.length : Nat)), (8, .sl .no 2 (outsD t.outs)), (4, .int .i64 p.1.2), (1, .bp 0 0)]) (fun _ => ⟨[(0, .agg [.int .u32 t.ver, .sl .no 36 (insD t.ins), .sl .no 2 (outsD t.outs), .int .u32 t.lock])], [], 32⟩) (fun p => t.outs.length - p.1.1) ⟨(0, 0), by simp [sumG]⟩ (fun _ => rfl) ?_ ?_
  · exact ⟨⟨wkD_eq rfl, rfl, wkD_eq rfl, rfl, wkD_eq rfl, rfl, wkD_eq rfl, rfl, wkD_eq rfl, rfl, trivial⟩, ⟨rfl, Nat.le_of_ble_eq_true rfl, rfl, trivial⟩, trivial⟩
  rintro ⟨⟨k, s⟩, hk, hs, hs0, hs1⟩
  simp only at hk hs hs0 hs1
  simp (config := {dsimp := false}) only [↓vp0, vz, vn, nq, tys, cellD, wideIR, if_true, if_false, implies_true, forall_const, ne_eq, reduceIte, reduceCtorEq, Nat.reduceEqDiff, Nat.reduceAdd, Nat.reduceMul, Nat.reduceLT, Nat.reduceSub, Nat.reduceLeDiff, Nat.reduceBNe, Nat.reduceBEq, Nat.reduceBeqDiff, List.range, List.range.loop, gl0, Tryd.ntmps8, Tryd.results8]
  refine ⟨fun hh => ?_, fun hh => ?_⟩
  case refine_2 =>
    have hh := of_decide_eq_false hh
    obtain rfl : k = t.outs.length := by omega
    rw [List.take_of_length_le (Nat.le_refl _)] at hs
    simp (config := {dsimp := false}) only [↓vp0, vz, vn, nq, tys, cellD, wideIR, if_true, if_false, implies_true, forall_const, ne_eq, reduceIte, reduceCtorEq, Nat.reduceEqDiff, Nat.reduceAdd, Nat.reduceMul, Nat.reduceLT, Nat.reduceSub, Nat.reduceLeDiff, Nat.reduceBNe, Nat.reduceBEq, Nat.reduceBeqDiff, List.range, List.range.loop, gl0, Tryd.ntmps8, Tryd.results8, hs, sumV, givesIf]
    all_goals rfl
  have hh := of_decide_eq_true hh
  have hk' : k < t.outs.length := by omega
  have g0 := outsD_get t.outs k hk'
  have hno := sumG_no hk' hs
  have hyes := sumG_step hk' hs
  have hv64 := (ht.outs _ (getD_memI hk')).value
  generalize t.outs.getD k default = x at *
  by_cases c1 : x.value < 0
  · have d1 : decide (x.value < 0) = true := decide_eq_true c1
    simp (config := {dsimp := false}) only [↓vp0, vz, vn, nq, tys, cellD, wideIR, if_true, if_false, implies_true, forall_const, ne_eq, reduceIte, reduceCtorEq, Nat.reduceEqDiff, Nat.reduceAdd, Nat.reduceMul, Nat.reduceLT, Nat.reduceSub, Nat.reduceLeDiff, Nat.reduceBNe, Nat.reduceBEq, Nat.reduceBeqDiff, List.range, List.range.loop, gl0, Tryd.ntmps8, Tryd.results8, Int.toNat_natCast, g0, outD, d1, hno (.inl c1), sumV, givesIf]
    exact ⟨by omega, by omega⟩
  have d1 : decide (x.value < 0) = false := decide_eq_false c1
  by_cases c2 : 2100000000000000 < x.value
  · have d2 : decide (2100000000000000 < x.value) = true := decide_eq_true c2
    simp (config := {dsimp := false}) only [↓vp0, vz, vn, nq, tys, cellD, wideIR, if_true, if_false, implies_true, forall_const, ne_eq, reduceIte, reduceCtorEq, Nat.reduceEqDiff, Nat.reduceAdd, Nat.reduceMul, Nat.reduceLT, Nat.reduceSub, Nat.reduceLeDiff, Nat.reduceBNe, Nat.reduceBEq, Nat.reduceBeqDiff, List.range, List.range.loop, gl0, Tryd.ntmps8, Tryd.results8, Int.toNat_natCast, g0, outD, d1, d2, hno (.inr (.inl c2)), sumV, givesIf]
    exact ⟨by omega, by omega⟩
  have d2 : decide (2100000000000000 < x.value) = false := decide_eq_false c2
  have hw : IntKind.wrap .i64 (s + x.value) = s + x.value := wrapI64 (by omega) (by omega)
  by_cases c3 : 2100000000000000 < s + x.value
  · have d3 : decide (2100000000000000 < s + x.value) = true := decide_eq_true c3
    simp (config := {dsimp := false}) only [↓vp0, vz, vn, nq, tys, cellD, wideIR, if_true, if_false, implies_true, forall_const, ne_eq, reduceIte, reduceCtorEq, Nat.reduceEqDiff, Nat.reduceAdd, Nat.reduceMul, Nat.reduceLT, Nat.reduceSub, Nat.reduceLeDiff, Nat.reduceBNe, Nat.reduceBEq, Nat.reduceBeqDiff, List.range, List.range.loop, gl0, Tryd.ntmps8, Tryd.results8, Int.toNat_natCast, g0, outD, d1, d2, hw, d3, hno (.inr (.inr c3)), sumV, givesIf]
    exact ⟨by omega, by omega⟩
  have d3 : decide (2100000000000000 < s + x.value) = false := decide_eq_false c3
  simp (config := {dsimp := false}) only [↓vp0, vz, vn, nq, tys, cellD, wideIR, if_true, if_false, implies_true, forall_const, ne_eq, reduceIte, reduceCtorEq, Nat.reduceEqDiff, Nat.reduceAdd, Nat.reduceMul, Nat.reduceLT, Nat.reduceSub, Nat.reduceLeDiff, Nat.reduceBNe, Nat.reduceBEq, Nat.reduceBeqDiff, List.range, List.range.loop, gl0, Tryd.ntmps8, Tryd.results8, Int.toNat_natCast, g0, outD, d1, d2, d3, hw]
  refine ⟨by omega, by omega, ⟨(k + 1, s + x.value), by simp only; omega, hyes ?_, by simp only; omega, by simp only; omega⟩, ⟨⟨wkD_eq ?_, rfl, wkD_eq rfl, rfl, wkD_eq rfl, rfl, wkD_eq rfl, rfl, wkD_eq rfl, rfl, trivial⟩, ⟨rfl, Nat.le_of_ble_eq_true rfl, rfl, trivial⟩, trivial⟩, by (try simp only); omega⟩
  · unfold badO; omega
  · exact some_i64 (by (try simp only); omega)
theorem c_cval : Contract E 41 := by
  refine contract_seeT hE hgl (show E.P.funcs[41]? = some Tryd.f41 from Tryd.func41) rfl (p := sp_cval) (fun _ _ _ => rfl) ?_
  intro args hv
  unfold sp_cval at hv ⊢
  split at hv
  case h_2 => exact hv.elim
  rename_i v is os l
  refine ⟨by simp, Nat.le_of_ble_eq_true rfl, ?_⟩
  simp only [givesIf] at hv
  obtain ⟨t, rfl, rfl, rfl, rfl, ht⟩ := hv
  rw [tx_eta]
  cases h : sumG 0 t.outs
  · have hb : badP t = true := by unfold badP; rw [h]; rfl
    simp (config := {dsimp := false}) only [↓vp0, vz, vn, nq, tys, cellD, wideIR, if_true, if_false, implies_true, forall_const, ne_eq, reduceIte, reduceCtorEq, Nat.reduceEqDiff, Nat.reduceAdd, Nat.reduceMul, Nat.reduceLT, Nat.reduceSub, Nat.reduceLeDiff, Nat.reduceBNe, Nat.reduceBEq, Nat.reduceBeqDiff, List.range, List.range.loop, gl0, Tryd.ntmps41, Tryd.results41, PF.toR, givesIf, outs_D, h, hb, sumV, spec_csum, sp_csum, c_csum, b_csum]
    exact anyT_tx ht
  · have hb : badP t = false := by unfold badP; rw [h]; rfl
    simp (config := {dsimp := false}) only [↓vp0, vz, vn, nq, tys, cellD, wideIR, if_true, if_false, implies_true, forall_const, ne_eq, reduceIte, reduceCtorEq, Nat.reduceEqDiff, Nat.reduceAdd, Nat.reduceMul, Nat.reduceLT, Nat.reduceSub, Nat.reduceLeDiff, Nat.reduceBNe, Nat.reduceBEq, Nat.reduceBeqDiff, List.range, List.range.loop, gl0, Tryd.ntmps41, Tryd.results41, PF.toR, givesIf, outs_D, h, hb, sumV, spec_csum, sp_csum, c_csum, b_csum]
    exact anyT_tx ht
end Go.Vi.CD
end

section
/-
  A SET OF WHAT INPUTS NAME: how many there are, beside how many inputs.
-/
set_option linter.unusedVariables false
set_option linter.unusedSimpArgs false
namespace Go.Vi
open Go.Maps Go.WideShapes

/-- The map, behind the keys ks were counted. -/
def Counted (D : DataW Unit) (ks : List Lit) : Prop := Tidy D ∧ (∀ k, Maps.has D k = ks.any fun y => y.sameKey k) ∧ Maps.size D ≤ ks.length ∧ (Maps.size D = ks.length ↔ ks.Nodup)
theorem counted_nil : Counted (.map []) [] := ⟨tidy_empty, fun _ => rfl, Nat.le_refl _, by simp [Maps.size]⟩
theorem counted_step {D : DataW Unit} {ks : List Lit} {x : Lit} (d : DataW Unit) (hx : WideAt.IsKeyLit x) (h : Counted D ks) : Counted (D.put x d) (ks ++ [x]) := by
  obtain ⟨ht, hh, hl, hs⟩ := h
  have hsz := size_put (k := x) ht d
  have hin : Maps.has D x = true ↔ x ∈ ks := by
    rw [hh x, List.any_eq_true]
    constructor
    · rintro ⟨y, hy, he⟩
      rw [← WideAt.sameKey_eq he]; exact hy
    · intro hm
      exact ⟨x, hm, WideAt.sameKey_self hx⟩
  refine ⟨ht.put hx d, fun k => ?_, ?_, ?_⟩
  · by_cases e : k = x
    · subst e
      rw [has_put_same ht.isMap hx]
      simp [WideAt.sameKey_self hx]
    · rw [has_put_other e, hh k]
      simp [sameKey_ne (fun e' => e e'.symm)]
  · rw [hsz, List.length_append]
    simp only [List.length_cons, List.length_nil]
    split <;> omega
  · rw [hsz, List.length_append]
    simp only [List.length_cons, List.length_nil]
    cases hc : Maps.has D x
    · have hni : x ∉ ks := fun hm => by rw [hin.2 hm] at hc; cases hc
      simp only [Bool.false_eq_true, if_false]
      rw [List.nodup_append]
      constructor
      · intro h
        refine ⟨hs.1 (by omega), by simp, ?_⟩
        intro a ha b hb e
        obtain rfl := List.mem_singleton.1 hb
        exact hni (e ▸ ha)
      · intro h
        rw [hs.2 h.1]
    · have hm := hin.1 hc
      simp only [if_true]
      constructor
      · intro h; omega
      · intro h
        exfalso
        rw [List.nodup_append] at h
        exact h.2.2 x hm x (by simp) rfl
theorem nodup_map_iff {α β γ : Type} {f : α → β} {g : α → γ} {l : List α} (h : ∀ x ∈ l, ∀ y ∈ l, f x = f y ↔ g x = g y) : (l.map f).Nodup ↔ (l.map g).Nodup := by
  unfold List.Nodup
  rw [List.pairwise_map, List.pairwise_map]
  constructor
  · intro hp
    exact hp.imp_of_mem fun {a b} ha hb hne e => hne ((h a ha b hb).2 e)
  · intro hp
    exact hp.imp_of_mem fun {a b} ha hb hne e => hne ((h a ha b hb).1 e)
theorem mapM_some {α β : Type} (f : α → Option β) : ∀ l : List α, (∀ x ∈ l, ∃ y, f x = some y) → ∃ ys, l.mapM f = some ys
  | [], _ => ⟨[], rfl⟩
  | a :: r, h => by
    obtain ⟨y, hy⟩ := h a (by simp)
    obtain ⟨ys, hys⟩ := mapM_some f r fun x hx => h x (by simp [hx])
    exact ⟨y :: ys, by rw [List.mapM_cons, hy, hys]; rfl⟩
/-- What an input names, as a value. -/
def keyV (x : InP) : Value := .agg (Go.Vi.ints .u8 x.prev ++ [Value.int .u32 x.ix]).toArray
theorem ints_inj {k : IntKind} : ∀ {a b : List Int}, Go.Vi.ints k a = Go.Vi.ints k b → a = b
  | [], [], _ => rfl
  | [], y :: b, h => by simp [Go.Vi.ints] at h
  | x :: a, [], h => by simp [Go.Vi.ints] at h
  | x :: a, y :: b, h => by
    simp only [Go.Vi.ints, List.map_cons, List.cons.injEq, Value.int.injEq, true_and] at h
    rw [h.1, ints_inj (k := k) h.2]
theorem keyV_inj {x y : InP} (h : keyV x = keyV y) : keyI x = keyI y := by
  simp only [keyV, Value.agg.injEq] at h
  have h := congrArg Array.toList h
  simp only [List.toList_toArray] at h
  have h1 := List.append_inj_left' h rfl
  have h2 := List.append_inj_right' h rfl
  simp only [List.cons.injEq, Value.int.injEq, true_and, and_true] at h2
  unfold keyI
  rw [ints_inj h1, h2]
theorem keyI_V {x y : InP} (h : keyI x = keyI y) : keyV x = keyV y := by
  unfold keyI at h
  simp only [Prod.mk.injEq] at h
  unfold keyV
  rw [h.1, h.2]
theorem key_some {P : Program} {K A B U : TypeId} {fs : Array Field} (hK : P.underlying K = some (.struct fs)) (hA : P.underlying A = some (.array 32 B)) (hB : P.underlying B = some (.int .u8)) (hU : P.underlying U = some (.int .u32))
    (cK : P.cellsOf K = 33) (cA : P.cellsOf A = 32) (cB : P.cellsOf B = 1) (cU : P.cellsOf U = 1) (hfs : ∀ f ∈ fs.toList, (f.type = A ∧ f.offset = 0) ∨ (f.type = U ∧ f.offset = 32)) (hn : fs.all (·.name != "_") = true)
    (hkt : P.keyType K = true) (hsz : ∃ m, P.types.size = m + 2) {x : InP} (hp : x.prev.length = 32) (hb : bytes x.prev) (hi : u32ok x.ix) : ∃ kl, keyOf P K (keyV x) = some kl := by
  obtain ⟨m, hm⟩ := hsz
  have hlen : (Go.Vi.ints .u8 x.prev ++ [Value.int .u32 x.ix]).length = 33 := by simp [Go.Vi.ints, hp]
  have hform : (keyV x).formed P K = true := by simp [keyV, Value.formed, hK, cK, Go.Vi.ints, hp]
  have hl : ∃ ls, P.keyLits (P.types.size + 1) K (keyV x).cells.toList = some ls := by
    rw [hm]
    show ∃ ls, P.keyLits (m + 3) K (keyV x).cells.toList = some ls
    have hc : (keyV x).cells.toList = Go.Vi.ints .u8 x.prev ++ [Value.int .u32 x.ix] := by simp [keyV, Value.cells]
    rw [hc]
    obtain ⟨ys, hys⟩ := mapM_some (fun f : Field => P.keyLits (m + 2) f.type (((Go.Vi.ints .u8 x.prev ++ [Value.int .u32 x.ix]).drop f.offset).take (P.cellsOf f.type))) fs.toList (by
      intro f hf
      rcases hfs f hf with ⟨h1, h2⟩ | ⟨h1, h2⟩
      · rw [h1, h2, cA]
        have e1 : ((Go.Vi.ints .u8 x.prev ++ [Value.int .u32 x.ix]).drop 0).take 32 = Go.Vi.ints .u8 x.prev := by
          rw [List.drop_zero, List.take_append_of_le_length (by simp [Go.Vi.ints, hp]), List.take_of_length_le (by simp [Go.Vi.ints, hp])]
        rw [e1]
        obtain ⟨zs, hzs⟩ := mapM_some (fun i => P.keyLits (m + 1) B (((Go.Vi.ints .u8 x.prev).drop (i * P.cellsOf B)).take (P.cellsOf B))) (List.range 32) (by
          intro i hi
          have hi : i < 32 := by simpa using hi
          rw [cB, Nat.mul_one]
          have e2 : ((Go.Vi.ints .u8 x.prev).drop i).take 1 = [.int .u8 (x.prev.getD i 0)] := by
            have hil : i < (Go.Vi.ints .u8 x.prev).length := by simp [Go.Vi.ints, hp, hi]
            rw [List.drop_eq_getElem_cons hil]
            simp [Go.Vi.ints, List.getD, hp, hi]
          rw [e2]
          have hby := hb (x.prev.getD i 0) (getD_memI (by omega))
          refine ⟨[.int .u8 (x.prev.getD i 0)], ?_⟩
          simp only [Program.keyLits, hB]
          rw [if_pos ⟨trivial, by simp only [Lit.wf, Bool.and_eq_true, decide_eq_true_eq, show IntKind.u8.min = 0 from rfl, show IntKind.u8.max = 255 from rfl]; omega⟩])
        refine ⟨zs.flatten, ?_⟩
        rw [Program.keyLits.eq_def]
        simp only [hA]
        rw [if_pos (by rw [cA]; simp [Go.Vi.ints, hp])]
        show Option.map List.flatten ((List.range 32).mapM fun i => P.keyLits (m + 1) B (((Go.Vi.ints .u8 x.prev).drop (i * P.cellsOf B)).take (P.cellsOf B))) = _
        rw [hzs]; rfl
      · rw [h1, h2, cU]
        have e1 : ((Go.Vi.ints .u8 x.prev ++ [Value.int .u32 x.ix]).drop 32).take 1 = [Value.int .u32 x.ix] := by
          rw [List.drop_append_of_le_length (by simp [Go.Vi.ints, hp]), List.drop_of_length_le (by simp [Go.Vi.ints, hp])]
          rfl
        rw [e1]
        refine ⟨[.int .u32 x.ix], ?_⟩
        simp only [Program.keyLits, hU]
        unfold u32ok at hi
        rw [if_pos ⟨trivial, by simp only [Lit.wf, Bool.and_eq_true, decide_eq_true_eq, show IntKind.u32.min = 0 from rfl, show IntKind.u32.max = 4294967295 from rfl]; omega⟩])
    refine ⟨ys.flatten, ?_⟩
    rw [Program.keyLits.eq_def]
    simp only [hK]
    rw [if_pos ⟨by rw [cK]; exact hlen, hn⟩, hys]; rfl
  obtain ⟨ls, hls⟩ := hl
  refine ⟨.string (keyBytes ls), ?_⟩
  unfold keyOf
  simp only [hK, hkt, hform, Bool.and_self, if_true]
  rw [hls]; rfl
end Go.Vi
end

section
/-
  OPERATIONS ON A MAP THAT IS COUNTED IN, at the operation: a look-up, an entry, its store; loads and stores of wide values.
-/
set_option linter.unusedVariables false
set_option linter.unusedSimpArgs false
namespace Go.Vi
open Go.Maps Go.WideShapes Go.ChangeMaps Go.MapKept
open Go.WideElems (Fit rd rg pl rd_val elemAt entry_then_store)
open Go.WideMaps (KeyLaw)

theorem owp_eq {P : Program} {o : Oper} {a : Act} {w w' : World} {K : Act → World → Prop} {Q : Exit → Act → World → Prop} {v : Value} (hrun : (execOp a.eval o).run P w = .ok (.value v) w') (h : K (a.put o.dst v) w') : o.wp P a w K Q := by
  unfold Oper.wp
  rw [hrun]
  exact h
theorem owp_skip {P : Program} {o : Oper} {a : Act} {w w' : World} {K : Act → World → Prop} {Q : Exit → Act → World → Prop} (hrun : (execOp a.eval o).run P w = .ok .skip w') (h : K (a.put o.dst undef) w') : o.wp P a w K Q := by
  unfold Oper.wp
  rw [hrun]
  exact h
theorem any_step {P : Program} {md : Region.Mode} {ops : Array Oper} {Q : Exit → Act → World → Prop} {fuel : Nat} {listed : Array Bool} {a : Act} {w w' : World} {i : Nat} {rs : List Nat} {o : Oper} {v : Value} (ho : ops[i]? = some o) (hg : o.guard = none)
    (hrun : (execOp a.eval o).run P w = .ok (.value v) w') (h : wpAny P md ops Q fuel (listed.setIfInBounds i true) (a.put o.dst v) w') (hs : AllReady P md ops Q fuel listed a w rs) : AllReady P md ops Q fuel listed a w (i :: rs) :=
  AllReady.cons ho (fun K hK => by rw [if_pos (by simp [Region.wanted, hg])]; exact owp_eq hrun (hK _ _ h)) hs
theorem any_skip {P : Program} {md : Region.Mode} {ops : Array Oper} {Q : Exit → Act → World → Prop} {fuel : Nat} {listed : Array Bool} {a : Act} {w w' : World} {i : Nat} {rs : List Nat} {o : Oper} (ho : ops[i]? = some o) (hg : o.guard = none)
    (hrun : (execOp a.eval o).run P w = .ok .skip w') (h : wpAny P md ops Q fuel (listed.setIfInBounds i true) (a.put o.dst undef) w') (hs : AllReady P md ops Q fuel listed a w rs) : AllReady P md ops Q fuel listed a w (i :: rs) :=
  AllReady.cons ho (fun K hK => by rw [if_pos (by simp [Region.wanted, hg])]; exact owp_skip hrun (hK _ _ h)) hs
theorem wpAny_as {P : Program} {md : Region.Mode} {ops : Array Oper} {Q : Exit → Act → World → Prop} {fuel : Nat} {listed : Array Bool} {a : Act} {w : World} (a' : Act) (ha : a = a') (h : wpAny P md ops Q fuel listed a' w) : wpAny P md ops Q fuel listed a w := ha ▸ h
section
variable {P : Program} {w w' : World} {ρ : Operand → Value} {o : Oper}
theorem exec_load {t : TypeId} {x : Operand} {p v : Value} (h : o.op = .load t x) (hp : ρ x = p) (hrun : (Instr.loadAt t p).run P w = .ok v w') : (execOp ρ o).run P w = .ok (.value v) w' := by
  simp [execOp, h, hp, hrun, Result.andThen]
theorem exec_lookup {t : TypeId} {m x : Operand} {mv key v : Value} (h : o.op = .lookup t m x false) (hm : ρ m = mv) (hx : ρ x = key) (hrun : (Instr.lookup t mv key false).run P w = .ok v w') : (execOp ρ o).run P w = .ok (.value v) w' := by
  simp [execOp, h, hm, hx, hrun, Result.andThen]
theorem exec_entry {t : TypeId} {m x : Operand} {mv key v : Value} (h : o.op = .mapEntry t m x) (hm : ρ m = mv) (hx : ρ x = key) (hrun : (Instr.mapEntry t mv key).run P w = .ok v w') : (execOp ρ o).run P w = .ok (.value v) w' := by
  simp [execOp, h, hm, hx, hrun, Result.andThen]
theorem exec_entryStore {t : TypeId} {m x y : Operand} {mv st v : Value} (h : o.op = .entryStore t m x y) (hm : ρ m = mv) (hx : ρ x = st) (hy : ρ y = v) (hrun : (Instr.entryStore t mv st v).run P w = .ok () w') : (execOp ρ o).run P w = .ok .skip w' := by
  simp [execOp, h, hm, hx, hy, hrun, Result.andThen]
end
section
variable {P : Program} (w : World) {ops : Array Oper} {rest : List Oper} {o : Oper} {a : Act} {Q : Exit → Act → World → Prop}
theorem wpList_load_eq (hg : o.guard = none) (t : TypeId) (x : Operand) (hop : o.op = Op.load t x) (p v : Value) (hx : a.eval x = p) (hrun : (Instr.loadAt t p).run P w = .ok v w) (hK : wpList P ops Q rest (a.put o.dst v) w) : wpList P ops Q (o :: rest) a w := by
  refine wpList_plain hg fun K' hK' => ?_
  unfold Oper.wp
  simp [execOp, hop, hx, hrun, Result.andThen]
  exact hK' _ _ hK
theorem wpList_store_eq (hg : o.guard = none) (t : TypeId) (x y : Operand) (hop : o.op = Op.store t x y) (p v : Value) (hx : a.eval x = p) (hy : a.eval y = v) (w' : World) (hrun : (Instr.storeAt t p v).run P w = .ok () w') (hK : wpList P ops Q rest (a.put o.dst undef) w') : wpList P ops Q (o :: rest) a w := by
  refine wpList_plain hg fun K' hK' => ?_
  unfold Oper.wp
  simp [execOp, hop, hx, hy, hrun, Result.andThen]
  exact hK' _ _ hK
end
theorem run_loadAt_cells {P : Program} {w : World} {t : TypeId} {b off : Nat} {cs : List Value} (ha : (isAgg t).run P w = .ok true w) (hs : (sizeOf t).run P w = .ok cs.length w)
    (h : ∀ j v, cs[j]? = some v → w.cell? ⟨b, off + j, none⟩ = some v) : (Instr.loadAt t (.pointer (some ⟨b, off, none⟩))).run P w = .ok (.agg cs.toArray) w := by
  have hadd : ∀ j, (⟨b, off, none⟩ : Addr).add j = ⟨b, off + j, none⟩ := fun j => by unfold Addr.add; split <;> simp_all
  have := run_loadCells_list (P := P) w ⟨b, off, none⟩ cs (fun j v hv => by rw [hadd]; exact h j v hv)
  simp only [Instr.loadAt, Instr.sureAddr, loadVar, Sem.run_bind, Sem.run_pure, Result.andThen, ha, hs, if_true]
  rw [this]
theorem loadW {P : Program} {w : World} {t : TypeId} {n : Nat} {z : Option Value} (ha : (isAgg t).run P w = .ok true w) (hi : (P.info? t).map (fun i => (i.zero, i.size)) = some (z, n)) {b off : Nat} {cs : List Value} (hl : cs.length = n)
    (h : ∀ j v, cs[j]? = some v → w.cell? ⟨b, off + j, none⟩ = some v) : (Instr.loadAt t (.pointer (some ⟨b, off, none⟩))).run P w = .ok (.agg cs.toArray) w := by
  refine run_loadAt_cells ha ?_ h
  cases hq : P.info? t with
  | none => simp [hq] at hi
  | some i =>
    simp [hq] at hi
    simp [sizeOf, typeInfo, hq, hi.2, hl]

/-- A map's entry, and its store. -/
theorem entry3 {P : Program} {k t e : TypeId} {b n : Nat} {w : World} {D : DataW Unit} (K : KeyLaw P k) (ht : P.underlying t = some (.map k e)) (he : P.underlying e = some (.int .i64)) (hz : ∀ u : World, (zeroValue e).run P u = .ok (.int .i64 0) u)
    (hown : w.ownsMap P k (plainElem P e) b n D) (hn : n < maxLen) {key : Value} {kl : Lit} (hkey : keyOf P k key = some kl) :
    ∃ (v0 : Value) (st : Nat) (W1 : World), (Instr.mapEntry t (.map (some b)) key).run P w = .ok (.tuple #[v0, goInt st]) W1 ∧ (∃ D1 : DataW Unit, W1.ownsMap P k (plainElem P e) b (n + 1) D1) ∧ w.grownBy W1 (some b) ∧
      ∀ (x : Int), (Lit.int .i64 x).wf = true → ∃ W4, (Instr.entryStore t (.map (some b)) (goInt st) (.int .i64 x)).run P W1 = .ok () W4 ∧ W4.ownsMap P k (plainElem P e) b (n + 1) (D.put kl (.lit (.int .i64 x))) ∧ w.grownBy W4 (some b) := by
  have KD : Keyed P k := Keyed.of_law K
  have hown0 := hown
  obtain ⟨es, clock, hb, F, hs, rfl⟩ := hown
  obtain ⟨v0, st, es1, clock1, hE, hv0, hS⟩ := entry_then_store K ht hz hb F hkey
  have hW1 : (setBlock w b (.map es1 clock1)).heap[b]? = some (.map es1 clock1) := heap_setBlock_same hb _
  have hg1 : w.grownBy (setBlock w b (.map es1 clock1)) (some b) := ⟨rfl, rfl, rfl, by simp [setBlock], fun i _ hi => heap_setBlock_other hb _ (fun e => hi (by rw [e]))⟩
  refine ⟨v0, st, _, hE, ?_, hg1, fun x hx => ?_⟩
  · rcases K.find w hkey es.toList F.keys with ⟨h1, h2⟩ | ⟨j, e0, h1, h2, h3⟩
    · have hE' : (Instr.mapEntry t (.map (some b)) key).run P w = .ok (.tuple #[.int .i64 0, goInt clock]) (setBlock w b (.map (es.push ⟨key, .int .i64 0, clock⟩) (clock + 1))) := by
        simp [Instr.mapEntry, run_underlying ht, MapKept.run_getObj_map hb, K.check w false hkey, h1, hz, MapKept.run_setObj_map _ hb, Result.andThen, setBlock]
      have hU : (Instr.mapUpdate t (.map (some b)) key (.int .i64 0)).run P w = .ok () (setBlock w b (.map (es.push ⟨key, .int .i64 0, clock⟩) (clock + 1))) := by
        simp [Instr.mapUpdate, run_underlying ht, MapKept.run_getObj_map hb, K.check w false hkey, h1, MapKept.run_setObj_map _ hb, Result.andThen, setBlock]
      rw [hE] at hE'
      simp only [Result.ok.injEq] at hE'
      rw [hE'.2]
      obtain ⟨w', hr, ho, _⟩ := hown0.update KD ht hn hkey (plainElem_int (H := Unit) he (show (Lit.int .i64 0).wf = true by decide))
      rw [hU] at hr
      simp only [Result.ok.injEq, true_and] at hr
      rw [hr]
      exact ⟨_, ho⟩
    · have hj : es[j]? = some e0 := by simpa using h2
      have hsame : es.modify j (fun e => { e with key := key }) = es := by
        apply Array.ext'
        rw [Array.toList_modify, modify_eq_set _ _ _ _ h2]
        have : ({ e0 with key := key } : MapEntry) = e0 := by rw [← h3]
        rw [this]
        exact Go.WideElems.set_self _ _ _ h2
      have hE' : (Instr.mapEntry t (.map (some b)) key).run P w = .ok (.tuple #[e0.val, goInt e0.born]) (setBlock w b (.map es clock)) := by
        simp [Instr.mapEntry, run_underlying ht, MapKept.run_getObj_map hb, K.check w false hkey, h1, hj, h3, K.stays w hkey, hsame, MapKept.run_setObj_map _ hb, Result.andThen, setBlock]
      rw [hE] at hE'
      simp only [Result.ok.injEq] at hE'
      rw [hE'.2]
      exact ⟨_, es, clock, heap_setBlock_same hb _, F, by omega, rfl⟩
  · obtain ⟨es', clock', hst, hup⟩ := hS _ (.int .i64 x) hW1
    obtain ⟨w', hr, ⟨es2, clock2, hb2, F2, hs2, hD2⟩, hg⟩ := hown0.update KD ht hn hkey (plainElem_int (H := Unit) he hx)
    rw [hup] at hr
    simp only [Result.ok.injEq, true_and] at hr
    subst hr
    have hbb : (setBlock w b (.map es' clock')).heap[b]? = some (.map es' clock') := heap_setBlock_same hb _
    rw [hbb] at hb2
    simp only [Option.some.injEq, Obj.map.injEq] at hb2
    obtain ⟨rfl, rfl⟩ := hb2
    refine ⟨_, hst, ⟨es', clock', heap_setBlock_same hW1 _, F2, hs2, hD2⟩, ⟨rfl, rfl, rfl, by simp [setBlock], fun i hi hi2 => ?_⟩⟩
    have hne : i ≠ b := fun e => hi2 (by rw [e])
    rw [heap_setBlock_other hW1 _ hne]
    exact heap_setBlock_other hb _ hne
end Go.Vi
end

section
set_option linter.unusedVariables false
set_option linter.unusedSimpArgs false
namespace Go.Proofs
open Go.RowKit Go.Shelf Go.Maps Go.Vi
attribute [local go_sem] Oper.semAt_some
def Tryd.zin : Array Value := #[.int .u8 0, .int .u8 0, .int .u8 0, .int .u8 0, .int .u8 0, .int .u8 0, .int .u8 0, .int .u8 0, .int .u8 0, .int .u8 0, .int .u8 0, .int .u8 0, .int .u8 0, .int .u8 0, .int .u8 0, .int .u8 0, .int .u8 0, .int .u8 0, .int .u8 0, .int .u8 0, .int .u8 0, .int .u8 0, .int .u8 0, .int .u8 0, .int .u8 0, .int .u8 0, .int .u8 0, .int .u8 0, .int .u8 0, .int .u8 0, .int .u8 0, .int .u8 0, .int .u32 0, .slice none 0 0, .int .u32 0, .slice none 0 0]
theorem Tryd.lay_ok : laidOutB Tryd.prog = true := by kernel_rfl
theorem Tryd.key_row : (48 : TypeId) < Tryd.prog.types.size := of_decide_eq_true (by kernel_rfl)
theorem Tryd.key_law : Go.WideMaps.KeyLaw Tryd.prog 48 := deep_law_laid Tryd.lay_ok (m := 3) (by omega) Tryd.key_row (by kernel_rfl) (by kernel_rfl)
theorem Tryd.key_keyed : Keyed Tryd.prog 48 := Keyed.of_law Tryd.key_law
theorem Tryd.zero_int (w : World) : (zeroValue 3).run Tryd.prog w = .ok (.int .i64 0) w := by kernel_rfl
theorem Tryd.agg_in (w : World) : (isAgg 52).run Tryd.prog w = .ok true w := by kernel_rfl
theorem Tryd.agg_op (w : World) : (isAgg 48).run Tryd.prog w = .ok true w := by kernel_rfl
theorem Tryd.info_in : (Tryd.prog.info? 52).map (fun i => (i.zero, i.size)) = some (some (.agg Tryd.zin), 36) := by kernel_rfl
theorem Tryd.info_op : (Tryd.prog.info? 48).map (fun i => (i.zero, i.size)) = some (some (.agg (Tryd.zin.extract 0 33)), 33) := by kernel_rfl
theorem hbx0_of {wr : World} {o : Obj} {b off : Nat} {v : Value} (h : wr.cell? ⟨b, off, none⟩ = some v) : (World.drew (wr.alloc o)).cell? ⟨b, off, none⟩ = some v := by
  have hb : b < wr.heap.size := by
    rcases Nat.lt_or_ge b wr.heap.size with h1 | h1
    · exact h1
    · simp [World.cell?, Array.getElem?_eq_none h1] at h
  exact (((Below.refl wr.heap.size wr).alloc (Nat.le_refl _) o).drew.cell (p := ⟨b, off, none⟩) hb).trans h
theorem grown_cell {w w' : World} {r b o : Nat} {v : Value} (hg : w.grownBy w' (some r)) (h : w.cell? ⟨b, o, none⟩ = some v) (hne : b ≠ r) : w'.cell? ⟨b, o, none⟩ = some v := by
  have hb : b < w.heap.size := by
    rcases Nat.lt_or_ge b w.heap.size with h1 | h1
    · exact h1
    · simp [World.cell?, Array.getElem?_eq_none h1] at h
  unfold World.cell? at h ⊢
  rw [hg.block b hb (by simpa using hne)]
  exact h
theorem cell_two (w : World) (xs : Array Value) (T : TypeId) (o : Obj) (j : Nat) (v : Value) (h : xs[j]? = some v) : ((w.alloc (.cells xs T)).alloc o).cell? ⟨w.heap.size, j, none⟩ = some v := by
  have h1 : ((w.alloc (.cells xs T)).alloc o).heap[w.heap.size]? = some (.cells xs T (0, 0)) := by rw [Below.heap_alloc _ _ _ (by simp)]; exact World.alloc_heap_new w _
  rw [cell_of_row _ _ j _ _ (0, 0) h1]; exact h
theorem wrap_wf (x : Int) : (Lit.int .i64 (IntKind.i64.wrap x)).wf = true := by
  simp only [Lit.wf, Bool.and_eq_true, decide_eq_true_eq, show IntKind.i64.min = -9223372036854775808 from rfl, show IntKind.i64.max = 9223372036854775807 from rfl]
  rw [IntKind.wrap_i64]; omega
set_option maxRecDepth 100000 in
set_option maxHeartbeats 2000000 in
theorem Tryd.double_w (Kl : Nat → Lit) (v0 v3 os : Value) (a : Option Addr) (b off len cap : Nat) (cs : Nat → List Value) (w : World) (hlen : len ≤ cap) (hb2 : len < 1000000000) (hb : len ≠ 0 → b < w.heap.size) (hsome : len ≠ 0 → a = some ⟨b, off, none⟩)
    (hcl : ∀ k, k < len → (cs k).length = 36) (hc : ∀ k, k < len → ∀ j v, (cs k)[j]? = some v → w.cell? ⟨b, off + k * 36 + j, none⟩ = some v) (hone : ∀ k, k < len → (cs k).toArray.all (·.oneCell') = true)
    (hkey : ∀ k, k < len → keyOf Tryd.prog 48 (.agg ((cs k).take 33).toArray) = some (Kl k)) :
    Calls Tryd.prog 39 #[.agg #[v0, .slice a len cap, os, v3]] w fun e w' => ∃ D : DataW Unit, Counted D ((List.range len).map Kl) ∧ e = .returned (.bool (decide (Maps.size D < len))) ∧ Below w.heap.size w w' := by
  have hmm := @run_makeMap Tryd.prog
  refine calls_of_wp Tryd.func39 rfl ?_
  simp only [Tryd.ntmps39, List.size_toArray, List.length_cons, List.length_nil, Nat.reduceAdd, Nat.reduceSub, Array.replicate_succ, Array.replicate_zero, List.push_toArray, List.append_toArray, List.nil_append, List.cons_append]
  go_wp2
  go_loopw [10] (fun i wr => ∃ (k : Nat) (D : DataW Unit), k ≤ len ∧ i = .int .i64 (k : Int) ∧ Counted D ((List.range k).map Kl) ∧ wr.ownsMap Tryd.prog 48 (plainElem Tryd.prog 3) (w.heap.size + 1) k D ∧ wr.cell? ⟨w.heap.size, 1, none⟩ = some (.slice a len cap) ∧ Below w.heap.size w wr)
    (fun i _ => len - (intOf i).toNat)
  case atStart => exact ⟨0, .map [], Nat.zero_le _, rfl, counted_nil, (by have := World.ownsMap_made (w.alloc (.cells #[v0, .slice a len cap, os, v3] 26)) Tryd.prog 48 (plainElem (H := Unit) Tryd.prog 3); rwa [World.size_alloc] at this), cell_two w _ _ _ 1 _ rfl, ((Below.refl _ _).alloc (Nat.le_refl _) _).alloc (by rw [World.size_alloc]; exact Nat.le_succ _) _⟩
  case round =>
    obtain ⟨k, D, hk, rfl, hcnt, hown, hbx, hnx⟩ := hrel
    by_cases hlt : k < len
    · obtain rfl := hsome (by omega)
      have hbb := hb (by omega)
      have hld : (Instr.loadAt 52 (.pointer (some ⟨b, off + k * 36, none⟩))).run Tryd.prog wr = .ok (.agg (cs k).toArray) wr :=
        loadW (Tryd.agg_in wr) Tryd.info_in (hcl k hlt) fun j v hv => (hnx.cell (p := ⟨b, off + k * 36 + j, none⟩) hbb).trans (hc k hlt j v hv)
      have hst := run_storeAt_new (P := Tryd.prog) wr 52 Tryd.zin (cs k).toArray (by rw [List.size_toArray, hcl k hlt]; kernel_rfl) (Eq.trans (b := 36) (by kernel_rfl) (by rw [List.size_toArray, hcl k hlt])) (hone k hlt)
      have hkk := hkey k hlt
      go_wp2_with (first
        | (refine wpList_load_eq _ rfl 52 _ rfl (.pointer (some ⟨b, off + k * 36, none⟩)) (.agg (cs k).toArray) rfl hld ?_)
        | (refine wpList_store_eq _ rfl 52 _ _ rfl (.pointer (some ⟨wr.heap.size, 0, none⟩)) (.agg (cs k).toArray) rfl rfl _ hst ?_))
      have hp0 : (World.drew (wr.alloc (.cells (cs k).toArray 52))).heap[wr.heap.size]? = some (.cells (cs k).toArray 52 (0, 0)) := World.alloc_heap_new wr _
      have hown0 : (World.drew (wr.alloc (.cells (cs k).toArray 52))).ownsMap Tryd.prog 48 (plainElem Tryd.prog 3) (w.heap.size + 1) k D := (hown.alloc _).drew
      have hnx0 : Below w.heap.size w (World.drew (wr.alloc (.cells (cs k).toArray 52))) := (hnx.alloc hnx.size _).drew
      have hbx0 : (World.drew (wr.alloc (.cells (cs k).toArray 52))).cell? ⟨w.heap.size, 1, none⟩ = some (.slice (some ⟨b, off, none⟩) len cap) := hbx0_of hbx
      refine wp_region_any (by kernel_rfl) ?_
      change wpAny _ _ _ _ _ _ _ (World.drew _)
      generalize World.drew (wr.alloc (.cells (cs k).toArray 52)) = W at *
      have hld2 : (Instr.loadAt 48 (.pointer (some ⟨wr.heap.size, 0, none⟩))).run Tryd.prog W = .ok (.agg ((cs k).take 33).toArray) W :=
        loadW (Tryd.agg_op W) Tryd.info_op (by rw [List.length_take, hcl k hlt]; rfl) fun j v hv => by
          rw [Nat.zero_add, cell_of_row W wr.heap.size j _ _ (0, 0) hp0]
          have hj : j < 33 := by
            have := (List.getElem?_eq_some_iff.1 hv).1
            rw [List.length_take] at this; omega
          rw [List.getElem?_take_of_lt hj] at hv
          simpa using hv
      obtain ⟨c0, hl0, -, hw0⟩ := hown0.lookup_int Tryd.key_keyed Tryd.underlying91 Tryd.underlying3 (Tryd.zero_int W) hkk
      obtain ⟨z0, st, W1, hE, ⟨D1, hown1⟩, hg1, hS⟩ := entry3 Tryd.key_law Tryd.underlying91 Tryd.underlying3 Tryd.zero_int hown0 (by unfold maxLen; omega) hkk
      obtain ⟨c1, hl1, -, hw1⟩ := hown1.lookup_int Tryd.key_keyed Tryd.underlying91 Tryd.underlying3 (Tryd.zero_int W1) hkk
      refine wpAny_take (i := 0) (v := .map (some (w.heap.size + 1))) rfl (by kernel_rfl) (by kernel_rfl) (by kernel_rfl) (fun _ _ _ h => h) (Or.inl ⟨by rfl, fun w => by rfl⟩) ?_
      refine wpAny_as ⟨#[.agg #[v0, .slice (some ⟨b, off, none⟩) len cap, os, v3], .pointer (some ⟨w.heap.size, 0, none⟩), .bool false, .map (some (w.heap.size + 1)), undef, .pointer (some ⟨wr.heap.size, 0, none⟩), .map (some (w.heap.size + 1)), .pointer (some ⟨w.heap.size, 1, none⟩), .slice (some ⟨b, off, none⟩) len cap, .int .i64 len, .int .i64 k, .bool true, .pointer (some ⟨b, off + k * 36, none⟩), .agg (cs k).toArray, .map (some (w.heap.size + 1)), u15, u16, u17, u18, u19, u20, u21, undef, undef, undef, undef, undef, undef], []⟩ (by rfl) ?_
      refine wpAny_take (i := 1) (v := .pointer (some ⟨wr.heap.size, 0, none⟩)) rfl (by kernel_rfl) (by kernel_rfl) (by kernel_rfl) (fun _ _ _ h => h) (Or.inl ⟨by rfl, fun w => by go_simp⟩) ?_
      refine wpAny_as ⟨#[.agg #[v0, .slice (some ⟨b, off, none⟩) len cap, os, v3], .pointer (some ⟨w.heap.size, 0, none⟩), .bool false, .map (some (w.heap.size + 1)), undef, .pointer (some ⟨wr.heap.size, 0, none⟩), .map (some (w.heap.size + 1)), .pointer (some ⟨w.heap.size, 1, none⟩), .slice (some ⟨b, off, none⟩) len cap, .int .i64 len, .int .i64 k, .bool true, .pointer (some ⟨b, off + k * 36, none⟩), .agg (cs k).toArray, .map (some (w.heap.size + 1)), .pointer (some ⟨wr.heap.size, 0, none⟩), u16, u17, u18, u19, u20, u21, undef, undef, undef, undef, undef, undef], []⟩ (by rfl) ?_
      refine wpAny_ready (rs := [2]) (by kernel_rfl) (by simp) (any_step (v := .agg ((cs k).take 33).toArray) rfl rfl (w' := W) (exec_load rfl rfl hld2) ?_ AllReady.nil)
      refine wpAny_as ⟨#[.agg #[v0, .slice (some ⟨b, off, none⟩) len cap, os, v3], .pointer (some ⟨w.heap.size, 0, none⟩), .bool false, .map (some (w.heap.size + 1)), undef, .pointer (some ⟨wr.heap.size, 0, none⟩), .map (some (w.heap.size + 1)), .pointer (some ⟨w.heap.size, 1, none⟩), .slice (some ⟨b, off, none⟩) len cap, .int .i64 len, .int .i64 k, .bool true, .pointer (some ⟨b, off + k * 36, none⟩), .agg (cs k).toArray, .map (some (w.heap.size + 1)), .pointer (some ⟨wr.heap.size, 0, none⟩), .agg ((cs k).take 33).toArray, u17, u18, u19, u20, u21, undef, undef, undef, undef, undef, undef], []⟩ (by rfl) ?_
      refine wpAny_ready (rs := [3, 5]) (by kernel_rfl) (by simp) (any_step (v := .int .i64 c0) rfl rfl (w' := W) (exec_lookup (mv := .map (some (w.heap.size + 1))) (key := .agg ((cs k).take 33).toArray) rfl rfl rfl hl0) ?_ (any_step (v := .tuple #[z0, goInt st]) rfl rfl (w' := W1) (exec_entry (mv := .map (some (w.heap.size + 1))) (key := .agg ((cs k).take 33).toArray) rfl rfl rfl hE) ?_ AllReady.nil))
      · refine wpAny_take (i := 4) (v := .int .i64 (IntKind.i64.wrap (c0 + 1))) rfl (by kernel_rfl) (by kernel_rfl) (by kernel_rfl) (fun _ _ _ h => h) (Or.inl ⟨by rfl, fun w => by go_simp⟩) ?_
        refine wpAny_as ⟨#[.agg #[v0, .slice (some ⟨b, off, none⟩) len cap, os, v3], .pointer (some ⟨w.heap.size, 0, none⟩), .bool false, .map (some (w.heap.size + 1)), undef, .pointer (some ⟨wr.heap.size, 0, none⟩), .map (some (w.heap.size + 1)), .pointer (some ⟨w.heap.size, 1, none⟩), .slice (some ⟨b, off, none⟩) len cap, .int .i64 len, .int .i64 k, .bool true, .pointer (some ⟨b, off + k * 36, none⟩), .agg (cs k).toArray, .map (some (w.heap.size + 1)), .pointer (some ⟨wr.heap.size, 0, none⟩), .agg ((cs k).take 33).toArray, .int .i64 c0, .int .i64 (IntKind.i64.wrap (c0 + 1)), u19, u20, u21, undef, undef, undef, undef, undef, undef], []⟩ (by rfl) ?_
        refine wpAny_ready (rs := [5]) (by kernel_rfl) (by simp) (any_step (v := .tuple #[z0, goInt st]) rfl rfl (w' := W1) (exec_entry (mv := .map (some (w.heap.size + 1))) (key := .agg ((cs k).take 33).toArray) rfl rfl rfl hE) ?_ AllReady.nil)
        refine wpAny_as ⟨#[.agg #[v0, .slice (some ⟨b, off, none⟩) len cap, os, v3], .pointer (some ⟨w.heap.size, 0, none⟩), .bool false, .map (some (w.heap.size + 1)), undef, .pointer (some ⟨wr.heap.size, 0, none⟩), .map (some (w.heap.size + 1)), .pointer (some ⟨w.heap.size, 1, none⟩), .slice (some ⟨b, off, none⟩) len cap, .int .i64 len, .int .i64 k, .bool true, .pointer (some ⟨b, off + k * 36, none⟩), .agg (cs k).toArray, .map (some (w.heap.size + 1)), .pointer (some ⟨wr.heap.size, 0, none⟩), .agg ((cs k).take 33).toArray, .int .i64 c0, .int .i64 (IntKind.i64.wrap (c0 + 1)), .tuple #[z0, goInt st], u20, u21, undef, undef, undef, undef, undef, undef], []⟩ (by rfl) ?_
        refine wpAny_take (i := 6) (v := goInt st) rfl (by kernel_rfl) (by kernel_rfl) (by kernel_rfl) (fun _ _ _ h => h) (Or.inl ⟨by rfl, fun w => by go_simp⟩) ?_
        refine wpAny_as ⟨#[.agg #[v0, .slice (some ⟨b, off, none⟩) len cap, os, v3], .pointer (some ⟨w.heap.size, 0, none⟩), .bool false, .map (some (w.heap.size + 1)), undef, .pointer (some ⟨wr.heap.size, 0, none⟩), .map (some (w.heap.size + 1)), .pointer (some ⟨w.heap.size, 1, none⟩), .slice (some ⟨b, off, none⟩) len cap, .int .i64 len, .int .i64 k, .bool true, .pointer (some ⟨b, off + k * 36, none⟩), .agg (cs k).toArray, .map (some (w.heap.size + 1)), .pointer (some ⟨wr.heap.size, 0, none⟩), .agg ((cs k).take 33).toArray, .int .i64 c0, .int .i64 (IntKind.i64.wrap (c0 + 1)), .tuple #[z0, goInt st], goInt st, u21, undef, undef, undef, undef, undef, undef], []⟩ (by rfl) ?_
        obtain ⟨W4, hS4, hown4, hg4⟩ := hS (IntKind.i64.wrap (c0 + 1)) (wrap_wf _)
        refine wpAny_ready (rs := [7]) (by kernel_rfl) (by simp) (any_skip rfl rfl (w' := W4) (exec_entryStore (mv := .map (some (w.heap.size + 1))) (st := goInt st) (v := .int .i64 (IntKind.i64.wrap (c0 + 1))) rfl rfl rfl rfl hS4) ?_ AllReady.nil)
        refine wpAny_done (by kernel_rfl) ?_ _
        go_wp2
        go_roundw
        case rel => exact ⟨k + 1, D.put (Kl k) (.lit (.int .i64 (IntKind.i64.wrap (c0 + 1)))), by omega, by go_num, by rw [List.range_succ, List.map_append]; exact counted_step _ (Tryd.key_keyed.key hkk) hcnt, hown4, (grown_cell hg4 hbx0 (by omega)), hnx0.grown hg4 hnx0.size (fun j hj => by cases hj; exact Nat.le_succ _)⟩
        case measure => simp [intOf]; omega
      · refine wpAny_take (i := 6) (v := goInt st) rfl (by kernel_rfl) (by kernel_rfl) (by kernel_rfl) (fun _ _ _ h => h) (Or.inl ⟨by rfl, fun w => by go_simp⟩) ?_
        refine wpAny_as ⟨#[.agg #[v0, .slice (some ⟨b, off, none⟩) len cap, os, v3], .pointer (some ⟨w.heap.size, 0, none⟩), .bool false, .map (some (w.heap.size + 1)), undef, .pointer (some ⟨wr.heap.size, 0, none⟩), .map (some (w.heap.size + 1)), .pointer (some ⟨w.heap.size, 1, none⟩), .slice (some ⟨b, off, none⟩) len cap, .int .i64 len, .int .i64 k, .bool true, .pointer (some ⟨b, off + k * 36, none⟩), .agg (cs k).toArray, .map (some (w.heap.size + 1)), .pointer (some ⟨wr.heap.size, 0, none⟩), .agg ((cs k).take 33).toArray, u17, u18, .tuple #[z0, goInt st], goInt st, u21, undef, undef, undef, undef, undef, undef], []⟩ (by rfl) ?_
        refine wpAny_ready (rs := [3]) (by kernel_rfl) (by simp) (any_step (v := .int .i64 c1) rfl rfl (w' := W1) (exec_lookup (mv := .map (some (w.heap.size + 1))) (key := .agg ((cs k).take 33).toArray) rfl rfl rfl hl1) ?_ AllReady.nil)
        refine wpAny_as ⟨#[.agg #[v0, .slice (some ⟨b, off, none⟩) len cap, os, v3], .pointer (some ⟨w.heap.size, 0, none⟩), .bool false, .map (some (w.heap.size + 1)), undef, .pointer (some ⟨wr.heap.size, 0, none⟩), .map (some (w.heap.size + 1)), .pointer (some ⟨w.heap.size, 1, none⟩), .slice (some ⟨b, off, none⟩) len cap, .int .i64 len, .int .i64 k, .bool true, .pointer (some ⟨b, off + k * 36, none⟩), .agg (cs k).toArray, .map (some (w.heap.size + 1)), .pointer (some ⟨wr.heap.size, 0, none⟩), .agg ((cs k).take 33).toArray, .int .i64 c1, u18, .tuple #[z0, goInt st], goInt st, u21, undef, undef, undef, undef, undef, undef], []⟩ (by rfl) ?_
        refine wpAny_take (i := 4) (v := .int .i64 (IntKind.i64.wrap (c1 + 1))) rfl (by kernel_rfl) (by kernel_rfl) (by kernel_rfl) (fun _ _ _ h => h) (Or.inl ⟨by rfl, fun w => by go_simp⟩) ?_
        refine wpAny_as ⟨#[.agg #[v0, .slice (some ⟨b, off, none⟩) len cap, os, v3], .pointer (some ⟨w.heap.size, 0, none⟩), .bool false, .map (some (w.heap.size + 1)), undef, .pointer (some ⟨wr.heap.size, 0, none⟩), .map (some (w.heap.size + 1)), .pointer (some ⟨w.heap.size, 1, none⟩), .slice (some ⟨b, off, none⟩) len cap, .int .i64 len, .int .i64 k, .bool true, .pointer (some ⟨b, off + k * 36, none⟩), .agg (cs k).toArray, .map (some (w.heap.size + 1)), .pointer (some ⟨wr.heap.size, 0, none⟩), .agg ((cs k).take 33).toArray, .int .i64 c1, .int .i64 (IntKind.i64.wrap (c1 + 1)), .tuple #[z0, goInt st], goInt st, u21, undef, undef, undef, undef, undef, undef], []⟩ (by rfl) ?_
        obtain ⟨W4, hS4, hown4, hg4⟩ := hS (IntKind.i64.wrap (c1 + 1)) (wrap_wf _)
        refine wpAny_ready (rs := [7]) (by kernel_rfl) (by simp) (any_skip rfl rfl (w' := W4) (exec_entryStore (mv := .map (some (w.heap.size + 1))) (st := goInt st) (v := .int .i64 (IntKind.i64.wrap (c1 + 1))) rfl rfl rfl rfl hS4) ?_ AllReady.nil)
        refine wpAny_done (by kernel_rfl) ?_ _
        go_wp2
        go_roundw
        case rel => exact ⟨k + 1, D.put (Kl k) (.lit (.int .i64 (IntKind.i64.wrap (c1 + 1)))), by omega, by go_num, by rw [List.range_succ, List.map_append]; exact counted_step _ (Tryd.key_keyed.key hkk) hcnt, hown4, (grown_cell hg4 hbx0 (by omega)), hnx0.grown hg4 hnx0.size (fun j hj => by cases hj; exact Nat.le_succ _)⟩
        case measure => simp [intOf]; omega
    · obtain rfl : k = len := by omega
      go_wp2_with (first
        | (at_len; refine wpList_len_own _ rfl _ _ rfl 48 3 Tryd.underlying91 (plainElem Tryd.prog 3) (w.heap.size + 1) k D rfl hown ?_))
      go_ret
      exact ⟨D, hcnt, by simp, hnx⟩
end Go.Proofs
namespace Go.Vi.CD
open Go.Proofs Go.RowKit Go.Maps
set_option maxRecDepth 100000 in
theorem key_of (x : InP) (hx : x.Ok) : ∃ kl, keyOf Tryd.prog 48 (keyV x) = some kl :=
  key_some (P := Tryd.prog) (K := 48) (A := 32) (B := 5) (U := 22) Tryd.underlying48 Tryd.underlying32 Tryd.underlying5 Tryd.underlying22 (by kernel_rfl) (by kernel_rfl) (by kernel_rfl) (by kernel_rfl)
    (fun f hf => by simp at hf; rcases hf with rfl | rfl <;> simp) (by simp) (by kernel_rfl) ⟨Tryd.prog.types.size - 2, by kernel_rfl⟩ hx.prev hx.pby hx.ix
theorem key_fun : ∃ KL : InP → Lit, ∀ x, x.Ok → keyOf Tryd.prog 48 (keyV x) = some (KL x) :=
  ⟨fun x => (keyOf Tryd.prog 48 (keyV x)).getD (.bool false), fun x hx => by
    obtain ⟨kl, h⟩ := key_of x hx
    simp only [h, Option.getD_some]⟩
theorem one_ints (p : List Int) : ∀ v ∈ ints .u8 p, v.oneCell' = true := by
  intro v hv
  obtain ⟨n, _, rfl⟩ := List.mem_map.1 hv
  rfl
theorem map_get {α β : Type} [Inhabited α] (f : α → β) (l : List α) : (List.range l.length).map (fun k => f (l.getD k default)) = l.map f := by
  apply List.ext_getElem
  · simp
  · intro i h1 h2
    simp at h1
    simp [List.getD, h1]
theorem c_double : Contract E 39 := by
  obtain ⟨keyL, key_L⟩ := key_fun
  refine contract_callsT (p := sp_double) (fun _ _ _ => rfl) fun xs hv g w vs hl0 hr => ?_
  unfold sp_double at hv ⊢
  split at hv
  case h_2 => exact hv.elim
  rename_i ve is os l
  obtain ⟨t, rfl, rfl, rfl, rfl, ht, e0⟩ := okT_tx hv
  obtain ⟨v1, r1, rfl, ⟨cs0, rfl, q0, q1, rfl, z0, q2, q3, rfl, z1, q4, q5, rfl, z2, q6, q7, rfl, z3, z4⟩, e3⟩ := hr
  have e3 : r1 = [] := e3
  have z0 : q0 = [.int .u32 t.ver] := z0
  have z3 : q6 = [.int .u32 t.lock] := z3
  have z4 : q7 = [] := z4
  obtain ⟨a, c, vE, rfl, hc, hes, hrow, _⟩ := z1
  obtain ⟨a2, c2, vO, rfl, _⟩ := z2
  subst e3 z0 z3 z4
  have hlen := es_length (insD t.ins) hes
  have eL := insD_length t.ins
  rw [eL] at hlen hc
  have hsome : ∃ b off, (t.ins.length ≠ 0 → a = some ⟨b, off, none⟩) ∧ (t.ins.length ≠ 0 → off + vE.length ≤ g.lim b ∧ At w b off vE) := by
    by_cases h0 : t.ins.length = 0
    · exact ⟨0, 0, fun h => absurd h0 h, fun h => absurd h0 h⟩
    · obtain ⟨b, off, e, h1, h2⟩ := hrow (by intro e; subst e; simp at hlen; omega)
      exact ⟨b, off, fun _ => e, fun _ => ⟨h1, h2⟩⟩
  obtain ⟨b, off, hs1, hs2⟩ := hsome
  have hB : t.ins.length ≠ 0 → b < w.heap.size := fun h0 => by
    obtain ⟨h1, h2⟩ := hs2 h0
    rcases Nat.lt_or_ge b w.heap.size with h | h
    · exact h
    · rw [hl0 b h] at h1; omega
  let cs : Nat → List Value := fun k => (vE.drop (k * 36)).take 36
  have hpart : ∀ k, k < t.ins.length → ∃ p4, cs k = (ints .u8 (t.ins.getD k default).prev ++ [.int .u32 (t.ins.getD k default).ix]) ++ p4 ∧ p4.length = 3 ∧ ∀ v ∈ p4, v.oneCell' = true := fun k hk => by
    obtain ⟨pre, mid, post, e', hpl, hm, hr⟩ := es_at (insD t.ins) k (by rw [eL]; exact hk) hes
    have he : (insD t.ins)[k]'(by rw [eL]; exact hk) = inD (t.ins.getD k default) := by
      rw [← insD_get t.ins k hk]
      simp [List.getD, eL, hk]
    rw [he] at hr
    have hcs : cs k = mid := by
      show (vE.drop (k * 36)).take 36 = mid
      rw [e', List.append_assoc, ← hpl, List.drop_left, ← hm, List.take_left]
    obtain ⟨m0, m1, rfl, ⟨m2, m3, rfl, y0, m4, m5, rfl, y1, y2⟩, m6, m7, rfl, y3, m8, m9, rfl, y4, m10, m11, rfl, y5, y6⟩ := hr
    have y0 : (t.ins.getD k default).prev.length = 32 ∧ m2 = ints .u8 (t.ins.getD k default).prev := y0
    have y1 : m4 = [.int .u32 (t.ins.getD k default).ix] := y1
    have y2 : m5 = [] := y2
    have y4 : m8 = [.int .u32 (t.ins.getD k default).seq] := y4
    have y6 : m11 = [] := y6
    obtain ⟨s1, s2, rfl, -⟩ := y3
    obtain ⟨w1, w2, w3, rfl, -⟩ := y5
    obtain ⟨-, rfl⟩ := y0
    subst y1 y2 y4 y6
    refine ⟨_, by rw [hcs]; simp only [List.append_nil]; rfl, rfl, fun v hv => ?_⟩
    simp only [List.cons_append, List.nil_append, List.mem_cons, List.not_mem_nil, or_false] at hv
    rcases hv with rfl | rfl | rfl <;> rfl
  have hcl : ∀ k, k < t.ins.length → (cs k).length = 36 := fun k hk => by
    obtain ⟨p4, e, h4, _⟩ := hpart k hk
    have hp := (ht.ins _ (getD_memI hk)).prev
    rw [e, List.length_append, List.length_append, h4]; simp only [ints, List.length_map, List.length_cons, List.length_nil]; omega
  have h33 : ∀ k, k < t.ins.length → .agg ((cs k).take 33).toArray = keyV (t.ins.getD k default) := fun k hk => by
    obtain ⟨p4, e, h4, _⟩ := hpart k hk
    have hp := (ht.ins _ (getD_memI hk)).prev
    have h1 : (ints .u8 (t.ins.getD k default).prev ++ [Value.int .u32 (t.ins.getD k default).ix]).length = 33 := by
      rw [List.length_append]; simp only [ints, List.length_map, List.length_cons, List.length_nil]; omega
    rw [e, List.take_append_of_le_length (by omega), List.take_of_length_le (by omega)]
    rfl
  rw [eL]
  refine Calls.mono (Tryd.double_w (fun k => keyL (t.ins.getD k default)) (.int .u32 t.ver) (.int .u32 t.lock) (.slice a2 (outsD t.outs).length c2) a b off t.ins.length c cs w hc ht.mi hB hs1 hcl ?_ ?_ ?_) ?_
  · intro k hk j v hv
    obtain ⟨_, h2⟩ := hs2 (by omega)
    have hj : j < 36 := by
      have := (List.getElem?_eq_some_iff.1 hv).1
      rw [hcl k hk] at this; exact this
    have : vE[k * 36 + j]? = some v := by
      have hv : ((vE.drop (k * 36)).take 36)[j]? = some v := hv
      rw [List.getElem?_take_of_lt hj, List.getElem?_drop] at hv
      exact hv
    have := h2 _ v this
    rw [Nat.add_assoc]; exact this
  · intro k hk
    obtain ⟨p4, e, _, h4⟩ := hpart k hk
    rw [List.all_toArray, List.all_eq_true, e]
    intro v hv
    rcases List.mem_append.1 hv with hv | hv
    · rcases List.mem_append.1 hv with hv | hv
      · exact one_ints _ v hv
      · obtain rfl := List.mem_singleton.1 hv; rfl
    · exact h4 v hv
  · intro k hk
    rw [h33 k hk]
    exact key_L _ (ht.ins _ (getD_memI hk))
  · rintro e w' ⟨D, hcnt, rfl, hb⟩
    refine ⟨_, rfl, ?_, hb⟩
    rw [e0]
    rw [map_get keyL] at hcnt
    obtain ⟨-, -, h3, h4⟩ := hcnt
    rw [List.length_map] at h3 h4
    have hnd : (t.ins.map keyL).Nodup ↔ (t.ins.map keyI).Nodup := nodup_map_iff fun x hx y hy => by
      constructor
      · intro h
        have h1 := key_L _ (ht.ins x hx)
        have h2 := key_L _ (ht.ins y hy)
        rw [h] at h1
        exact keyV_inj (Tryd.key_law.inj h1 h2)
      · intro h
        have h1 := key_L _ (ht.ins x hx)
        have h2 := key_L _ (ht.ins y hy)
        rw [keyI_V h, h2] at h1
        exact (Option.some.inj h1).symm
    have hd : decide (Maps.size D < t.ins.length) = doubleP t := by
      unfold doubleP
      by_cases hn : (t.ins.map keyI).Nodup
      · have := h4.2 (hnd.2 hn)
        rw [decide_eq_true hn, decide_eq_false (by omega)]; rfl
      · have : ¬ Maps.size D = t.ins.length := fun h => hn (hnd.1 (h4.1 h))
        rw [decide_eq_false hn, decide_eq_true (by omega)]; rfl
    rw [hd]
    rfl
end Go.Vi.CD
end

section
set_option linter.unusedVariables false
set_option linter.unusedSimpArgs false
set_option maxHeartbeats 0
set_option maxRecDepth 20000
namespace Go.Vi.CD
open Go.Proofs

theorem c_indexTx : Contract E 61 := by
  refine contract_seeT hE hgl (show E.P.funcs[61]? = some Tryd.f61 from Tryd.func61) rfl (p := (sp_indexTx 10 39 41 18)) (fun _ _ _ => rfl) ?_
  intro args hv
  unfold sp_indexTx at hv ⊢
  split at hv
  case h_2 => exact hv.elim
  rename_i es h
  refine ⟨by simp, Nat.le_of_ble_eq_true rfl, ?_⟩
  simp only [givesIf] at hv
  obtain ⟨hp, l, rfl, hok, hl⟩ := hv
  simp only [txs_D]
  rcases hp with rfl | rfl | rfl | rfl
  · have hpr : predOf 10 39 41 18 10 = baseP := rfl
    rw [hpr]
    obtain ⟨hI1, hI2⟩ := idx_go baseP l
    simp (config := {dsimp := false}) only [↓vp0, vz, vn, nq, tys, cellD, wideIR, if_true, if_false, implies_true, forall_const, ne_eq, reduceIte, reduceCtorEq, Nat.reduceEqDiff, Nat.reduceAdd, Nat.reduceMul, Nat.reduceLT, Nat.reduceSub, Nat.reduceLeDiff, Nat.reduceBNe, Nat.reduceBEq, Nat.reduceBeqDiff, List.range, List.range.loop, gl0, Tryd.ntmps61, Tryd.results61]
    refine loopI {k : Nat // k ≤ l.length ∧ ∀ j, j < k → baseP (l.getD j default) = false} (fun k => [(8, .int .i64 (k.1 : Nat)), (7, .int .i64 (l.length : Nat)), (0, .sl .no 4 (txsD l)), (1, .fn 10 [])]) (fun _ => ⟨[], [], 16⟩) (fun k => l.length - k.1) ⟨0, by simp⟩ (fun _ => rfl) ?_ ?_
    · exact ⟨⟨wkD_eq rfl, rfl, wkD_eq rfl, rfl, wkD_eq rfl, rfl, wkD_eq rfl, rfl, trivial⟩, trivial, trivial⟩
    rintro ⟨k, hk, hb⟩
    simp (config := {dsimp := false}) only [↓vp0, vz, vn, nq, tys, cellD, wideIR, if_true, if_false, implies_true, forall_const, ne_eq, reduceIte, reduceCtorEq, Nat.reduceEqDiff, Nat.reduceAdd, Nat.reduceMul, Nat.reduceLT, Nat.reduceSub, Nat.reduceLeDiff, Nat.reduceBNe, Nat.reduceBEq, Nat.reduceBeqDiff, List.range, List.range.loop, gl0, Tryd.ntmps61, Tryd.results61]
    refine ⟨fun hh => ?_, fun hh => ?_⟩
    · have hh := of_decide_eq_true hh
      have hk' : k < l.length := by omega
      have g1 := txsD_get l k hk'
      have hx := hok _ (getD_memI hk')
      have hc := tx_okT hx
      have ha := anyT_tx hx.any
      cases hp : baseP (l.getD k default)
      · have hpw : True := trivial
        simp (config := {dsimp := false}) only [↓vp0, vz, vn, nq, tys, cellD, wideIR, if_true, if_false, implies_true, forall_const, ne_eq, reduceIte, reduceCtorEq, Nat.reduceEqDiff, Nat.reduceAdd, Nat.reduceMul, Nat.reduceLT, Nat.reduceSub, Nat.reduceLeDiff, Nat.reduceBNe, Nat.reduceBEq, Nat.reduceBeqDiff, List.range, List.range.loop, gl0, Tryd.ntmps61, Tryd.results61, PF.toR, givesIf, Int.toNat_natCast, g1, txD, tx_eta, ins_D, outs_D, hp, hpw, spec_cbase, sp_cbase, c_cbase, b_cbase]
        refine ⟨by omega, by omega, ha, ⟨k + 1, by omega, fun j hj => ?_⟩, ⟨⟨wkD_eq ?_, rfl, wkD_eq rfl, rfl, wkD_eq rfl, rfl, wkD_eq rfl, rfl, trivial⟩, trivial, trivial⟩, by (try simp only); omega⟩
        · rcases Nat.lt_or_ge j k with h7 | h7
          · exact hb j h7
          · obtain rfl : j = k := by omega
            exact hp
        · exact some_i64 (by (try simp only); omega)
      · have hpw : True := trivial
        simp (config := {dsimp := false}) only [↓vp0, vz, vn, nq, tys, cellD, wideIR, if_true, if_false, implies_true, forall_const, ne_eq, reduceIte, reduceCtorEq, Nat.reduceEqDiff, Nat.reduceAdd, Nat.reduceMul, Nat.reduceLT, Nat.reduceSub, Nat.reduceLeDiff, Nat.reduceBNe, Nat.reduceBEq, Nat.reduceBeqDiff, List.range, List.range.loop, gl0, Tryd.ntmps61, Tryd.results61, PF.toR, givesIf, Int.toNat_natCast, g1, txD, tx_eta, ins_D, outs_D, hp, hpw, hI1 k hk' hb hp, spec_cbase, sp_cbase, c_cbase, b_cbase]
        exact ⟨by omega, by omega, ha⟩
    · have hh := of_decide_eq_false hh
      obtain rfl : k = l.length := by omega
      simp (config := {dsimp := false}) only [↓vp0, vz, vn, nq, tys, cellD, wideIR, if_true, if_false, implies_true, forall_const, ne_eq, reduceIte, reduceCtorEq, Nat.reduceEqDiff, Nat.reduceAdd, Nat.reduceMul, Nat.reduceLT, Nat.reduceSub, Nat.reduceLeDiff, Nat.reduceBNe, Nat.reduceBEq, Nat.reduceBeqDiff, List.range, List.range.loop, gl0, Tryd.ntmps61, Tryd.results61, givesIf, hI2 hb]
      all_goals rfl
  · have hpr : predOf 10 39 41 18 39 = doubleP := rfl
    rw [hpr]
    obtain ⟨hI1, hI2⟩ := idx_go doubleP l
    simp (config := {dsimp := false}) only [↓vp0, vz, vn, nq, tys, cellD, wideIR, if_true, if_false, implies_true, forall_const, ne_eq, reduceIte, reduceCtorEq, Nat.reduceEqDiff, Nat.reduceAdd, Nat.reduceMul, Nat.reduceLT, Nat.reduceSub, Nat.reduceLeDiff, Nat.reduceBNe, Nat.reduceBEq, Nat.reduceBeqDiff, List.range, List.range.loop, gl0, Tryd.ntmps61, Tryd.results61]
    refine loopI {k : Nat // k ≤ l.length ∧ ∀ j, j < k → doubleP (l.getD j default) = false} (fun k => [(8, .int .i64 (k.1 : Nat)), (7, .int .i64 (l.length : Nat)), (0, .sl .no 4 (txsD l)), (1, .fn 39 [])]) (fun _ => ⟨[], [], 16⟩) (fun k => l.length - k.1) ⟨0, by simp⟩ (fun _ => rfl) ?_ ?_
    · exact ⟨⟨wkD_eq rfl, rfl, wkD_eq rfl, rfl, wkD_eq rfl, rfl, wkD_eq rfl, rfl, trivial⟩, trivial, trivial⟩
    rintro ⟨k, hk, hb⟩
    simp (config := {dsimp := false}) only [↓vp0, vz, vn, nq, tys, cellD, wideIR, if_true, if_false, implies_true, forall_const, ne_eq, reduceIte, reduceCtorEq, Nat.reduceEqDiff, Nat.reduceAdd, Nat.reduceMul, Nat.reduceLT, Nat.reduceSub, Nat.reduceLeDiff, Nat.reduceBNe, Nat.reduceBEq, Nat.reduceBeqDiff, List.range, List.range.loop, gl0, Tryd.ntmps61, Tryd.results61]
    refine ⟨fun hh => ?_, fun hh => ?_⟩
    · have hh := of_decide_eq_true hh
      have hk' : k < l.length := by omega
      have g1 := txsD_get l k hk'
      have hx := hok _ (getD_memI hk')
      have hc := tx_okT hx
      have ha := anyT_tx hx.any
      cases hp : doubleP (l.getD k default)
      · have hpw : True := trivial
        simp (config := {dsimp := false}) only [↓vp0, vz, vn, nq, tys, cellD, wideIR, if_true, if_false, implies_true, forall_const, ne_eq, reduceIte, reduceCtorEq, Nat.reduceEqDiff, Nat.reduceAdd, Nat.reduceMul, Nat.reduceLT, Nat.reduceSub, Nat.reduceLeDiff, Nat.reduceBNe, Nat.reduceBEq, Nat.reduceBeqDiff, List.range, List.range.loop, gl0, Tryd.ntmps61, Tryd.results61, PF.toR, givesIf, Int.toNat_natCast, g1, txD, tx_eta, ins_D, outs_D, hp, hpw, spec_double, sp_double, c_double, b_double]
        refine ⟨by omega, by omega, hc, ⟨k + 1, by omega, fun j hj => ?_⟩, ⟨⟨wkD_eq ?_, rfl, wkD_eq rfl, rfl, wkD_eq rfl, rfl, wkD_eq rfl, rfl, trivial⟩, trivial, trivial⟩, by (try simp only); omega⟩
        · rcases Nat.lt_or_ge j k with h7 | h7
          · exact hb j h7
          · obtain rfl : j = k := by omega
            exact hp
        · exact some_i64 (by (try simp only); omega)
      · have hpw : True := trivial
        simp (config := {dsimp := false}) only [↓vp0, vz, vn, nq, tys, cellD, wideIR, if_true, if_false, implies_true, forall_const, ne_eq, reduceIte, reduceCtorEq, Nat.reduceEqDiff, Nat.reduceAdd, Nat.reduceMul, Nat.reduceLT, Nat.reduceSub, Nat.reduceLeDiff, Nat.reduceBNe, Nat.reduceBEq, Nat.reduceBeqDiff, List.range, List.range.loop, gl0, Tryd.ntmps61, Tryd.results61, PF.toR, givesIf, Int.toNat_natCast, g1, txD, tx_eta, ins_D, outs_D, hp, hpw, hI1 k hk' hb hp, spec_double, sp_double, c_double, b_double]
        exact ⟨by omega, by omega, hc⟩
    · have hh := of_decide_eq_false hh
      obtain rfl : k = l.length := by omega
      simp (config := {dsimp := false}) only [↓vp0, vz, vn, nq, tys, cellD, wideIR, if_true, if_false, implies_true, forall_const, ne_eq, reduceIte, reduceCtorEq, Nat.reduceEqDiff, Nat.reduceAdd, Nat.reduceMul, Nat.reduceLT, Nat.reduceSub, Nat.reduceLeDiff, Nat.reduceBNe, Nat.reduceBEq, Nat.reduceBeqDiff, List.range, List.range.loop, gl0, Tryd.ntmps61, Tryd.results61, givesIf, hI2 hb]
      all_goals rfl
  · have hpr : predOf 10 39 41 18 41 = badP := rfl
    rw [hpr]
    obtain ⟨hI1, hI2⟩ := idx_go badP l
    simp (config := {dsimp := false}) only [↓vp0, vz, vn, nq, tys, cellD, wideIR, if_true, if_false, implies_true, forall_const, ne_eq, reduceIte, reduceCtorEq, Nat.reduceEqDiff, Nat.reduceAdd, Nat.reduceMul, Nat.reduceLT, Nat.reduceSub, Nat.reduceLeDiff, Nat.reduceBNe, Nat.reduceBEq, Nat.reduceBeqDiff, List.range, List.range.loop, gl0, Tryd.ntmps61, Tryd.results61]
    refine loopI {k : Nat // k ≤ l.length ∧ ∀ j, j < k → badP (l.getD j default) = false} (fun k => [(8, .int .i64 (k.1 : Nat)), (7, .int .i64 (l.length : Nat)), (0, .sl .no 4 (txsD l)), (1, .fn 41 [])]) (fun _ => ⟨[], [], 16⟩) (fun k => l.length - k.1) ⟨0, by simp⟩ (fun _ => rfl) ?_ ?_
    · exact ⟨⟨wkD_eq rfl, rfl, wkD_eq rfl, rfl, wkD_eq rfl, rfl, wkD_eq rfl, rfl, trivial⟩, trivial, trivial⟩
    rintro ⟨k, hk, hb⟩
    simp (config := {dsimp := false}) only [↓vp0, vz, vn, nq, tys, cellD, wideIR, if_true, if_false, implies_true, forall_const, ne_eq, reduceIte, reduceCtorEq, Nat.reduceEqDiff, Nat.reduceAdd, Nat.reduceMul, Nat.reduceLT, Nat.reduceSub, Nat.reduceLeDiff, Nat.reduceBNe, Nat.reduceBEq, Nat.reduceBeqDiff, List.range, List.range.loop, gl0, Tryd.ntmps61, Tryd.results61]
    refine ⟨fun hh => ?_, fun hh => ?_⟩
    · have hh := of_decide_eq_true hh
      have hk' : k < l.length := by omega
      have g1 := txsD_get l k hk'
      have hx := hok _ (getD_memI hk')
      have hc := tx_okT hx
      have ha := anyT_tx hx.any
      cases hp : badP (l.getD k default)
      · have hpw : True := trivial
        simp (config := {dsimp := false}) only [↓vp0, vz, vn, nq, tys, cellD, wideIR, if_true, if_false, implies_true, forall_const, ne_eq, reduceIte, reduceCtorEq, Nat.reduceEqDiff, Nat.reduceAdd, Nat.reduceMul, Nat.reduceLT, Nat.reduceSub, Nat.reduceLeDiff, Nat.reduceBNe, Nat.reduceBEq, Nat.reduceBeqDiff, List.range, List.range.loop, gl0, Tryd.ntmps61, Tryd.results61, PF.toR, givesIf, Int.toNat_natCast, g1, txD, tx_eta, ins_D, outs_D, hp, hpw, spec_cval, sp_cval, c_cval, b_cval]
        refine ⟨by omega, by omega, ha, ⟨k + 1, by omega, fun j hj => ?_⟩, ⟨⟨wkD_eq ?_, rfl, wkD_eq rfl, rfl, wkD_eq rfl, rfl, wkD_eq rfl, rfl, trivial⟩, trivial, trivial⟩, by (try simp only); omega⟩
        · rcases Nat.lt_or_ge j k with h7 | h7
          · exact hb j h7
          · obtain rfl : j = k := by omega
            exact hp
        · exact some_i64 (by (try simp only); omega)
      · have hpw : True := trivial
        simp (config := {dsimp := false}) only [↓vp0, vz, vn, nq, tys, cellD, wideIR, if_true, if_false, implies_true, forall_const, ne_eq, reduceIte, reduceCtorEq, Nat.reduceEqDiff, Nat.reduceAdd, Nat.reduceMul, Nat.reduceLT, Nat.reduceSub, Nat.reduceLeDiff, Nat.reduceBNe, Nat.reduceBEq, Nat.reduceBeqDiff, List.range, List.range.loop, gl0, Tryd.ntmps61, Tryd.results61, PF.toR, givesIf, Int.toNat_natCast, g1, txD, tx_eta, ins_D, outs_D, hp, hpw, hI1 k hk' hb hp, spec_cval, sp_cval, c_cval, b_cval]
        exact ⟨by omega, by omega, ha⟩
    · have hh := of_decide_eq_false hh
      obtain rfl : k = l.length := by omega
      simp (config := {dsimp := false}) only [↓vp0, vz, vn, nq, tys, cellD, wideIR, if_true, if_false, implies_true, forall_const, ne_eq, reduceIte, reduceCtorEq, Nat.reduceEqDiff, Nat.reduceAdd, Nat.reduceMul, Nat.reduceLT, Nat.reduceSub, Nat.reduceLeDiff, Nat.reduceBNe, Nat.reduceBEq, Nat.reduceBeqDiff, List.range, List.range.loop, gl0, Tryd.ntmps61, Tryd.results61, givesIf, hI2 hb]
      all_goals rfl
  · have hpr : predOf 10 39 41 18 18 = witnessedP := rfl
    rw [hpr]
    obtain ⟨hI1, hI2⟩ := idx_go witnessedP l
    simp (config := {dsimp := false}) only [↓vp0, vz, vn, nq, tys, cellD, wideIR, if_true, if_false, implies_true, forall_const, ne_eq, reduceIte, reduceCtorEq, Nat.reduceEqDiff, Nat.reduceAdd, Nat.reduceMul, Nat.reduceLT, Nat.reduceSub, Nat.reduceLeDiff, Nat.reduceBNe, Nat.reduceBEq, Nat.reduceBeqDiff, List.range, List.range.loop, gl0, Tryd.ntmps61, Tryd.results61]
    refine loopI {k : Nat // k ≤ l.length ∧ ∀ j, j < k → witnessedP (l.getD j default) = false} (fun k => [(8, .int .i64 (k.1 : Nat)), (7, .int .i64 (l.length : Nat)), (0, .sl .no 4 (txsD l)), (1, .fn 18 [])]) (fun _ => ⟨[], [], 16⟩) (fun k => l.length - k.1) ⟨0, by simp⟩ (fun _ => rfl) ?_ ?_
    · exact ⟨⟨wkD_eq rfl, rfl, wkD_eq rfl, rfl, wkD_eq rfl, rfl, wkD_eq rfl, rfl, trivial⟩, trivial, trivial⟩
    rintro ⟨k, hk, hb⟩
    simp (config := {dsimp := false}) only [↓vp0, vz, vn, nq, tys, cellD, wideIR, if_true, if_false, implies_true, forall_const, ne_eq, reduceIte, reduceCtorEq, Nat.reduceEqDiff, Nat.reduceAdd, Nat.reduceMul, Nat.reduceLT, Nat.reduceSub, Nat.reduceLeDiff, Nat.reduceBNe, Nat.reduceBEq, Nat.reduceBeqDiff, List.range, List.range.loop, gl0, Tryd.ntmps61, Tryd.results61]
    refine ⟨fun hh => ?_, fun hh => ?_⟩
    · have hh := of_decide_eq_true hh
      have hk' : k < l.length := by omega
      have g1 := txsD_get l k hk'
      have hx := hok _ (getD_memI hk')
      have hc := tx_okT hx
      have ha := anyT_tx hx.any
      cases hp : witnessedP (l.getD k default)
      · have hpw : (l.getD k default).ins.any hasWit = false := hp
        simp (config := {dsimp := false}) only [↓vp0, vz, vn, nq, tys, cellD, wideIR, if_true, if_false, implies_true, forall_const, ne_eq, reduceIte, reduceCtorEq, Nat.reduceEqDiff, Nat.reduceAdd, Nat.reduceMul, Nat.reduceLT, Nat.reduceSub, Nat.reduceLeDiff, Nat.reduceBNe, Nat.reduceBEq, Nat.reduceBeqDiff, List.range, List.range.loop, gl0, Tryd.ntmps61, Tryd.results61, PF.toR, givesIf, Int.toNat_natCast, g1, txD, tx_eta, ins_D, outs_D, hp, hpw, spec_twitnessed, sp_twitnessed, c_twitnessed, b_twitnessed]
        refine ⟨by omega, by omega, hc, ⟨k + 1, by omega, fun j hj => ?_⟩, ⟨⟨wkD_eq ?_, rfl, wkD_eq rfl, rfl, wkD_eq rfl, rfl, wkD_eq rfl, rfl, trivial⟩, trivial, trivial⟩, by (try simp only); omega⟩
        · rcases Nat.lt_or_ge j k with h7 | h7
          · exact hb j h7
          · obtain rfl : j = k := by omega
            exact hp
        · exact some_i64 (by (try simp only); omega)
      · have hpw : (l.getD k default).ins.any hasWit = true := hp
        simp (config := {dsimp := false}) only [↓vp0, vz, vn, nq, tys, cellD, wideIR, if_true, if_false, implies_true, forall_const, ne_eq, reduceIte, reduceCtorEq, Nat.reduceEqDiff, Nat.reduceAdd, Nat.reduceMul, Nat.reduceLT, Nat.reduceSub, Nat.reduceLeDiff, Nat.reduceBNe, Nat.reduceBEq, Nat.reduceBeqDiff, List.range, List.range.loop, gl0, Tryd.ntmps61, Tryd.results61, PF.toR, givesIf, Int.toNat_natCast, g1, txD, tx_eta, ins_D, outs_D, hp, hpw, hI1 k hk' hb hp, spec_twitnessed, sp_twitnessed, c_twitnessed, b_twitnessed]
        exact ⟨by omega, by omega, hc⟩
    · have hh := of_decide_eq_false hh
      obtain rfl : k = l.length := by omega
      simp (config := {dsimp := false}) only [↓vp0, vz, vn, nq, tys, cellD, wideIR, if_true, if_false, implies_true, forall_const, ne_eq, reduceIte, reduceCtorEq, Nat.reduceEqDiff, Nat.reduceAdd, Nat.reduceMul, Nat.reduceLT, Nat.reduceSub, Nat.reduceLeDiff, Nat.reduceBNe, Nat.reduceBEq, Nat.reduceBeqDiff, List.range, List.range.loop, gl0, Tryd.ntmps61, Tryd.results61, givesIf, hI2 hb]
      all_goals rfl
theorem c_containsTx : Contract E 54 := by
  refine contract_seeT hE hgl (show E.P.funcs[54]? = some Tryd.f54 from Tryd.func54) rfl (p := (sp_containsTx 10 39 41 18)) (fun _ _ _ => rfl) ?_
  intro args hv
  unfold sp_containsTx at hv ⊢
  split at hv
  case h_2 => exact hv.elim
  rename_i es h
  refine ⟨by simp, Nat.le_of_ble_eq_true rfl, ?_⟩
  simp only [givesIf] at hv
  obtain ⟨hp, l, rfl, hok, hl⟩ := hv
  simp (config := {dsimp := false}) only [↓vp0, vz, vn, nq, tys, cellD, wideIR, if_true, if_false, implies_true, forall_const, ne_eq, reduceIte, reduceCtorEq, Nat.reduceEqDiff, Nat.reduceAdd, Nat.reduceMul, Nat.reduceLT, Nat.reduceSub, Nat.reduceLeDiff, Nat.reduceBNe, Nat.reduceBEq, Nat.reduceBeqDiff, List.range, List.range.loop, gl0, Tryd.ntmps54, Tryd.results54, PF.toR, givesIf, txs_D, idx_any, spec_indexTx, sp_indexTx, c_indexTx, b_indexTx]
  exact ⟨hp, _, rfl, hok, hl⟩
theorem c_none : Contract E 38 := by
  refine contract_seeT hE hgl (show E.P.funcs[38]? = some Tryd.f38 from Tryd.func38) rfl (p := (sp_none 10 39 41 18)) (fun _ _ _ => rfl) ?_
  intro args hv
  unfold sp_none at hv ⊢
  split at hv
  case h_2 => exact hv.elim
  rename_i es h
  refine ⟨by simp, Nat.le_of_ble_eq_true rfl, ?_⟩
  simp only [givesIf] at hv
  obtain ⟨hp, l, rfl, hok, hl⟩ := hv
  simp (config := {dsimp := false}) only [↓vp0, vz, vn, nq, tys, cellD, wideIR, if_true, if_false, implies_true, forall_const, ne_eq, reduceIte, reduceCtorEq, Nat.reduceEqDiff, Nat.reduceAdd, Nat.reduceMul, Nat.reduceLT, Nat.reduceSub, Nat.reduceLeDiff, Nat.reduceBNe, Nat.reduceBEq, Nat.reduceBeqDiff, List.range, List.range.loop, gl0, Tryd.ntmps38, Tryd.results38, PF.toR, givesIf, txs_D, spec_containsTx, sp_containsTx, c_containsTx, b_containsTx]
  exact ⟨hp, _, rfl, hok, hl⟩
end Go.Vi.CD
end

section
set_option linter.unusedVariables false
set_option linter.unusedSimpArgs false
namespace Go.Proofs
open Go.RowKit Go.Shelf
attribute [local go_sem] Oper.semAt_some

def Tryd.upto {α : Type} (f : Nat → α) (k : Nat) : List α := (List.range k).map f
theorem Tryd.upto_succ {α : Type} (f : Nat → α) (k : Nat) : Tryd.upto f (k + 1) = Tryd.upto f k ++ [f k] := by simp [Tryd.upto, List.range_succ]

set_option maxRecDepth 100000 in
set_option maxHeartbeats 2000000 in
theorem Tryd.chunk1_in (F : Fence) (n : Nat) (h60 : F.fn 56) (hro : F.round = none) (hn : 1 ≤ n) (l B0 B1 o1 B2 o2 b off len cap : Nat) (Kp : World → World → Prop) (hlen : len ≤ cap) (hb : len < 1000000000) (J Jx : List Nat → World → Prop)
    (hK1 : ∀ A B, Kp A B → B.cell? ⟨B1, o1, none⟩ = A.cell? ⟨B1, o1, none⟩) (hK2 : ∀ A B, Kp A B → B.cell? ⟨B2, o2, none⟩ = A.cell? ⟨B2, o2, none⟩)
    (hJ : AbidesFrom B0 J)
    (hY : ∀ pre i W, J pre W → pre.length = i → 2 * i < len → YieldAt F (n - 1) Tryd.prog l #[.slice (some ⟨b, off + 2 * i * 32, none⟩) (if 2 * i + 2 ≤ len then 2 else 1) (if 2 * i + 2 ≤ len then 2 else 1)] W fun e W' =>
      (e = .returned (.bool true) ∧ J (pre ++ [i]) W' ∧ Kp W W') ∨ (e = .returned (.bool false) ∧ Jx (pre ++ [i]) W'))
    (W : World) (h1 : W.cell? ⟨B1, o1, none⟩ = some (.slice (some ⟨b, off, none⟩) len cap)) (h2 : W.cell? ⟨B2, o2, none⟩ = some (.int .i64 2)) (h0 : J [] W) :
    CallsIn F n Tryd.prog 56 #[.func (.yield l) #[] #[], .pointer (some ⟨B1, o1, none⟩), .pointer (some ⟨B2, o2, none⟩)] W fun e W' => (∃ v, e = .returned v) ∧
      ((∃ k, (len ≤ 2 * k ∧ 2 * k < len + 2) ∧ J (List.range k) W') ∨ (∃ pre, Jx pre W')) := by
  refine callsIn_of_wp Tryd.func56 rfl h60 ?_ hro
  simp only [Tryd.ntmps56, List.size_toArray, List.length_cons, List.length_nil, Nat.reduceAdd, Nat.reduceSub, Array.replicate_succ, Array.replicate_zero, List.push_toArray, List.append_toArray, List.nil_append, List.cons_append]
  gi_wp2
  gi_loopw [4] (fun i wr => ∃ k : Nat, 2 * k < len + 2 ∧ i = .int .i64 (2 * k : Int) ∧ J (List.range k) wr ∧ wr.cell? ⟨B1, o1, none⟩ = some (.slice (some ⟨b, off, none⟩) len cap) ∧ wr.cell? ⟨B2, o2, none⟩ = some (.int .i64 2))
    (fun i _ => len + 2 - (intOf i).toNat)
  case atStart => exact ⟨0, by omega, rfl, h0, h1, h2⟩
  case round =>
    obtain ⟨k, hk, rfl, hJs, hc1, hc2⟩ := hrel
    by_cases hlt : 2 * k < len
    · have hD : J (List.range k) wr.drew := hJ _ _ _ none hJs ⟨rfl, rfl, rfl, Nat.le_refl _, fun _ _ _ => rfl⟩ (fun r e => by cases e)
      have hcD1 : wr.drew.cell? ⟨B1, o1, none⟩ = some (.slice (some ⟨b, off, none⟩) len cap) := hc1
      have hcD2 : wr.drew.cell? ⟨B2, o2, none⟩ = some (.int .i64 2) := hc2
      by_cases h2 : 2 * k + 2 ≤ len
      · obtain ⟨fn, tmps, assign, body, hy, hR⟩ := hY _ k wr.drew hD (by simp) hlt
        simp only [if_pos h2] at hy
        gi_wp2
        refine wpIn_mono (Q := fun e a w' => e = .normal ∧ (∃ u6 u7 u8 u9 u10 u11 u12 u13 u14 u15 u16 u17 u18 u19 u20 u21 u22 u23 u24 u25 u26 u27 u28 u29 u30, a = { tmps := #[Value.func (Fn.yield l) #[] #[], Value.pointer (some ⟨B1, o1, none⟩), Value.pointer (some ⟨B2, o2, none⟩), undef, Value.int IntKind.i64 (2 * (k : Int)), Value.int IntKind.i64 2, u6, u7, u8, u9, u10, u11, u12, u13, u14, u15, u16, u17, u18, u19, u20, u21, u22, u23, u24, u25, u26, u27, u28, u29, u30], defers := [] }) ∧ w' = wr.drew) ?_ ?_
        · gi_region
          all_goals rw [if_neg (by omega)]
          
          all_goals exact ⟨rfl, ⟨_, _, _, _, _, _, _, _, _, _, _, _, _, _, _, _, _, _, _, _, _, _, _, _, _, rfl⟩, rfl⟩
        rintro e a w' ⟨rfl, ⟨u6, u7, u8, u9, u10, u11, u12, u13, u14, u15, u16, u17, u18, u19, u20, u21, u22, u23, u24, u25, u26, u27, u28, u29, u30, rfl⟩, rfl⟩
        gi_wp2
        refine hR.mono ?_
        rintro e W3 (⟨rfl, hJ3, hk3⟩ | ⟨rfl, hJx3⟩)
        · have hd1 : W3.cell? ⟨B1, o1, none⟩ = some (.slice (some ⟨b, off, none⟩) len cap) := (hK1 _ _ hk3).trans hc1
          have hd2 : W3.cell? ⟨B2, o2, none⟩ = some (.int .i64 2) := (hK2 _ _ hk3).trans hc2
          gi_wp2
          go_roundw
          case rel => exact ⟨k + 1, by omega, by simp; omega, by rw [List.range_succ]; exact hJ3, hd1, hd2⟩
          case measure => simp [intOf]; omega
        · gi_wp2
          refine bodyPost_ret (results_none rfl _ _ _) rfl ?_
          exact ⟨⟨_, rfl⟩, .inr ⟨_, hJx3⟩⟩
      · obtain ⟨fn, tmps, assign, body, hy, hR⟩ := hY _ k wr.drew hD (by simp) hlt
        simp only [if_neg h2] at hy
        gi_wp2
        refine wpIn_mono (Q := fun e a w' => e = .normal ∧ (∃ u6 u7 u8 u9 u10 u11 u12 u13 u14 u15 u16 u17 u18 u19 u20 u21 u22 u23 u24 u25 u26 u27 u28 u29 u30, a = { tmps := #[Value.func (Fn.yield l) #[] #[], Value.pointer (some ⟨B1, o1, none⟩), Value.pointer (some ⟨B2, o2, none⟩), undef, Value.int IntKind.i64 (2 * (k : Int)), Value.int IntKind.i64 1, u6, u7, u8, u9, u10, u11, u12, u13, u14, u15, u16, u17, u18, u19, u20, u21, u22, u23, u24, u25, u26, u27, u28, u29, u30], defers := [] }) ∧ w' = wr.drew) ?_ ?_
        · gi_region
          all_goals rw [if_pos (by omega)]
          all_goals rw [show ((len - 2 * k : Nat) : Int) = 1 by omega]
          all_goals exact ⟨rfl, ⟨_, _, _, _, _, _, _, _, _, _, _, _, _, _, _, _, _, _, _, _, _, _, _, _, _, rfl⟩, rfl⟩
        rintro e a w' ⟨rfl, ⟨u6, u7, u8, u9, u10, u11, u12, u13, u14, u15, u16, u17, u18, u19, u20, u21, u22, u23, u24, u25, u26, u27, u28, u29, u30, rfl⟩, rfl⟩
        gi_wp2
        refine hR.mono ?_
        rintro e W3 (⟨rfl, hJ3, hk3⟩ | ⟨rfl, hJx3⟩)
        · have hd1 : W3.cell? ⟨B1, o1, none⟩ = some (.slice (some ⟨b, off, none⟩) len cap) := (hK1 _ _ hk3).trans hc1
          have hd2 : W3.cell? ⟨B2, o2, none⟩ = some (.int .i64 2) := (hK2 _ _ hk3).trans hc2
          gi_wp2
          go_roundw
          case rel => exact ⟨k + 1, by omega, by simp; omega, by rw [List.range_succ]; exact hJ3, hd1, hd2⟩
          case measure => simp [intOf]; omega
        · gi_wp2
          refine bodyPost_ret (results_none rfl _ _ _) rfl ?_
          exact ⟨⟨_, rfl⟩, .inr ⟨_, hJx3⟩⟩
    · gi_wp2
      go_end0
      exact ⟨⟨_, rfl⟩, .inl ⟨k, ⟨by omega, hk⟩, hJs⟩⟩
end Go.Proofs
end

section
set_option linter.unusedVariables false
namespace Go.Vi
open Go.Proofs Go.RowKit

theorem at_partC {w : World} {b off : Nat} {cs : List Value} (h : At w b off cs) (i n : Nat) : At w b (off + i) ((cs.take n).drop i) := by
  intro j v hv
  rw [List.getElem?_drop, List.getElem?_take] at hv
  split at hv
  · have := h (i + j) v hv
    rwa [← Nat.add_assoc] at this
  · cases hv

def chunkEl (es : List D) (i : Nat) : D := .sl .full 32 ((es.take (2 * i + 2)).drop (2 * i))

theorem iter_chunk {E : Env} (hP : E.P = Tryd.prog) (es : List D) (h0 : es ≠ []) (hb : es.length < 1000000000) : Iter E 56 [.ip (.sl .no 32 es) 0, .ip (.int .i64 2) 0] (m := (es.length + 1) / 2) (fun i => [chunkEl es i.1]) := by
  refine ⟨by rw [hP, Tryd.func56]; simp, fun g w vs n hn hl hr => ?_⟩
  obtain ⟨c1, c2, rfl, ⟨B1, o1, vs1, rfl, ⟨a, c, vsE, rfl, hc, hes, hrow, _⟩, hl1, ha1⟩, ⟨c3, c4, rfl, ⟨B2, o2, vs2, rfl, h2, hl2, ha2⟩, h4⟩⟩ := hr
  have h2 : vs2 = [.int .i64 2] := h2
  subst h2
  have h4 : c4 = [] := h4
  subst h4
  have hlen := es_length es hes
  have hpos : 0 < es.length := List.length_pos_iff.2 h0
  obtain ⟨b, off, rfl, hlb, hat⟩ := hrow (by intro e; subst e; simp at hlen; exact h0 (List.eq_nil_of_length_eq_zero (by omega)))
  have k1 : w.cell? ⟨B1, o1, none⟩ = some (.slice (some ⟨b, off, none⟩) es.length c) := ha1 0 _ rfl
  have k2 : w.cell? ⟨B2, o2, none⟩ = some (.int .i64 2) := ha2 0 _ rfl
  have hB1 : B1 < w.heap.size := by
    rcases Nat.lt_or_ge B1 w.heap.size with h | h
    · exact h
    · rw [hl B1 h] at hl1; simp at hl1
  have hB2 : B2 < w.heap.size := by
    rcases Nat.lt_or_ge B2 w.heap.size with h | h
    · exact h
    · rw [hl B2 h] at hl2; simp at hl2
  refine ⟨fun args w => (by rw [hP]; exact enters_of Tryd.func56 (by kernel_rfl) rfl args w), fun i => #[.slice (some ⟨b, off + 2 * i.1 * 32, none⟩) (if 2 * i.1 + 2 ≤ es.length then 2 else 1) (if 2 * i.1 + 2 ≤ es.length then 2 else 1)], fun i => ?_, ?_⟩
  · have hil : 2 * i.1 < es.length := by have := i.2; omega
    have hcl : ((es.take (2 * i.1 + 2)).drop (2 * i.1)).length = if 2 * i.1 + 2 ≤ es.length then 2 else 1 := by
      simp only [List.length_drop, List.length_take]
      split <;> omega
    refine ⟨_, [], rfl, ?_, rfl⟩
    show RepC g w (chunkEl es i.1) _
    unfold chunkEl
    refine ⟨some ⟨b, off + 2 * i.1 * 32, none⟩, (if 2 * i.1 + 2 ≤ es.length then 2 else 1), ((vsE.take ((2 * i.1 + 2) * 32)).drop (2 * i.1 * 32)), by rw [hcl], by rw [hcl]; exact Nat.le_refl _, es_part es (2 * i.1) (2 * i.1 + 2) hes, fun _ => ⟨b, _, rfl, ?_, at_partC hat _ _⟩, by simp only [OwnOk]; exact hcl.symm⟩
    have e1 := hlen
    have hlb2 : off + vsE.length ≤ g.lim b := hlb
    simp only [List.length_drop, List.length_take]
    omega
  · intro l J Jx W hW hJ hJx hY hJ0
    have kW1 : W.cell? ⟨B1, o1, none⟩ = some (.slice (some ⟨b, off, none⟩) es.length c) := (hW.cell (p := ⟨B1, o1, none⟩) hB1).trans k1
    have kW2 : W.cell? ⟨B2, o2, none⟩ = some (.int .i64 2) := (hW.cell (p := ⟨B2, o2, none⟩) hB2).trans k2
    let up : List Nat → List (Fin ((es.length + 1) / 2)) := fun l => l.filterMap fun i => if h : i < (es.length + 1) / 2 then some ⟨i, h⟩ else none
    have up_snoc : ∀ l i (h : i < (es.length + 1) / 2), up (l ++ [i]) = up l ++ [⟨i, h⟩] := fun l i h => by simp [up, h]
    rw [hP] at hY ⊢
    refine (Tryd.chunk1_in (FR none) n trivial rfl hn l W.heap.size B1 o1 B2 o2 b off es.length c (KpOf g w) hc hb (fun l W => (∀ i ∈ l, i < (es.length + 1) / 2) ∧ J (up l) W) (fun l W => Jx (up l) W)
      (fun A B h => h B1 o1 hB1 (by simp at hl1; omega)) (fun A B h => h B2 o2 hB2 (by simp at hl2; omega))
      (fun s A B row hs hg hr => ⟨hs.1, hJ _ A B row hs.2 hg hr⟩) ?_ W kW1 kW2 ⟨by simp, hJ0⟩).mono ?_
    · rintro pre i W1 ⟨hp, hj⟩ hpi hi
      have hlt : i < (es.length + 1) / 2 := by omega
      have hul : (up pre).length = pre.length := by
        have : ∀ l : List Nat, (∀ i ∈ l, i < (es.length + 1) / 2) → (up l).length = l.length := by
          intro l
          induction l with
          | nil => intro _; rfl
          | cons x r ih =>
            intro h
            have hx := h x (List.mem_cons_self ..)
            have := ih fun i hi => h i (List.mem_cons_of_mem _ hi)
            simp only [up, List.filterMap_cons, hx, dif_pos, List.length_cons]
            exact congrArg (· + 1) this
        exact this pre hp
      have := hY (up pre) ⟨i, hlt⟩ W1 hj (by rw [hul, hpi]; exact hlt)
      obtain ⟨fn, tmps, assign, body, hy, hR⟩ := this
      refine ⟨fn, tmps, assign, body, hy, hR.mono ?_⟩
      rintro e W' (⟨rfl, h1, h2⟩ | ⟨rfl, h1⟩)
      · refine .inl ⟨rfl, ⟨fun j hj => ?_, by rw [up_snoc pre i hlt]; exact h1⟩, h2⟩
        rcases List.mem_append.1 hj with h | h
        · exact hp j h
        · simp at h; subst h; exact hlt
      · exact .inr ⟨rfl, by rw [up_snoc pre i hlt]; exact h1⟩
    · rintro e W' ⟨hv, ⟨k, ⟨hk1, hk2⟩, _, hj⟩ | ⟨pre, hj⟩⟩
      · refine ⟨hv, .inl ⟨_, ?_, hj⟩⟩
        have hk : k = (es.length + 1) / 2 := by omega
        subst hk
        apply List.ext_getElem
        · have : ∀ m, m ≤ (es.length + 1) / 2 → (up (List.range m)).length = m := by
            intro m
            induction m with
            | zero => intro _; rfl
            | succ m ih => intro h; rw [List.range_succ, up_snoc _ m (by omega), List.length_append, ih (by omega)]; rfl
          rw [this _ (Nat.le_refl _)]; simp
        · intro j h1 h2
          have : ∀ m, m ≤ (es.length + 1) / 2 → ∀ j (hj : j < m) (hx : j < (es.length + 1) / 2), (up (List.range m))[j]? = some ⟨j, hx⟩ := by
            intro m
            induction m with
            | zero => intro _ j hj; omega
            | succ m ih =>
              intro h j hj hx
              have hlen' : (up (List.range m)).length = m := by
                clear ih hj hx
                have : ∀ m, m ≤ (es.length + 1) / 2 → (up (List.range m)).length = m := by
                  intro m
                  induction m with
                  | zero => intro _; rfl
                  | succ m ih => intro h; rw [List.range_succ, up_snoc _ m (by omega), List.length_append, ih (by omega)]; rfl
                exact this m (by omega)
              rw [List.range_succ, up_snoc _ m (by omega)]
              rcases Nat.lt_or_ge j m with h' | h'
              · rw [List.getElem?_append_left (by omega)]
                exact ih (by omega) j h' hx
              · obtain rfl : j = m := by omega
                rw [List.getElem?_append_right (by omega), hlen']
                simp
          have hx : j < (es.length + 1) / 2 := by simpa using h2
          have := this _ (Nat.le_refl _) j hx hx
          rw [List.getElem?_eq_getElem h1] at this
          simp at this
          rw [this]
          simp
      · exact ⟨hv, .inr ⟨_, trivial, hj⟩⟩
end Go.Vi
end
