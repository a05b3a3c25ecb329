/- Lemmas for the law proved in the text whose name ends with Law. -/
import Derived.Test.YtckeppediepakaaDoorP14

section
set_option linter.unusedVariables false
set_option linter.unusedSimpArgs false
set_option maxHeartbeats 0
set_option maxRecDepth 20000
namespace Go.Vi.TP
open Go.Proofs

theorem byte_at {n : Int} {i : Nat} (h : u64ok n) (hi : i < 8) : IntKind.wrap .u8 (shrI .u64 n (IntKind.wrap .i64 (8 * (i : Int)))) = n / 256 ^ i % 256 := by
  have e1 : IntKind.wrap .i64 (8 * (i : Int)) = ((8 * i : Nat) : Int) := by rw [IntWalk.i64_in _ (by omega)]; omega
  have e2 : shrI .u64 n ((8 * i : Nat) : Int) = n / 256 ^ i := by
    unfold shrI
    rw [Int.toNat_natCast, Nat.min_eq_left (by show 8 * i ≤ 64; omega), Int.fdiv_eq_ediv_of_nonneg _ (Int.le_of_lt (Int.pow_pos (by decide)))]
    congr 1
    rw [Int.pow_mul]
    rfl
  rw [e1, e2]
  rfl
theorem shr_zero {n : Int} {w : Nat} (hw : w ≤ 8) (h : 0 ≤ n ∧ n < 256 ^ w) : shrI .u64 n (IntKind.wrap .i64 (8 * (w : Int))) = 0 := by
  have e1 : IntKind.wrap .i64 (8 * (w : Int)) = ((8 * w : Nat) : Int) := by rw [IntWalk.i64_in _ (by omega)]; omega
  rw [e1]
  unfold shrI
  rw [Int.toNat_natCast, Nat.min_eq_left (by show 8 * w ≤ 64; omega), Int.fdiv_eq_ediv_of_nonneg _ (Int.le_of_lt (Int.pow_pos (by decide)))]
  have : (2 : Int) ^ (8 * w) = 256 ^ w := by rw [Int.pow_mul]; rfl
  rw [this]
  exact Int.ediv_eq_zero_of_lt h.1 h.2
theorem le_succ (n : Int) (w : Nat) : leI (w + 1) n = leI w n ++ [n / 256 ^ w % 256] := by
  simp [leI, List.range_succ]
theorem le_zero (n : Int) : leI 0 n = [] := rfl
theorem c_bput : Contract E 45 := by
  refine contract_boxT hE hgl (show E.P.funcs[45]? = some Tryd.f45 from Tryd.func45) rfl (p := sp_bput) (fun _ _ _ => rfl) ?_
  intro args ds tv hv hdl htl
  unfold sp_bput at hv ⊢
  split at hv
  case h_2 => exact hv.elim
  rename_i rs o b w n
  refine ⟨by simp, Nat.le_of_ble_eq_true rfl, ?_⟩
  obtain ⟨hr, hw, hn, hb⟩ := hv
  obtain ⟨w, rfl, hw8⟩ : ∃ k : Nat, w = (k : Int) ∧ (k = 4 ∨ k = 8) := ⟨w.toNat, by omega, by omega⟩
  simp only [Int.toNat_natCast] at hn ⊢
  have hu : u64ok n := ⟨hn.1, by rcases hw8 with rfl | rfl <;> omega⟩
  have hz := shr_zero (n := n) (w := w) (by omega) hn
  have d8 : (decide ((w : Int) = 4) || decide ((w : Int) = 8)) = true := by rcases hw8 with rfl | rfl <;> rfl
  have d1 : (decide ((w : Int) = 1) || (decide ((w : Int) = 2) || (decide ((w : Int) = 4) || decide ((w : Int) = 8)))) = true := by rw [d8]; simp
  have hsh : (0 ≤ IntKind.wrap .i64 (8 * (w : Int))) = True := by rw [IntWalk.i64_in _ (by omega)]; simp; omega
  rcases hr with ⟨rfl, rfl⟩ | ⟨rfl, rfl, hne⟩
  · have hf := fe_no b
    cases hc : decide ((w : Int) < 8)
    all_goals simp (config := {dsimp := false}) only [↓vp0, vz, vn, nq, tys, cellD, wideIR, if_true, if_false, implies_true, forall_const, ne_eq, reduceIte, reduceCtorEq, Nat.reduceEqDiff, Nat.reduceAdd, Nat.reduceMul, Nat.reduceLT, Nat.reduceSub, Nat.reduceLeDiff, Nat.reduceBNe, Nat.reduceBEq, Nat.reduceBeqDiff, List.range, List.range.loop, gl0, Tryd.ntmps45, Tryd.results45, retB, vb, PF.toR, gives, d1, hc, hz, hf, hsh, decide_true, spec_bwidth, sp_bwidth, c_bwidth, b_bwidth, spec_clone, sp_clone, c_clone, b_clone]
    all_goals refine ⟨.inl ⟨rfl, rfl⟩, by omega, ?_⟩
    all_goals refine loopI (Fin (w + 1)) (fun k => [(27, .int .i64 (k.1 : Nat)), (26, .int .i64 (w : Nat)), (8, .sli (.tok 76) .u8 (b ++ leI k.1 n)), (2, .int .u64 n)]) (fun k => ⟨[], [(76, (b.length + k.1, 1))], 92⟩) (fun k => w - k.1) 0 (fun _ => rfl) ?_ ?_
    any_goals (refine ⟨⟨wkD_eq rfl, rfl, wkD_eq rfl, rfl, wkD_eq ?_, rfl, wkD_eq rfl, rfl, trivial⟩, trivial, ⟨rfl, Nat.le_of_ble_eq_true rfl, trivial⟩⟩; exact some_sli (List.append_nil _).symm)
    all_goals rintro ⟨k, hk⟩
    all_goals simp (config := {dsimp := false}) only [↓vp0, vz, vn, nq, tys, cellD, wideIR, if_true, if_false, implies_true, forall_const, ne_eq, reduceIte, reduceCtorEq, Nat.reduceEqDiff, Nat.reduceAdd, Nat.reduceMul, Nat.reduceLT, Nat.reduceSub, Nat.reduceLeDiff, Nat.reduceBNe, Nat.reduceBEq, Nat.reduceBeqDiff, List.range, List.range.loop, gl0, Tryd.ntmps45, Tryd.results45]
    all_goals refine ⟨fun h => ?_, fun h => ?_⟩
    any_goals (
      have h := of_decide_eq_true h
      refine ⟨by rw [IntWalk.i64_in _ (by omega)]; omega, some_tok (by simp [leI_len]), by simp [leI_len]; omega, ⟨k + 1, by omega⟩, ⟨⟨wkD_eq ?_, rfl, wkD_eq rfl, rfl, wkD_eq ?_, rfl, wkD_eq rfl, rfl, trivial⟩, trivial, ⟨?_, Nat.le_of_ble_eq_true rfl, trivial⟩⟩, by (try simp only); omega⟩
      · exact some_i64 (by (try simp only); omega)
      · exact some_sli (by rw [byte_at hu (by omega), List.append_assoc, ← le_succ])
      · exact some_tok (by simp [leI_len]; omega))
    all_goals have h := of_decide_eq_false h
    all_goals obtain rfl : k = w := by omega
    all_goals simp (config := {dsimp := false}) only [↓vp0, vz, vn, nq, tys, cellD, wideIR, if_true, if_false, implies_true, forall_const, ne_eq, reduceIte, reduceCtorEq, Nat.reduceEqDiff, Nat.reduceAdd, Nat.reduceMul, Nat.reduceLT, Nat.reduceSub, Nat.reduceLeDiff, Nat.reduceBNe, Nat.reduceBEq, Nat.reduceBeqDiff, List.range, List.range.loop, gl0, Tryd.ntmps45, Tryd.results45, retB, vb]
    all_goals exact ⟨[], [76], [], ⟨rfl, rfl⟩, ⟨rfl, rfl⟩, ⟨by simp, by simp⟩, by simp, by simp [getAll, S.tok, look], by simp [getAll, S.tok, look], ⟨_, rfl, rfl⟩, ⟨_, rfl, rfl⟩, id rfl⟩
  · have hf := fe_ne (.tok 0) hne
    cases hc : decide ((w : Int) < 8)
    all_goals simp (config := {dsimp := false}) only [↓vp0, vz, vn, nq, tys, cellD, wideIR, if_true, if_false, implies_true, forall_const, ne_eq, reduceIte, reduceCtorEq, Nat.reduceEqDiff, Nat.reduceAdd, Nat.reduceMul, Nat.reduceLT, Nat.reduceSub, Nat.reduceLeDiff, Nat.reduceBNe, Nat.reduceBEq, Nat.reduceBeqDiff, List.range, List.range.loop, gl0, Tryd.ntmps45, Tryd.results45, retB, vb, PF.toR, gives, d1, hc, hz, hf, hsh, decide_true, spec_bwidth, sp_bwidth, c_bwidth, b_bwidth, spec_clone, sp_clone, c_clone, b_clone]
    all_goals refine ⟨.inr ⟨rfl, rfl, hne⟩, by omega, ?_⟩
    all_goals refine loopI (Fin (w + 1)) (fun k => [(27, .int .i64 (k.1 : Nat)), (26, .int .i64 (w : Nat)), (8, .sli (.tok 76) .u8 (b ++ leI k.1 n)), (2, .int .u64 n)]) (fun k => ⟨[], [(0, (b.length, 1)), (76, (b.length + k.1, 1))], 92⟩) (fun k => w - k.1) 0 (fun _ => rfl) ?_ ?_
    any_goals (refine ⟨⟨wkD_eq rfl, rfl, wkD_eq rfl, rfl, wkD_eq ?_, rfl, wkD_eq rfl, rfl, trivial⟩, trivial, ⟨rfl, Nat.le_of_ble_eq_true rfl, rfl, Nat.le_of_ble_eq_true rfl, trivial⟩⟩; exact some_sli (List.append_nil _).symm)
    all_goals rintro ⟨k, hk⟩
    all_goals simp (config := {dsimp := false}) only [↓vp0, vz, vn, nq, tys, cellD, wideIR, if_true, if_false, implies_true, forall_const, ne_eq, reduceIte, reduceCtorEq, Nat.reduceEqDiff, Nat.reduceAdd, Nat.reduceMul, Nat.reduceLT, Nat.reduceSub, Nat.reduceLeDiff, Nat.reduceBNe, Nat.reduceBEq, Nat.reduceBeqDiff, List.range, List.range.loop, gl0, Tryd.ntmps45, Tryd.results45]
    all_goals refine ⟨fun h => ?_, fun h => ?_⟩
    any_goals (
      have h := of_decide_eq_true h
      refine ⟨by rw [IntWalk.i64_in _ (by omega)]; omega, some_tok (by simp [leI_len]), by simp [leI_len]; omega, ⟨k + 1, by omega⟩, ⟨⟨wkD_eq ?_, rfl, wkD_eq rfl, rfl, wkD_eq ?_, rfl, wkD_eq rfl, rfl, trivial⟩, trivial, ⟨rfl, Nat.le_of_ble_eq_true rfl, ?_, Nat.le_of_ble_eq_true rfl, trivial⟩⟩, by (try simp only); omega⟩
      · exact some_i64 (by (try simp only); omega)
      · exact some_sli (by rw [byte_at hu (by omega), List.append_assoc, ← le_succ])
      · exact some_tok (by simp [leI_len]; omega))
    all_goals have h := of_decide_eq_false h
    all_goals obtain rfl : k = w := by omega
    all_goals simp (config := {dsimp := false}) only [↓vp0, vz, vn, nq, tys, cellD, wideIR, if_true, if_false, implies_true, forall_const, ne_eq, reduceIte, reduceCtorEq, Nat.reduceEqDiff, Nat.reduceAdd, Nat.reduceMul, Nat.reduceLT, Nat.reduceSub, Nat.reduceLeDiff, Nat.reduceBNe, Nat.reduceBEq, Nat.reduceBeqDiff, List.range, List.range.loop, gl0, Tryd.ntmps45, Tryd.results45, retB, vb]
    all_goals exact ⟨[], [76], [], ⟨rfl, rfl⟩, ⟨rfl, rfl⟩, ⟨by simp, by simp⟩, by simp, by simp [getAll, S.tok, look], by simp [getAll, S.tok, look], ⟨_, rfl, rfl⟩, ⟨_, rfl, rfl⟩, id rfl⟩
theorem c_num : Contract E 30 := by
  refine contract_boxT hE hgl (show E.P.funcs[30]? = some Tryd.f30 from Tryd.func30) rfl (p := sp_num) (fun _ _ _ => rfl) ?_
  intro args ds tv hv hdl htl
  unfold sp_num at hv ⊢
  split at hv
  case h_2 => exact hv.elim
  rename_i rs o b w n
  refine ⟨by simp, Nat.le_of_ble_eq_true rfl, ?_⟩
  obtain ⟨hr, hw, hn, hb⟩ := hv
  rcases hr with ⟨rfl, rfl⟩ | ⟨rfl, rfl, hne⟩
  · simp (config := {dsimp := false}) only [↓vp0, vz, vn, nq, tys, cellD, wideIR, if_true, if_false, implies_true, forall_const, ne_eq, reduceIte, reduceCtorEq, Nat.reduceEqDiff, Nat.reduceAdd, Nat.reduceMul, Nat.reduceLT, Nat.reduceSub, Nat.reduceLeDiff, Nat.reduceBNe, Nat.reduceBEq, Nat.reduceBeqDiff, List.range, List.range.loop, gl0, Tryd.ntmps30, Tryd.results30, retB, vb, spec_bput, sp_bput, c_bput, b_bput]
    exact ⟨.inl ⟨rfl, rfl⟩, hw, hn.1, hn.2, hb, [], [24], [], ⟨rfl, rfl⟩, ⟨rfl, rfl⟩, ⟨by simp, by simp⟩, by simp, by simp [getAll, S.tok, look], by simp [getAll, S.tok, look], ⟨_, rfl, rfl⟩, ⟨_, rfl, rfl⟩, id rfl⟩
  · simp (config := {dsimp := false}) only [↓vp0, vz, vn, nq, tys, cellD, wideIR, if_true, if_false, implies_true, forall_const, ne_eq, reduceIte, reduceCtorEq, Nat.reduceEqDiff, Nat.reduceAdd, Nat.reduceMul, Nat.reduceLT, Nat.reduceSub, Nat.reduceLeDiff, Nat.reduceBNe, Nat.reduceBEq, Nat.reduceBeqDiff, List.range, List.range.loop, gl0, Tryd.ntmps30, Tryd.results30, retB, vb, spec_bput, sp_bput, c_bput, b_bput]
    exact ⟨.inr ⟨rfl, rfl, hne⟩, hw, hn.1, hn.2, hb, [], [24], [], ⟨rfl, rfl⟩, ⟨rfl, rfl⟩, ⟨by simp, by simp⟩, by simp, by simp [getAll, S.tok, look], by simp [getAll, S.tok, look], ⟨_, rfl, rfl⟩, ⟨_, rfl, rfl⟩, id rfl⟩
theorem count_of {n : Int} (h : 0 ≤ n) : (countI n = [n] ∧ n < 253) ∨ (253 ≤ n ∧ ∃ m w, countI n = m :: leI w n ∧ ((m = 253 ∧ w = 2) ∨ (m = 254 ∧ w = 4) ∨ (m = 255 ∧ w = 8))) := by
  unfold countI
  by_cases h1 : n < 253
  · rw [if_pos h1]; exact .inl ⟨rfl, h1⟩
  · right
    refine ⟨by omega, ?_⟩
    rw [if_neg h1]
    by_cases h2 : n < 65536
    · rw [if_pos h2]; exact ⟨_, _, rfl, .inl ⟨rfl, rfl⟩⟩
    · rw [if_neg h2]
      by_cases h3 : n < 4294967296
      · rw [if_pos h3]; exact ⟨_, _, rfl, .inr (.inl ⟨rfl, rfl⟩)⟩
      · rw [if_neg h3]; exact ⟨_, _, rfl, .inr (.inr ⟨rfl, rfl⟩)⟩
theorem c_cput : Contract E 46 := by
  refine contract_boxT hE hgl (show E.P.funcs[46]? = some Tryd.f46 from Tryd.func46) rfl (p := sp_cput) (fun _ _ _ => rfl) ?_
  intro args ds tv hv hdl htl
  unfold sp_cput at hv ⊢
  split at hv
  case h_2 => exact hv.elim
  rename_i rs o b n
  refine ⟨by simp, Nat.le_of_ble_eq_true rfl, ?_⟩
  obtain ⟨hr, hn, hb⟩ := hv
  rcases hr with ⟨rfl, rfl⟩ | ⟨rfl, rfl, hne⟩
  · have hf := fe_no b
    rcases count_of hn.1 with ⟨hc, h253⟩ | ⟨h253, m, w, hc, hm⟩
    · have e1 : decide (IntKind.wrap .i64 (((1 : Nat) : Int) - 1) = 0) = true := rfl
      have e2 : IntKind.wrap .u8 n = n := IntWalk.u8_in n ⟨hn.1, by omega⟩
      simp (config := {dsimp := false}) only [↓vp0, vz, vn, nq, tys, cellD, wideIR, if_true, if_false, implies_true, forall_const, ne_eq, reduceIte, reduceCtorEq, Nat.reduceEqDiff, Nat.reduceAdd, Nat.reduceMul, Nat.reduceLT, Nat.reduceSub, Nat.reduceLeDiff, Nat.reduceBNe, Nat.reduceBEq, Nat.reduceBeqDiff, List.range, List.range.loop, gl0, Tryd.ntmps46, Tryd.results46, retB, vb, PF.toR, givesIf, hf, hc, e1, e2, eq_self, decide_true, spec_clone, sp_clone, c_clone, b_clone, spec_csize, sp_csize, c_csize, b_csize]
      exact ⟨.inl ⟨rfl, rfl⟩, by omega, hn, by omega, [], [16], [], ⟨rfl, rfl⟩, ⟨rfl, rfl⟩, ⟨by simp, by simp⟩, by simp, by simp [getAll, S.tok, look], by simp [getAll, S.tok, look], ⟨_, rfl, rfl⟩, ⟨_, rfl, rfl⟩, id rfl⟩
    · have e1 : IntKind.wrap .i64 ((((leI w n).length + 1 : Nat) : Int) - 1) = (w : Int) := by rw [leI_len, IntWalk.i64_in _ (by omega)]; omega
      rcases hm with ⟨rfl, rfl⟩ | ⟨rfl, rfl⟩ | ⟨rfl, rfl⟩
      all_goals simp (config := {dsimp := false}) only [↓vp0, vz, vn, nq, tys, cellD, wideIR, if_true, if_false, implies_true, forall_const, ne_eq, reduceIte, reduceCtorEq, Nat.reduceEqDiff, Nat.reduceAdd, Nat.reduceMul, Nat.reduceLT, Nat.reduceSub, Nat.reduceLeDiff, Nat.reduceBNe, Nat.reduceBEq, Nat.reduceBeqDiff, List.range, List.range.loop, gl0, Tryd.ntmps46, Tryd.results46, retB, vb, PF.toR, givesIf, hf, hc, e1, eq_self, decide_true, show decide (((2 : Nat) : Int) = 0) = false from rfl, show decide (((4 : Nat) : Int) = 0) = false from rfl, show decide (((8 : Nat) : Int) = 0) = false from rfl, show decide (((2 : Nat) : Int) = 2) = true from rfl, show decide (((4 : Nat) : Int) = 2) = false from rfl, show decide (((8 : Nat) : Int) = 2) = false from rfl, show decide (((4 : Nat) : Int) = 4) = true from rfl, show decide (((8 : Nat) : Int) = 4) = false from rfl, spec_clone, sp_clone, c_clone, b_clone, spec_csize, sp_csize, c_csize, b_csize]
      all_goals refine ⟨.inl ⟨rfl, rfl⟩, by omega, hn, by omega, ?_⟩
      · refine loopI (Fin (2 + 1)) (fun k => [(35, .int .i64 (k.1 : Nat)), (34, .int .i64 ((2 : Nat) : Int)), (5, .sli (.tok 16) .u8 (b ++ 253 :: leI k.1 n)), (1, .int .u64 n)]) (fun k => ⟨[], [(16, (b.length + 1 + k.1, 1))], 84⟩) (fun k => 2 - k.1) 0 (fun _ => rfl) ?_ ?_
        · exact ⟨⟨wkD_eq rfl, rfl, wkD_eq rfl, rfl, wkD_eq rfl, rfl, wkD_eq rfl, rfl, trivial⟩, trivial, ⟨rfl, Nat.le_of_ble_eq_true rfl, trivial⟩⟩
        rintro ⟨k, hk⟩
        simp (config := {dsimp := false}) only [↓vp0, vz, vn, nq, tys, cellD, wideIR, if_true, if_false, implies_true, forall_const, ne_eq, reduceIte, reduceCtorEq, Nat.reduceEqDiff, Nat.reduceAdd, Nat.reduceMul, Nat.reduceLT, Nat.reduceSub, Nat.reduceLeDiff, Nat.reduceBNe, Nat.reduceBEq, Nat.reduceBeqDiff, List.range, List.range.loop, gl0, Tryd.ntmps46, Tryd.results46]
        refine ⟨fun h => ?_, fun h => ?_⟩
        · have h := of_decide_eq_true h
          refine ⟨by rw [IntWalk.i64_in _ (by omega)]; omega, some_tok (by simp [leI_len]; omega), by simp [leI_len]; omega, ⟨k + 1, by omega⟩, ⟨⟨wkD_eq ?_, rfl, wkD_eq rfl, rfl, wkD_eq ?_, rfl, wkD_eq rfl, rfl, trivial⟩, trivial, ⟨?_, Nat.le_of_ble_eq_true rfl, trivial⟩⟩, by (try simp only); omega⟩
          · exact some_i64 (by (try simp only); omega)
          · exact some_sli (by rw [byte_at hn (by omega), List.append_assoc, List.cons_append, ← le_succ])
          · exact some_tok (by simp [leI_len]; omega)
        · have h := of_decide_eq_false h
          obtain rfl : k = 2 := by omega
          simp (config := {dsimp := false}) only [↓vp0, vz, vn, nq, tys, cellD, wideIR, if_true, if_false, implies_true, forall_const, ne_eq, reduceIte, reduceCtorEq, Nat.reduceEqDiff, Nat.reduceAdd, Nat.reduceMul, Nat.reduceLT, Nat.reduceSub, Nat.reduceLeDiff, Nat.reduceBNe, Nat.reduceBEq, Nat.reduceBeqDiff, List.range, List.range.loop, gl0, Tryd.ntmps46, Tryd.results46, retB, vb, hc]
          exact ⟨[], [16], [], ⟨rfl, rfl⟩, ⟨rfl, rfl⟩, ⟨by simp, by simp⟩, by simp, by simp [getAll, S.tok, look], by simp [getAll, S.tok, look, leI_len]; try omega, ⟨_, rfl, rfl⟩, ⟨_, rfl, rfl⟩, id rfl⟩
      · refine loopI (Fin (4 + 1)) (fun k => [(35, .int .i64 (k.1 : Nat)), (34, .int .i64 ((4 : Nat) : Int)), (5, .sli (.tok 16) .u8 (b ++ 254 :: leI k.1 n)), (1, .int .u64 n)]) (fun k => ⟨[], [(16, (b.length + 1 + k.1, 1))], 92⟩) (fun k => 4 - k.1) 0 (fun _ => rfl) ?_ ?_
        · exact ⟨⟨wkD_eq rfl, rfl, wkD_eq rfl, rfl, wkD_eq rfl, rfl, wkD_eq rfl, rfl, trivial⟩, trivial, ⟨rfl, Nat.le_of_ble_eq_true rfl, trivial⟩⟩
        rintro ⟨k, hk⟩
        simp (config := {dsimp := false}) only [↓vp0, vz, vn, nq, tys, cellD, wideIR, if_true, if_false, implies_true, forall_const, ne_eq, reduceIte, reduceCtorEq, Nat.reduceEqDiff, Nat.reduceAdd, Nat.reduceMul, Nat.reduceLT, Nat.reduceSub, Nat.reduceLeDiff, Nat.reduceBNe, Nat.reduceBEq, Nat.reduceBeqDiff, List.range, List.range.loop, gl0, Tryd.ntmps46, Tryd.results46]
        refine ⟨fun h => ?_, fun h => ?_⟩
        · have h := of_decide_eq_true h
          refine ⟨by rw [IntWalk.i64_in _ (by omega)]; omega, some_tok (by simp [leI_len]; omega), by simp [leI_len]; omega, ⟨k + 1, by omega⟩, ⟨⟨wkD_eq ?_, rfl, wkD_eq rfl, rfl, wkD_eq ?_, rfl, wkD_eq rfl, rfl, trivial⟩, trivial, ⟨?_, Nat.le_of_ble_eq_true rfl, trivial⟩⟩, by (try simp only); omega⟩
          · exact some_i64 (by (try simp only); omega)
          · exact some_sli (by rw [byte_at hn (by omega), List.append_assoc, List.cons_append, ← le_succ])
          · exact some_tok (by simp [leI_len]; omega)
        · have h := of_decide_eq_false h
          obtain rfl : k = 4 := by omega
          simp (config := {dsimp := false}) only [↓vp0, vz, vn, nq, tys, cellD, wideIR, if_true, if_false, implies_true, forall_const, ne_eq, reduceIte, reduceCtorEq, Nat.reduceEqDiff, Nat.reduceAdd, Nat.reduceMul, Nat.reduceLT, Nat.reduceSub, Nat.reduceLeDiff, Nat.reduceBNe, Nat.reduceBEq, Nat.reduceBeqDiff, List.range, List.range.loop, gl0, Tryd.ntmps46, Tryd.results46, retB, vb, hc]
          exact ⟨[], [16], [], ⟨rfl, rfl⟩, ⟨rfl, rfl⟩, ⟨by simp, by simp⟩, by simp, by simp [getAll, S.tok, look], by simp [getAll, S.tok, look, leI_len]; try omega, ⟨_, rfl, rfl⟩, ⟨_, rfl, rfl⟩, id rfl⟩
      · refine loopI (Fin (8 + 1)) (fun k => [(35, .int .i64 (k.1 : Nat)), (34, .int .i64 ((8 : Nat) : Int)), (5, .sli (.tok 16) .u8 (b ++ 255 :: leI k.1 n)), (1, .int .u64 n)]) (fun k => ⟨[], [(16, (b.length + 1 + k.1, 1))], 92⟩) (fun k => 8 - k.1) 0 (fun _ => rfl) ?_ ?_
        · exact ⟨⟨wkD_eq rfl, rfl, wkD_eq rfl, rfl, wkD_eq rfl, rfl, wkD_eq rfl, rfl, trivial⟩, trivial, ⟨rfl, Nat.le_of_ble_eq_true rfl, trivial⟩⟩
        rintro ⟨k, hk⟩
        simp (config := {dsimp := false}) only [↓vp0, vz, vn, nq, tys, cellD, wideIR, if_true, if_false, implies_true, forall_const, ne_eq, reduceIte, reduceCtorEq, Nat.reduceEqDiff, Nat.reduceAdd, Nat.reduceMul, Nat.reduceLT, Nat.reduceSub, Nat.reduceLeDiff, Nat.reduceBNe, Nat.reduceBEq, Nat.reduceBeqDiff, List.range, List.range.loop, gl0, Tryd.ntmps46, Tryd.results46]
        refine ⟨fun h => ?_, fun h => ?_⟩
        · have h := of_decide_eq_true h
          refine ⟨by rw [IntWalk.i64_in _ (by omega)]; omega, some_tok (by simp [leI_len]; omega), by simp [leI_len]; omega, ⟨k + 1, by omega⟩, ⟨⟨wkD_eq ?_, rfl, wkD_eq rfl, rfl, wkD_eq ?_, rfl, wkD_eq rfl, rfl, trivial⟩, trivial, ⟨?_, Nat.le_of_ble_eq_true rfl, trivial⟩⟩, by (try simp only); omega⟩
          · exact some_i64 (by (try simp only); omega)
          · exact some_sli (by rw [byte_at hn (by omega), List.append_assoc, List.cons_append, ← le_succ])
          · exact some_tok (by simp [leI_len]; omega)
        · have h := of_decide_eq_false h
          obtain rfl : k = 8 := by omega
          simp (config := {dsimp := false}) only [↓vp0, vz, vn, nq, tys, cellD, wideIR, if_true, if_false, implies_true, forall_const, ne_eq, reduceIte, reduceCtorEq, Nat.reduceEqDiff, Nat.reduceAdd, Nat.reduceMul, Nat.reduceLT, Nat.reduceSub, Nat.reduceLeDiff, Nat.reduceBNe, Nat.reduceBEq, Nat.reduceBeqDiff, List.range, List.range.loop, gl0, Tryd.ntmps46, Tryd.results46, retB, vb, hc]
          exact ⟨[], [16], [], ⟨rfl, rfl⟩, ⟨rfl, rfl⟩, ⟨by simp, by simp⟩, by simp, by simp [getAll, S.tok, look], by simp [getAll, S.tok, look, leI_len]; try omega, ⟨_, rfl, rfl⟩, ⟨_, rfl, rfl⟩, id rfl⟩
  · have hf := fe_ne (.tok 0) hne
    rcases count_of hn.1 with ⟨hc, h253⟩ | ⟨h253, m, w, hc, hm⟩
    · have e1 : decide (IntKind.wrap .i64 (((1 : Nat) : Int) - 1) = 0) = true := rfl
      have e2 : IntKind.wrap .u8 n = n := IntWalk.u8_in n ⟨hn.1, by omega⟩
      simp (config := {dsimp := false}) only [↓vp0, vz, vn, nq, tys, cellD, wideIR, if_true, if_false, implies_true, forall_const, ne_eq, reduceIte, reduceCtorEq, Nat.reduceEqDiff, Nat.reduceAdd, Nat.reduceMul, Nat.reduceLT, Nat.reduceSub, Nat.reduceLeDiff, Nat.reduceBNe, Nat.reduceBEq, Nat.reduceBeqDiff, List.range, List.range.loop, gl0, Tryd.ntmps46, Tryd.results46, retB, vb, PF.toR, givesIf, hf, hc, e1, e2, eq_self, decide_true, spec_clone, sp_clone, c_clone, b_clone, spec_csize, sp_csize, c_csize, b_csize]
      exact ⟨.inr ⟨rfl, rfl, hne⟩, by omega, hn, by omega, [], [16], [], ⟨rfl, rfl⟩, ⟨rfl, rfl⟩, ⟨by simp, by simp⟩, by simp, by simp [getAll, S.tok, look], by simp [getAll, S.tok, look], ⟨_, rfl, rfl⟩, ⟨_, rfl, rfl⟩, id rfl⟩
    · have e1 : IntKind.wrap .i64 ((((leI w n).length + 1 : Nat) : Int) - 1) = (w : Int) := by rw [leI_len, IntWalk.i64_in _ (by omega)]; omega
      rcases hm with ⟨rfl, rfl⟩ | ⟨rfl, rfl⟩ | ⟨rfl, rfl⟩
      all_goals simp (config := {dsimp := false}) only [↓vp0, vz, vn, nq, tys, cellD, wideIR, if_true, if_false, implies_true, forall_const, ne_eq, reduceIte, reduceCtorEq, Nat.reduceEqDiff, Nat.reduceAdd, Nat.reduceMul, Nat.reduceLT, Nat.reduceSub, Nat.reduceLeDiff, Nat.reduceBNe, Nat.reduceBEq, Nat.reduceBeqDiff, List.range, List.range.loop, gl0, Tryd.ntmps46, Tryd.results46, retB, vb, PF.toR, givesIf, hf, hc, e1, eq_self, decide_true, show decide (((2 : Nat) : Int) = 0) = false from rfl, show decide (((4 : Nat) : Int) = 0) = false from rfl, show decide (((8 : Nat) : Int) = 0) = false from rfl, show decide (((2 : Nat) : Int) = 2) = true from rfl, show decide (((4 : Nat) : Int) = 2) = false from rfl, show decide (((8 : Nat) : Int) = 2) = false from rfl, show decide (((4 : Nat) : Int) = 4) = true from rfl, show decide (((8 : Nat) : Int) = 4) = false from rfl, spec_clone, sp_clone, c_clone, b_clone, spec_csize, sp_csize, c_csize, b_csize]
      all_goals refine ⟨.inr ⟨rfl, rfl, hne⟩, by omega, hn, by omega, ?_⟩
      · refine loopI (Fin (2 + 1)) (fun k => [(35, .int .i64 (k.1 : Nat)), (34, .int .i64 ((2 : Nat) : Int)), (5, .sli (.tok 16) .u8 (b ++ 253 :: leI k.1 n)), (1, .int .u64 n)]) (fun k => ⟨[], [(0, (b.length, 1)), (16, (b.length + 1 + k.1, 1))], 84⟩) (fun k => 2 - k.1) 0 (fun _ => rfl) ?_ ?_
        · exact ⟨⟨wkD_eq rfl, rfl, wkD_eq rfl, rfl, wkD_eq rfl, rfl, wkD_eq rfl, rfl, trivial⟩, trivial, ⟨rfl, Nat.le_of_ble_eq_true rfl, rfl, Nat.le_of_ble_eq_true rfl, trivial⟩⟩
        rintro ⟨k, hk⟩
        simp (config := {dsimp := false}) only [↓vp0, vz, vn, nq, tys, cellD, wideIR, if_true, if_false, implies_true, forall_const, ne_eq, reduceIte, reduceCtorEq, Nat.reduceEqDiff, Nat.reduceAdd, Nat.reduceMul, Nat.reduceLT, Nat.reduceSub, Nat.reduceLeDiff, Nat.reduceBNe, Nat.reduceBEq, Nat.reduceBeqDiff, List.range, List.range.loop, gl0, Tryd.ntmps46, Tryd.results46]
        refine ⟨fun h => ?_, fun h => ?_⟩
        · have h := of_decide_eq_true h
          refine ⟨by rw [IntWalk.i64_in _ (by omega)]; omega, some_tok (by simp [leI_len]; omega), by simp [leI_len]; omega, ⟨k + 1, by omega⟩, ⟨⟨wkD_eq ?_, rfl, wkD_eq rfl, rfl, wkD_eq ?_, rfl, wkD_eq rfl, rfl, trivial⟩, trivial, ⟨rfl, Nat.le_of_ble_eq_true rfl, ?_, Nat.le_of_ble_eq_true rfl, trivial⟩⟩, by (try simp only); omega⟩
          · exact some_i64 (by (try simp only); omega)
          · exact some_sli (by rw [byte_at hn (by omega), List.append_assoc, List.cons_append, ← le_succ])
          · exact some_tok (by simp [leI_len]; omega)
        · have h := of_decide_eq_false h
          obtain rfl : k = 2 := by omega
          simp (config := {dsimp := false}) only [↓vp0, vz, vn, nq, tys, cellD, wideIR, if_true, if_false, implies_true, forall_const, ne_eq, reduceIte, reduceCtorEq, Nat.reduceEqDiff, Nat.reduceAdd, Nat.reduceMul, Nat.reduceLT, Nat.reduceSub, Nat.reduceLeDiff, Nat.reduceBNe, Nat.reduceBEq, Nat.reduceBeqDiff, List.range, List.range.loop, gl0, Tryd.ntmps46, Tryd.results46, retB, vb, hc]
          exact ⟨[], [16], [], ⟨rfl, rfl⟩, ⟨rfl, rfl⟩, ⟨by simp, by simp⟩, by simp, by simp [getAll, S.tok, look], by simp [getAll, S.tok, look, leI_len]; try omega, ⟨_, rfl, rfl⟩, ⟨_, rfl, rfl⟩, id rfl⟩
      · refine loopI (Fin (4 + 1)) (fun k => [(35, .int .i64 (k.1 : Nat)), (34, .int .i64 ((4 : Nat) : Int)), (5, .sli (.tok 16) .u8 (b ++ 254 :: leI k.1 n)), (1, .int .u64 n)]) (fun k => ⟨[], [(0, (b.length, 1)), (16, (b.length + 1 + k.1, 1))], 92⟩) (fun k => 4 - k.1) 0 (fun _ => rfl) ?_ ?_
        · exact ⟨⟨wkD_eq rfl, rfl, wkD_eq rfl, rfl, wkD_eq rfl, rfl, wkD_eq rfl, rfl, trivial⟩, trivial, ⟨rfl, Nat.le_of_ble_eq_true rfl, rfl, Nat.le_of_ble_eq_true rfl, trivial⟩⟩
        rintro ⟨k, hk⟩
        simp (config := {dsimp := false}) only [↓vp0, vz, vn, nq, tys, cellD, wideIR, if_true, if_false, implies_true, forall_const, ne_eq, reduceIte, reduceCtorEq, Nat.reduceEqDiff, Nat.reduceAdd, Nat.reduceMul, Nat.reduceLT, Nat.reduceSub, Nat.reduceLeDiff, Nat.reduceBNe, Nat.reduceBEq, Nat.reduceBeqDiff, List.range, List.range.loop, gl0, Tryd.ntmps46, Tryd.results46]
        refine ⟨fun h => ?_, fun h => ?_⟩
        · have h := of_decide_eq_true h
          refine ⟨by rw [IntWalk.i64_in _ (by omega)]; omega, some_tok (by simp [leI_len]; omega), by simp [leI_len]; omega, ⟨k + 1, by omega⟩, ⟨⟨wkD_eq ?_, rfl, wkD_eq rfl, rfl, wkD_eq ?_, rfl, wkD_eq rfl, rfl, trivial⟩, trivial, ⟨rfl, Nat.le_of_ble_eq_true rfl, ?_, Nat.le_of_ble_eq_true rfl, trivial⟩⟩, by (try simp only); omega⟩
          · exact some_i64 (by (try simp only); omega)
          · exact some_sli (by rw [byte_at hn (by omega), List.append_assoc, List.cons_append, ← le_succ])
          · exact some_tok (by simp [leI_len]; omega)
        · have h := of_decide_eq_false h
          obtain rfl : k = 4 := by omega
          simp (config := {dsimp := false}) only [↓vp0, vz, vn, nq, tys, cellD, wideIR, if_true, if_false, implies_true, forall_const, ne_eq, reduceIte, reduceCtorEq, Nat.reduceEqDiff, Nat.reduceAdd, Nat.reduceMul, Nat.reduceLT, Nat.reduceSub, Nat.reduceLeDiff, Nat.reduceBNe, Nat.reduceBEq, Nat.reduceBeqDiff, List.range, List.range.loop, gl0, Tryd.ntmps46, Tryd.results46, retB, vb, hc]
          exact ⟨[], [16], [], ⟨rfl, rfl⟩, ⟨rfl, rfl⟩, ⟨by simp, by simp⟩, by simp, by simp [getAll, S.tok, look], by simp [getAll, S.tok, look, leI_len]; try omega, ⟨_, rfl, rfl⟩, ⟨_, rfl, rfl⟩, id rfl⟩
      · refine loopI (Fin (8 + 1)) (fun k => [(35, .int .i64 (k.1 : Nat)), (34, .int .i64 ((8 : Nat) : Int)), (5, .sli (.tok 16) .u8 (b ++ 255 :: leI k.1 n)), (1, .int .u64 n)]) (fun k => ⟨[], [(0, (b.length, 1)), (16, (b.length + 1 + k.1, 1))], 92⟩) (fun k => 8 - k.1) 0 (fun _ => rfl) ?_ ?_
        · exact ⟨⟨wkD_eq rfl, rfl, wkD_eq rfl, rfl, wkD_eq rfl, rfl, wkD_eq rfl, rfl, trivial⟩, trivial, ⟨rfl, Nat.le_of_ble_eq_true rfl, rfl, Nat.le_of_ble_eq_true rfl, trivial⟩⟩
        rintro ⟨k, hk⟩
        simp (config := {dsimp := false}) only [↓vp0, vz, vn, nq, tys, cellD, wideIR, if_true, if_false, implies_true, forall_const, ne_eq, reduceIte, reduceCtorEq, Nat.reduceEqDiff, Nat.reduceAdd, Nat.reduceMul, Nat.reduceLT, Nat.reduceSub, Nat.reduceLeDiff, Nat.reduceBNe, Nat.reduceBEq, Nat.reduceBeqDiff, List.range, List.range.loop, gl0, Tryd.ntmps46, Tryd.results46]
        refine ⟨fun h => ?_, fun h => ?_⟩
        · have h := of_decide_eq_true h
          refine ⟨by rw [IntWalk.i64_in _ (by omega)]; omega, some_tok (by simp [leI_len]; omega), by simp [leI_len]; omega, ⟨k + 1, by omega⟩, ⟨⟨wkD_eq ?_, rfl, wkD_eq rfl, rfl, wkD_eq ?_, rfl, wkD_eq rfl, rfl, trivial⟩, trivial, ⟨rfl, Nat.le_of_ble_eq_true rfl, ?_, Nat.le_of_ble_eq_true rfl, trivial⟩⟩, by (try simp only); omega⟩
          · exact some_i64 (by (try simp only); omega)
          · exact some_sli (by rw [byte_at hn (by omega), List.append_assoc, List.cons_append, ← le_succ])
          · exact some_tok (by simp [leI_len]; omega)
        · have h := of_decide_eq_false h
          obtain rfl : k = 8 := by omega
          simp (config := {dsimp := false}) only [↓vp0, vz, vn, nq, tys, cellD, wideIR, if_true, if_false, implies_true, forall_const, ne_eq, reduceIte, reduceCtorEq, Nat.reduceEqDiff, Nat.reduceAdd, Nat.reduceMul, Nat.reduceLT, Nat.reduceSub, Nat.reduceLeDiff, Nat.reduceBNe, Nat.reduceBEq, Nat.reduceBeqDiff, List.range, List.range.loop, gl0, Tryd.ntmps46, Tryd.results46, retB, vb, hc]
          exact ⟨[], [16], [], ⟨rfl, rfl⟩, ⟨rfl, rfl⟩, ⟨by simp, by simp⟩, by simp, by simp [getAll, S.tok, look], by simp [getAll, S.tok, look, leI_len]; try omega, ⟨_, rfl, rfl⟩, ⟨_, rfl, rfl⟩, id rfl⟩
end Go.Vi.TP
end

section
set_option linter.unusedVariables false
set_option linter.unusedSimpArgs false
set_option maxHeartbeats 0
set_option maxRecDepth 20000
namespace Go.Vi.TP
open Go.Proofs

theorem take32 {p : List Int} (h : p.length = 32) : List.take (((32 : Nat) : Int) - 0).toNat (List.drop (Int.toNat 0) p) = p := by
  rw [show Int.toNat 0 = 0 from rfl, List.drop_zero]
  exact List.take_of_length_le (by rw [h]; decide)
theorem c_putText : Contract E 36 := by
  refine contract_boxR hE hgl (show E.P.funcs[36]? = some Tryd.f36 from Tryd.func36) rfl (p := sp_putText) (fun _ _ _ => rfl) ?_
  intro args ds tv hv hdl htl
  unfold sp_putText at hv ⊢
  split at hv
  case h_2 => exact hv.elim
  rename_i b s n
  refine ⟨by simp, Nat.le_of_ble_eq_true rfl, ?_⟩
  obtain ⟨rfl, hne, hb, hs⟩ := hv
  have e1 : IntKind.wrap .u64 (s.length : Int) = (s.length : Int) := IntWalk.u64_in _ (by omega)
  have hc := count_len (s.length : Int)
  simp (config := {dsimp := false}) only [↓vp0, vz, vn, nq, tys, cellD, wideIR, if_true, if_false, implies_true, forall_const, ne_eq, reduceIte, reduceCtorEq, Nat.reduceEqDiff, Nat.reduceAdd, Nat.reduceMul, Nat.reduceLT, Nat.reduceSub, Nat.reduceLeDiff, Nat.reduceBNe, Nat.reduceBEq, Nat.reduceBeqDiff, List.range, List.range.loop, gl0, Tryd.ntmps36, Tryd.results36, retR, vb, e1, spec_cput, sp_cput, c_cput, b_cput]
  refine ⟨.inr ⟨rfl, rfl, hne⟩, ⟨by omega, by omega⟩, by omega, some_tok (by simp), by simp; omega, ?_⟩
  refine ⟨0, 28, 4, _, _, ⟨rfl, ⟨by decide, by decide⟩, rfl, ⟨_, _, rfl, ?_⟩, rfl, [], [], [], ⟨rfl, rfl⟩, ⟨rfl, rfl⟩, ⟨by simp, by simp⟩, by simp, ?_, rfl, ⟨_, rfl, rfl⟩, ⟨_, rfl, rfl⟩, ?_⟩⟩
  · simp only [List.length_append]; omega
  · simp [getAll, S.tok, look, reT, textI]; omega
  · rfl
theorem c_putIn : Contract E 32 := by
  refine contract_boxR hE hgl (show E.P.funcs[32]? = some Tryd.f32 from Tryd.func32) rfl (p := sp_putIn) (fun _ _ _ => rfl) ?_
  intro args ds tv hv hdl htl
  unfold sp_putIn at hv ⊢
  split at hv
  case h_2 => exact hv.elim
  rename_i b p i s q w n
  refine ⟨by simp, Nat.le_of_ble_eq_true rfl, ?_⟩
  obtain ⟨rfl, hne, ⟨hp, hi, hq⟩, hb, hs⟩ := hv
  have u1 : IntKind.wrap .u64 i = i := IntWalk.u64_in _ (by have := hi.1; have := hi.2; omega)
  have u2 : IntKind.wrap .u64 q = q := IntWalk.u64_in _ (by have := hq.1; have := hq.2; omega)
  have tp := take32 hp
  have ht := text_len s
  simp (config := {dsimp := false}) only [↓vp0, vz, vn, nq, tys, cellD, wideIR, if_true, if_false, implies_true, forall_const, ne_eq, reduceIte, reduceCtorEq, Nat.reduceEqDiff, Nat.reduceAdd, Nat.reduceMul, Nat.reduceLT, Nat.reduceSub, Nat.reduceLeDiff, Nat.reduceBNe, Nat.reduceBEq, Nat.reduceBeqDiff, List.range, List.range.loop, gl0, Tryd.ntmps32, Tryd.results32, retR, vb]
  refine drawX [0, 3] [(4, [5, 6, 7, 8])] [(4, [0])] (by kernel_rfl) (wild_of rfl) ?_
  simp (config := {dsimp := false}) only [↓vp0, vz, vn, nq, tys, cellD, wideIR, if_true, if_false, implies_true, forall_const, ne_eq, reduceIte, reduceCtorEq, Nat.reduceEqDiff, Nat.reduceAdd, Nat.reduceMul, Nat.reduceLT, Nat.reduceSub, Nat.reduceLeDiff, Nat.reduceBNe, Nat.reduceBEq, Nat.reduceBeqDiff, List.range, List.range.loop, gl0, Tryd.ntmps32, Tryd.results32, retR, vb, ↓vy0, vx0, u1, tp, hp, spec_num, sp_num, c_num, b_num]
  refine ⟨by decide, by decide, by decide, by omega, okUps_of (by kernel_rfl) rfl, .inr ⟨rfl, by simp [hp], by simp [hp]⟩, .inl trivial, hi.1, hi.2, by simp [hp]; omega, okUps_all rfl (by kernel_rfl), ?_⟩
  refine drawX [0, 3] [(3, [4, 5, 6])] [(3, [52])] (by kernel_rfl) (wild_of rfl) ?_
  simp (config := {dsimp := false}) only [↓vp0, vz, vn, nq, tys, cellD, wideIR, if_true, if_false, implies_true, forall_const, ne_eq, reduceIte, reduceCtorEq, Nat.reduceEqDiff, Nat.reduceAdd, Nat.reduceMul, Nat.reduceLT, Nat.reduceSub, Nat.reduceLeDiff, Nat.reduceBNe, Nat.reduceBEq, Nat.reduceBeqDiff, List.range, List.range.loop, gl0, Tryd.ntmps32, Tryd.results32, retR, vb, ↓vy0, vx0, u2, spec_num, sp_num, c_num, b_num, spec_putText, sp_putText, c_putText, b_putText]
  have l4 : ∀ x : Int, (leI (Int.toNat 4) x).length = 4 := fun x => leI_len _ _
  have t4 : Int.toNat 4 = 4 := rfl
  refine ⟨by simp [leI_len] <;> omega, by simp [leI_len] <;> omega, by simp [leI_len, hp] <;> omega, by omega, okUps_of (by kernel_rfl) rfl, .inr ⟨rfl, by simp [leI_len] <;> omega, by simp [leI_len] <;> omega⟩, .inl trivial, hq.1, hq.2, by simp [leI_len, hp] <;> omega, okUps_all rfl (by kernel_rfl), ?_⟩
  refine ⟨0, 88, 4, _, _, ⟨rfl, ⟨by decide, by decide⟩, rfl, ⟨_, _, rfl, ?_⟩, rfl, [], [], [], ⟨rfl, rfl⟩, ⟨rfl, rfl⟩, ⟨by simp, by simp⟩, by simp, ?_, rfl, ⟨_, rfl, rfl⟩, ⟨_, rfl, rfl⟩, ?_⟩⟩
  · simp [hp, leI_len] <;> omega
  · simp [getAll, S.tok, look, reT, inI, hp, leI_len] <;> omega
  · simp only [inI, List.append_assoc]; rfl
theorem c_putOut : Contract E 34 := by
  refine contract_boxR hE hgl (show E.P.funcs[34]? = some Tryd.f34 from Tryd.func34) rfl (p := sp_putOut) (fun _ _ _ => rfl) ?_
  intro args ds tv hv hdl htl
  unfold sp_putOut at hv ⊢
  split at hv
  case h_2 => exact hv.elim
  rename_i b v s n
  refine ⟨by simp, Nat.le_of_ble_eq_true rfl, ?_⟩
  obtain ⟨rfl, hne, hv1, hb, hs⟩ := hv
  have u1 : IntKind.wrap .u64 v = v % 18446744073709551616 := rfl
  have ht := text_len s
  have m1 := Int.emod_nonneg v (show (18446744073709551616 : Int) ≠ 0 by decide)
  have m2 := Int.emod_lt_of_pos v (show (0 : Int) < 18446744073709551616 by decide)
  simp (config := {dsimp := false}) only [↓vp0, vz, vn, nq, tys, cellD, wideIR, if_true, if_false, implies_true, forall_const, ne_eq, reduceIte, reduceCtorEq, Nat.reduceEqDiff, Nat.reduceAdd, Nat.reduceMul, Nat.reduceLT, Nat.reduceSub, Nat.reduceLeDiff, Nat.reduceBNe, Nat.reduceBEq, Nat.reduceBeqDiff, List.range, List.range.loop, gl0, Tryd.ntmps34, Tryd.results34, retR, vb]
  refine drawX [0, 3] [(4, [5, 6])] [(4, [0])] (by kernel_rfl) (wild_of rfl) ?_
  simp (config := {dsimp := false}) only [↓vp0, vz, vn, nq, tys, cellD, wideIR, if_true, if_false, implies_true, forall_const, ne_eq, reduceIte, reduceCtorEq, Nat.reduceEqDiff, Nat.reduceAdd, Nat.reduceMul, Nat.reduceLT, Nat.reduceSub, Nat.reduceLeDiff, Nat.reduceBNe, Nat.reduceBEq, Nat.reduceBeqDiff, List.range, List.range.loop, gl0, Tryd.ntmps34, Tryd.results34, retR, vb, ↓vy0, vx0, u1, spec_num, sp_num, c_num, b_num, spec_putText, sp_putText, c_putText, b_putText]
  refine ⟨.inr ⟨rfl, rfl, hne⟩, .inr trivial, m1, m2, by omega, okUps_of (by kernel_rfl) rfl, by simp [leI_len], by simp [leI_len] <;> omega, by simp [leI_len] <;> omega, by omega, okUps_all rfl (by kernel_rfl), ?_⟩
  refine ⟨0, 32, 4, _, _, ⟨rfl, ⟨by decide, by decide⟩, rfl, ⟨_, _, rfl, ?_⟩, rfl, [], [], [], ⟨rfl, rfl⟩, ⟨rfl, rfl⟩, ⟨by simp, by simp⟩, by simp, ?_, rfl, ⟨_, rfl, rfl⟩, ⟨_, rfl, rfl⟩, ?_⟩⟩
  · simp [leI_len] <;> omega
  · simp [getAll, S.tok, look, reT, outI, leI_len] <;> omega
  · simp only [outI, List.append_assoc]; rfl
end Go.Vi.TP
end

section
set_option linter.unusedVariables false
set_option linter.unusedSimpArgs false
set_option maxHeartbeats 0
set_option maxRecDepth 20000
namespace Go.Vi.TP
open Go.Proofs

theorem flat_snoc {α : Type} [Inhabited α] (f : α → List Int) (l : List α) (k : Nat) (h : k < l.length) : (l.take (k + 1)).flatMap f = (l.take k).flatMap f ++ f (l.getD k default) := by
  rw [List.take_add_one, List.flatMap_append]
  simp [List.getD, h]
theorem flat_le {α : Type} [Inhabited α] (f : α → List Int) (l : List α) (k : Nat) (h : k < l.length) : ((l.take k).flatMap f).length + (f (l.getD k default)).length ≤ (l.flatMap f).length := by
  have e : l.flatMap f = (l.take (k + 1)).flatMap f ++ (l.drop (k + 1)).flatMap f := by rw [← List.flatMap_append, List.take_append_drop]
  rw [e, flat_snoc f l k h]
  simp only [List.length_append]
  omega
theorem c_layIn : Contract E 31 := by
  refine contract_boxR hE hgl (show E.P.funcs[31]? = some Tryd.f31 from Tryd.func31) rfl (p := (sp_layIn 32)) (fun _ _ _ => rfl) ?_
  intro args ds tv hv hdl htl
  unfold sp_layIn at hv ⊢
  split at hv
  case h_2 => exact hv.elim
  rename_i b es h n
  refine ⟨by simp, Nat.le_of_ble_eq_true rfl, ?_⟩
  obtain ⟨rfl, rfl, hne, ⟨l, rfl, hok, hl⟩, hlen⟩ := hv
  simp only [ins_D] at hlen ⊢
  have e1 : IntKind.wrap .u64 (l.length : Int) = (l.length : Int) := IntWalk.u64_in _ (by omega)
  have hc := count_len (l.length : Int)
  simp only [List.length_append] at hlen
  simp (config := {dsimp := false}) only [↓vp0, vz, vn, nq, tys, cellD, wideIR, if_true, if_false, implies_true, forall_const, ne_eq, reduceIte, reduceCtorEq, Nat.reduceEqDiff, Nat.reduceAdd, Nat.reduceMul, Nat.reduceLT, Nat.reduceSub, Nat.reduceLeDiff, Nat.reduceBNe, Nat.reduceBEq, Nat.reduceBeqDiff, List.range, List.range.loop, gl0, Tryd.ntmps31, Tryd.results31, retR, vb, e1, spec_cput, sp_cput, c_cput, b_cput]
  refine ⟨.inr ⟨rfl, rfl, hne⟩, ⟨by omega, by omega⟩, by omega, ?_⟩
  refine loopI (Fin (l.length + 1)) (fun k => [(16, .int .i64 (k.1 : Nat)), (15, .int .i64 (l.length : Nat)), (14, .sl .no 36 (insD l)), (0, .sli (.tok 28) .u8 (b ++ (countI l.length ++ (l.take k.1).flatMap inI))), (2, .fn 32 [])]) (fun k => ⟨[], [(0, (b.length, 1)), (28, ((b ++ (countI l.length ++ (l.take k.1).flatMap inI)).length, 1))], 48⟩) (fun k => l.length - k.1) 0 (fun _ => rfl) ?_ ?_
  · refine ⟨⟨wkD_eq rfl, rfl, wkD_eq rfl, rfl, wkD_eq rfl, rfl, wkD_eq ?_, rfl, wkD_eq rfl, rfl, trivial⟩, trivial, ⟨rfl, Nat.le_of_ble_eq_true rfl, ?_, Nat.le_of_ble_eq_true rfl, trivial⟩⟩
    · exact some_sli (by simp)
    · exact some_tok (by simp)
  rintro ⟨k, hk⟩
  simp (config := {dsimp := false}) only [↓vp0, vz, vn, nq, tys, cellD, wideIR, if_true, if_false, implies_true, forall_const, ne_eq, reduceIte, reduceCtorEq, Nat.reduceEqDiff, Nat.reduceAdd, Nat.reduceMul, Nat.reduceLT, Nat.reduceSub, Nat.reduceLeDiff, Nat.reduceBNe, Nat.reduceBEq, Nat.reduceBeqDiff, List.range, List.range.loop, gl0, Tryd.ntmps31, Tryd.results31]
  refine ⟨fun h => ?_, fun h => ?_⟩
  · have h := of_decide_eq_true h
    have hk' : k < l.length := by omega
    have g1 := insD_get l k hk'
    have hx := hok _ (getD_memI hk')
    have hfl := flat_le inI l k hk'
    have hsn := flat_snoc inI l k hk'
    have hs : (l.getD k default).script.length ≤ (inI (l.getD k default)).length := by simp only [inI, textI, List.length_append]; omega
    simp (config := {dsimp := false}) only [↓vp0, vz, vn, nq, tys, cellD, wideIR, if_true, if_false, implies_true, forall_const, ne_eq, reduceIte, reduceCtorEq, Nat.reduceEqDiff, Nat.reduceAdd, Nat.reduceMul, Nat.reduceLT, Nat.reduceSub, Nat.reduceLeDiff, Nat.reduceBNe, Nat.reduceBEq, Nat.reduceBeqDiff, List.range, List.range.loop, gl0, Tryd.ntmps31, Tryd.results31, vb, Int.toNat_natCast, g1, inD, spec_putIn, sp_putIn, c_putIn, b_putIn]
    refine ⟨by omega, by omega, by simp only [List.length_append]; omega, hx.prev, hx.ix, hx.seq, by simp only [List.length_append]; omega, by omega, ⟨k + 1, by omega⟩, ⟨⟨wkD_eq ?_, rfl, wkD_eq rfl, rfl, wkD_eq rfl, rfl, wkD_eq ?_, rfl, wkD_eq rfl, rfl, trivial⟩, trivial, ⟨rfl, Nat.le_of_ble_eq_true rfl, ?_, Nat.le_of_ble_eq_true rfl, trivial⟩⟩, by (try simp only); omega⟩
    · exact some_i64 (by (try simp only); omega)
    · exact some_sli (by rw [hsn]; first | done | rfl | (simp only [List.append_assoc]; done) | (simp only [List.append_assoc]; rfl))
    · exact some_tok (by rw [hsn]; simp only [List.length_append, Nat.add_assoc]; try rfl)

  · have h := of_decide_eq_false h
    obtain rfl : k = l.length := by omega
    simp (config := {dsimp := false}) only [↓vp0, vz, vn, nq, tys, cellD, wideIR, if_true, if_false, implies_true, forall_const, ne_eq, reduceIte, reduceCtorEq, Nat.reduceEqDiff, Nat.reduceAdd, Nat.reduceMul, Nat.reduceLT, Nat.reduceSub, Nat.reduceLeDiff, Nat.reduceBNe, Nat.reduceBEq, Nat.reduceBeqDiff, List.range, List.range.loop, gl0, Tryd.ntmps31, Tryd.results31, retR, vb, List.take_length]
    refine ⟨0, 28, 6, _, _, ⟨rfl, ⟨by decide, by decide⟩, rfl, ⟨_, _, rfl, ?_⟩, rfl, [], [], [], ⟨rfl, rfl⟩, ⟨rfl, rfl⟩, ⟨by simp, by simp⟩, by simp, by simp [getAll, S.tok, look, reT], rfl, ⟨_, rfl, rfl⟩, ⟨_, rfl, rfl⟩, id rfl⟩⟩
    simp only [List.length_append]; omega
theorem c_layOut : Contract E 33 := by
  refine contract_boxR hE hgl (show E.P.funcs[33]? = some Tryd.f33 from Tryd.func33) rfl (p := (sp_layOut 34)) (fun _ _ _ => rfl) ?_
  intro args ds tv hv hdl htl
  unfold sp_layOut at hv ⊢
  split at hv
  case h_2 => exact hv.elim
  rename_i b es h n
  refine ⟨by simp, Nat.le_of_ble_eq_true rfl, ?_⟩
  obtain ⟨rfl, rfl, hne, ⟨l, rfl, hok, hl⟩, hlen⟩ := hv
  simp only [outs_D] at hlen ⊢
  have e1 : IntKind.wrap .u64 (l.length : Int) = (l.length : Int) := IntWalk.u64_in _ (by omega)
  have hc := count_len (l.length : Int)
  simp only [List.length_append] at hlen
  simp (config := {dsimp := false}) only [↓vp0, vz, vn, nq, tys, cellD, wideIR, if_true, if_false, implies_true, forall_const, ne_eq, reduceIte, reduceCtorEq, Nat.reduceEqDiff, Nat.reduceAdd, Nat.reduceMul, Nat.reduceLT, Nat.reduceSub, Nat.reduceLeDiff, Nat.reduceBNe, Nat.reduceBEq, Nat.reduceBeqDiff, List.range, List.range.loop, gl0, Tryd.ntmps33, Tryd.results33, retR, vb, e1, spec_cput, sp_cput, c_cput, b_cput]
  refine ⟨.inr ⟨rfl, rfl, hne⟩, ⟨by omega, by omega⟩, by omega, ?_⟩
  refine loopI (Fin (l.length + 1)) (fun k => [(16, .int .i64 (k.1 : Nat)), (15, .int .i64 (l.length : Nat)), (14, .sl .no 2 (outsD l)), (0, .sli (.tok 28) .u8 (b ++ (countI l.length ++ (l.take k.1).flatMap outI))), (2, .fn 34 [])]) (fun k => ⟨[], [(0, (b.length, 1)), (28, ((b ++ (countI l.length ++ (l.take k.1).flatMap outI)).length, 1))], 48⟩) (fun k => l.length - k.1) 0 (fun _ => rfl) ?_ ?_
  · refine ⟨⟨wkD_eq rfl, rfl, wkD_eq rfl, rfl, wkD_eq rfl, rfl, wkD_eq ?_, rfl, wkD_eq rfl, rfl, trivial⟩, trivial, ⟨rfl, Nat.le_of_ble_eq_true rfl, ?_, Nat.le_of_ble_eq_true rfl, trivial⟩⟩
    · exact some_sli (by simp)
    · exact some_tok (by simp)
  rintro ⟨k, hk⟩
  simp (config := {dsimp := false}) only [↓vp0, vz, vn, nq, tys, cellD, wideIR, if_true, if_false, implies_true, forall_const, ne_eq, reduceIte, reduceCtorEq, Nat.reduceEqDiff, Nat.reduceAdd, Nat.reduceMul, Nat.reduceLT, Nat.reduceSub, Nat.reduceLeDiff, Nat.reduceBNe, Nat.reduceBEq, Nat.reduceBeqDiff, List.range, List.range.loop, gl0, Tryd.ntmps33, Tryd.results33]
  refine ⟨fun h => ?_, fun h => ?_⟩
  · have h := of_decide_eq_true h
    have hk' : k < l.length := by omega
    have g1 := outsD_get l k hk'
    have hx := hok _ (getD_memI hk')
    have hfl := flat_le outI l k hk'
    have hsn := flat_snoc outI l k hk'
    have hs : (l.getD k default).script.length ≤ (outI (l.getD k default)).length := by simp only [outI, textI, List.length_append]; omega
    simp (config := {dsimp := false}) only [↓vp0, vz, vn, nq, tys, cellD, wideIR, if_true, if_false, implies_true, forall_const, ne_eq, reduceIte, reduceCtorEq, Nat.reduceEqDiff, Nat.reduceAdd, Nat.reduceMul, Nat.reduceLT, Nat.reduceSub, Nat.reduceLeDiff, Nat.reduceBNe, Nat.reduceBEq, Nat.reduceBeqDiff, List.range, List.range.loop, gl0, Tryd.ntmps33, Tryd.results33, vb, Int.toNat_natCast, g1, outD, spec_putOut, sp_putOut, c_putOut, b_putOut]
    refine ⟨by omega, by omega, by simp only [List.length_append]; omega, hx.value, by simp only [List.length_append]; omega, by omega, ⟨k + 1, by omega⟩, ⟨⟨wkD_eq ?_, rfl, wkD_eq rfl, rfl, wkD_eq rfl, rfl, wkD_eq ?_, rfl, wkD_eq rfl, rfl, trivial⟩, trivial, ⟨rfl, Nat.le_of_ble_eq_true rfl, ?_, Nat.le_of_ble_eq_true rfl, trivial⟩⟩, by (try simp only); omega⟩
    · exact some_i64 (by (try simp only); omega)
    · exact some_sli (by rw [hsn]; first | done | rfl | (simp only [List.append_assoc]; done) | (simp only [List.append_assoc]; rfl))
    · exact some_tok (by rw [hsn]; simp only [List.length_append, Nat.add_assoc]; try rfl)

  · have h := of_decide_eq_false h
    obtain rfl : k = l.length := by omega
    simp (config := {dsimp := false}) only [↓vp0, vz, vn, nq, tys, cellD, wideIR, if_true, if_false, implies_true, forall_const, ne_eq, reduceIte, reduceCtorEq, Nat.reduceEqDiff, Nat.reduceAdd, Nat.reduceMul, Nat.reduceLT, Nat.reduceSub, Nat.reduceLeDiff, Nat.reduceBNe, Nat.reduceBEq, Nat.reduceBeqDiff, List.range, List.range.loop, gl0, Tryd.ntmps33, Tryd.results33, retR, vb, List.take_length]
    refine ⟨0, 28, 6, _, _, ⟨rfl, ⟨by decide, by decide⟩, rfl, ⟨_, _, rfl, ?_⟩, rfl, [], [], [], ⟨rfl, rfl⟩, ⟨rfl, rfl⟩, ⟨by simp, by simp⟩, by simp, by simp [getAll, S.tok, look, reT], rfl, ⟨_, rfl, rfl⟩, ⟨_, rfl, rfl⟩, id rfl⟩⟩
    simp only [List.length_append]; omega
theorem c_layWit : Contract E 35 := by
  refine contract_boxR hE hgl (show E.P.funcs[35]? = some Tryd.f35 from Tryd.func35) rfl (p := (sp_layWit 36)) (fun _ _ _ => rfl) ?_
  intro args ds tv hv hdl htl
  unfold sp_layWit at hv ⊢
  split at hv
  case h_2 => exact hv.elim
  rename_i b es h n
  refine ⟨by simp, Nat.le_of_ble_eq_true rfl, ?_⟩
  obtain ⟨rfl, rfl, hne, ⟨l, rfl, hok, hl⟩, hlen⟩ := hv
  simp only [ts_slis] at hlen ⊢
  have e1 : IntKind.wrap .u64 (l.length : Int) = (l.length : Int) := IntWalk.u64_in _ (by omega)
  have hc := count_len (l.length : Int)
  simp only [List.length_append] at hlen
  simp (config := {dsimp := false}) only [↓vp0, vz, vn, nq, tys, cellD, wideIR, if_true, if_false, implies_true, forall_const, ne_eq, reduceIte, reduceCtorEq, Nat.reduceEqDiff, Nat.reduceAdd, Nat.reduceMul, Nat.reduceLT, Nat.reduceSub, Nat.reduceLeDiff, Nat.reduceBNe, Nat.reduceBEq, Nat.reduceBeqDiff, List.range, List.range.loop, gl0, Tryd.ntmps35, Tryd.results35, retR, vb, e1, spec_cput, sp_cput, c_cput, b_cput]
  refine ⟨.inr ⟨rfl, rfl, hne⟩, ⟨by omega, by omega⟩, by omega, ?_⟩
  refine loopI (Fin (l.length + 1)) (fun k => [(16, .int .i64 (k.1 : Nat)), (15, .int .i64 (l.length : Nat)), (14, .sl .no 1 (slis l)), (0, .sli (.tok 28) .u8 (b ++ (countI l.length ++ (l.take k.1).flatMap textI))), (2, .fn 36 [])]) (fun k => ⟨[], [(0, (b.length, 1)), (28, ((b ++ (countI l.length ++ (l.take k.1).flatMap textI)).length, 1))], 48⟩) (fun k => l.length - k.1) 0 (fun _ => rfl) ?_ ?_
  · refine ⟨⟨wkD_eq rfl, rfl, wkD_eq rfl, rfl, wkD_eq rfl, rfl, wkD_eq ?_, rfl, wkD_eq rfl, rfl, trivial⟩, trivial, ⟨rfl, Nat.le_of_ble_eq_true rfl, ?_, Nat.le_of_ble_eq_true rfl, trivial⟩⟩
    · exact some_sli (by simp)
    · exact some_tok (by simp)
  rintro ⟨k, hk⟩
  simp (config := {dsimp := false}) only [↓vp0, vz, vn, nq, tys, cellD, wideIR, if_true, if_false, implies_true, forall_const, ne_eq, reduceIte, reduceCtorEq, Nat.reduceEqDiff, Nat.reduceAdd, Nat.reduceMul, Nat.reduceLT, Nat.reduceSub, Nat.reduceLeDiff, Nat.reduceBNe, Nat.reduceBEq, Nat.reduceBeqDiff, List.range, List.range.loop, gl0, Tryd.ntmps35, Tryd.results35]
  refine ⟨fun h => ?_, fun h => ?_⟩
  · have h := of_decide_eq_true h
    have hk' : k < l.length := by omega
    have g1 := slis_get l k hk'
    have hx := hok _ (getD_mem hk')
    have hfl := flat_le textI l k hk'
    have hsn := flat_snoc textI l k hk'
    have hfl : ((l.take k).flatMap textI).length + (textI (l.getD k [])).length ≤ (l.flatMap textI).length := hfl
    have hsn : (l.take (k + 1)).flatMap textI = (l.take k).flatMap textI ++ textI (l.getD k []) := hsn
    have hs : (l.getD k []).length ≤ (textI (l.getD k [])).length := by simp only [textI, List.length_append]; omega
    simp (config := {dsimp := false}) only [↓vp0, vz, vn, nq, tys, cellD, wideIR, if_true, if_false, implies_true, forall_const, ne_eq, reduceIte, reduceCtorEq, Nat.reduceEqDiff, Nat.reduceAdd, Nat.reduceMul, Nat.reduceLT, Nat.reduceSub, Nat.reduceLeDiff, Nat.reduceBNe, Nat.reduceBEq, Nat.reduceBeqDiff, List.range, List.range.loop, gl0, Tryd.ntmps35, Tryd.results35, vb, Int.toNat_natCast, g1, spec_putText, sp_putText, c_putText, b_putText]
    refine ⟨by omega, by omega, by simp only [List.length_append]; omega, by simp only [List.length_append]; omega, by omega, ⟨k + 1, by omega⟩, ⟨⟨wkD_eq ?_, rfl, wkD_eq rfl, rfl, wkD_eq rfl, rfl, wkD_eq ?_, rfl, wkD_eq rfl, rfl, trivial⟩, trivial, ⟨rfl, Nat.le_of_ble_eq_true rfl, ?_, Nat.le_of_ble_eq_true rfl, trivial⟩⟩, by (try simp only); omega⟩
    · exact some_i64 (by (try simp only); omega)
    · exact some_sli (by rw [hsn]; first | done | rfl | (simp only [List.append_assoc]; done) | (simp only [List.append_assoc]; rfl))
    · exact some_tok (by rw [hsn]; simp only [List.length_append, Nat.add_assoc]; try rfl)

  · have h := of_decide_eq_false h
    obtain rfl : k = l.length := by omega
    simp (config := {dsimp := false}) only [↓vp0, vz, vn, nq, tys, cellD, wideIR, if_true, if_false, implies_true, forall_const, ne_eq, reduceIte, reduceCtorEq, Nat.reduceEqDiff, Nat.reduceAdd, Nat.reduceMul, Nat.reduceLT, Nat.reduceSub, Nat.reduceLeDiff, Nat.reduceBNe, Nat.reduceBEq, Nat.reduceBeqDiff, List.range, List.range.loop, gl0, Tryd.ntmps35, Tryd.results35, retR, vb, List.take_length]
    refine ⟨0, 28, 6, _, _, ⟨rfl, ⟨by decide, by decide⟩, rfl, ⟨_, _, rfl, ?_⟩, rfl, [], [], [], ⟨rfl, rfl⟩, ⟨rfl, rfl⟩, ⟨by simp, by simp⟩, by simp, by simp [getAll, S.tok, look, reT], rfl, ⟨_, rfl, rfl⟩, ⟨_, rfl, rfl⟩, id rfl⟩⟩
    simp only [List.length_append]; omega
end Go.Vi.TP
end

section
set_option linter.unusedVariables false
set_option linter.unusedSimpArgs false
set_option maxHeartbeats 0
set_option maxRecDepth 20000
namespace Go.Vi.TP
open Go.Proofs

theorem c_laid : Contract E 20 := by
  refine contract_boxT hE hgl (show E.P.funcs[20]? = some Tryd.f20 from Tryd.func20) rfl (p := sp_laid) (fun _ _ _ => rfl) ?_
  intro args ds tv hv hdl htl
  unfold sp_laid at hv ⊢
  split at hv
  case h_2 => exact hv.elim
  rename_i b v is os l full
  refine ⟨by simp, Nat.le_of_ble_eq_true rfl, ?_⟩
  obtain ⟨hok, hlen⟩ := hv
  obtain ⟨t, rfl, rfl, rfl, rfl, ht, -⟩ := okT_tx hok
  simp only [ins_D, outs_D] at hlen ⊢
  have hi : isInL (insD t.ins) := ⟨_, rfl, ht.ins, ht.mi⟩
  have ho : isOutL (outsD t.outs) := ⟨_, rfl, ht.outs, ht.mo⟩
  have u1 : IntKind.wrap .u64 t.ver = t.ver := IntWalk.u64_in _ (by have := ht.ver.1; have := ht.ver.2; omega)
  have u2 : IntKind.wrap .u64 t.lock = t.lock := IntWalk.u64_in _ (by have := ht.lock.1; have := ht.lock.2; omega)
  have hlay : layI ⟨t.ver, t.ins, t.outs, t.lock⟩ full = leI 4 t.ver ++ ((if full = true then [0, 1] else []) ++ ((countI t.ins.length ++ t.ins.flatMap inI) ++ ((countI t.outs.length ++ t.outs.flatMap outI) ++ ((if full = true then t.ins.flatMap witI else []) ++ leI 4 t.lock)))) := by
    simp only [layI, List.append_assoc]
  rw [hlay] at hlen ⊢
  simp only [List.length_append, leI_len] at hlen
  obtain ⟨X, hX⟩ : ∃ X : Bool → List Int, ∀ f, X f = leI 4 t.ver ++ ((if f = true then [0, 1] else []) ++ ((countI t.ins.length ++ t.ins.flatMap inI) ++ (countI t.outs.length ++ t.outs.flatMap outI))) := ⟨_, fun _ => rfl⟩
  have t4 : Int.toNat 4 = 4 := rfl
  cases full
  · have hf := hX false
    simp only [Bool.false_eq_true, if_false, List.nil_append, List.length_nil, List.length_cons] at hlen hf
    have hl2 := congrArg List.length hf
    simp only [List.length_append, leI_len, List.length_cons, List.length_nil] at hl2
    have hmi := ht.mi
    have hne : (b ++ X false).length ≠ 0 := by simp only [List.length_append]; omega
    simp (config := {dsimp := false}) only [↓vp0, vz, vn, nq, tys, cellD, wideIR, if_true, if_false, implies_true, forall_const, ne_eq, reduceIte, reduceCtorEq, Nat.reduceEqDiff, Nat.reduceAdd, Nat.reduceMul, Nat.reduceLT, Nat.reduceSub, Nat.reduceLeDiff, Nat.reduceBNe, Nat.reduceBEq, Nat.reduceBeqDiff, List.range, List.range.loop, gl0, Tryd.ntmps20, Tryd.results20, retB, vb, u1, spec_num, sp_num, c_num, b_num, spec_layIn, sp_layIn, c_layIn, b_layIn, spec_layOut, sp_layOut, c_layOut, b_layOut]
    refine ⟨.inl ⟨rfl, rfl⟩, .inl trivial, ht.ver.1, ht.ver.2, by omega, by simp [leI_len], by simp [leI_len], hi, by simp only [List.length_append, List.length_cons, List.length_nil, leI_len, t4]; omega, by simp [leI_len], ho, by simp only [List.length_append, List.length_cons, List.length_nil, leI_len, t4]; omega, ?_⟩
    refine loopI (Fin (t.ins.length + 1)) (fun k => [(29, .int .i64 (k.1 : Nat)), (28, .int .i64 (t.ins.length : Nat)), (27, .sl .no 36 (insD t.ins)), (0, .sli (.tok 32) .u8 (b ++ (X false ++ []))), (2, .bool false), (4, .bp 8 0)]) (fun k => ⟨[(8, .agg [.int .u32 t.ver, .sl .no 36 (insD t.ins), .sl .no 2 (outsD t.outs), .int .u32 t.lock])], [(32, ((b ++ (X false ++ [])).length, 1))], 100⟩) (fun k => t.ins.length - k.1) 0 (fun _ => rfl) ?_ ?_
    · refine ⟨⟨wkD_eq rfl, rfl, wkD_eq rfl, rfl, wkD_eq rfl, rfl, wkD_eq ?_, rfl, wkD_eq rfl, rfl, wkD_eq rfl, rfl, trivial⟩, ⟨rfl, Nat.le_of_ble_eq_true rfl, rfl, trivial⟩, ⟨?_, Nat.le_of_ble_eq_true rfl, trivial⟩⟩
      · exact some_sli (by rw [hf]; simp [t4])
      · exact some_tok (by rw [hf]; simp only [List.length_append, List.length_cons, List.length_nil, leI_len, t4, Fin.val_zero, List.take_zero, List.flatMap_nil]; omega)
    rintro ⟨k, hk⟩
    simp (config := {dsimp := false}) only [↓vp0, vz, vn, nq, tys, cellD, wideIR, if_true, if_false, implies_true, forall_const, ne_eq, reduceIte, reduceCtorEq, Nat.reduceEqDiff, Nat.reduceAdd, Nat.reduceMul, Nat.reduceLT, Nat.reduceSub, Nat.reduceLeDiff, Nat.reduceBNe, Nat.reduceBEq, Nat.reduceBeqDiff, List.range, List.range.loop, gl0, Tryd.ntmps20, Tryd.results20]
    refine ⟨fun h => ?_, fun h => ?_⟩
    · have h := of_decide_eq_true h
      have hk' : k < t.ins.length := by omega
      have g1 := insD_get t.ins k hk'
      simp (config := {dsimp := false}) only [↓vp0, vz, vn, nq, tys, cellD, wideIR, if_true, if_false, implies_true, forall_const, ne_eq, reduceIte, reduceCtorEq, Nat.reduceEqDiff, Nat.reduceAdd, Nat.reduceMul, Nat.reduceLT, Nat.reduceSub, Nat.reduceLeDiff, Nat.reduceBNe, Nat.reduceBEq, Nat.reduceBeqDiff, List.range, List.range.loop, gl0, Tryd.ntmps20, Tryd.results20, vb, Int.toNat_natCast, g1, inD]
      refine ⟨by omega, by omega, ⟨k + 1, by omega⟩, ⟨⟨wkD_eq ?_, rfl, wkD_eq rfl, rfl, wkD_eq rfl, rfl, wkD_eq rfl, rfl, wkD_eq rfl, rfl, wkD_eq rfl, rfl, trivial⟩, ⟨rfl, Nat.le_of_ble_eq_true rfl, rfl, trivial⟩, ⟨rfl, Nat.le_of_ble_eq_true rfl, trivial⟩⟩, by (try simp only); omega⟩
      · exact some_i64 (by (try simp only); omega)
    · have h := of_decide_eq_false h
      obtain rfl : k = t.ins.length := by omega
      simp (config := {dsimp := false}) only [↓vp0, vz, vn, nq, tys, cellD, wideIR, if_true, if_false, implies_true, forall_const, ne_eq, reduceIte, reduceCtorEq, Nat.reduceEqDiff, Nat.reduceAdd, Nat.reduceMul, Nat.reduceLT, Nat.reduceSub, Nat.reduceLeDiff, Nat.reduceBNe, Nat.reduceBEq, Nat.reduceBeqDiff, List.range, List.range.loop, gl0, Tryd.ntmps20, Tryd.results20, retB, vb, u2, List.take_length, spec_num, sp_num, c_num, b_num]
      refine ⟨.inr ⟨rfl, rfl, by simp only [List.length_append, List.length_nil] at hne ⊢; omega⟩, .inl trivial, ht.lock.1, ht.lock.2, by simp only [List.length_append, List.length_nil]; omega, ?_⟩
      exact ⟨[], [120], [], ⟨rfl, rfl⟩, ⟨rfl, rfl⟩, ⟨by simp, by simp⟩, by simp, rfl, (show some [(_, 1)] = some [(_, 1)] from congrArg (fun n => some [(n, 1)]) (by rw [hf]; simp only [List.length_append, List.length_cons, List.length_nil, leI_len, t4]; omega)), ⟨_, rfl, rfl⟩, ⟨_, rfl, rfl⟩, by rw [hf]; simp only [List.append_assoc, List.cons_append, List.nil_append]; rfl⟩
  · have hf := hX true
    simp only [if_true, List.nil_append, List.length_nil, List.length_cons] at hlen hf
    have hl2 := congrArg List.length hf
    simp only [List.length_append, leI_len, List.length_cons, List.length_nil] at hl2
    have hmi := ht.mi
    have hne : (b ++ X true).length ≠ 0 := by simp only [List.length_append]; omega
    simp (config := {dsimp := false}) only [↓vp0, vz, vn, nq, tys, cellD, wideIR, if_true, if_false, implies_true, forall_const, ne_eq, reduceIte, reduceCtorEq, Nat.reduceEqDiff, Nat.reduceAdd, Nat.reduceMul, Nat.reduceLT, Nat.reduceSub, Nat.reduceLeDiff, Nat.reduceBNe, Nat.reduceBEq, Nat.reduceBeqDiff, List.range, List.range.loop, gl0, Tryd.ntmps20, Tryd.results20, retB, vb, u1, spec_num, sp_num, c_num, b_num, spec_layIn, sp_layIn, c_layIn, b_layIn, spec_layOut, sp_layOut, c_layOut, b_layOut]
    refine ⟨.inl ⟨rfl, rfl⟩, .inl trivial, ht.ver.1, ht.ver.2, by omega, by simp [leI_len], by simp [leI_len] <;> omega, by simp [leI_len], by simp [leI_len], hi, by simp only [List.length_append, List.length_cons, List.length_nil, leI_len, t4]; omega, by simp [leI_len], ho, by simp only [List.length_append, List.length_cons, List.length_nil, leI_len, t4]; omega, ?_⟩
    refine loopI (Fin (t.ins.length + 1)) (fun k => [(29, .int .i64 (k.1 : Nat)), (28, .int .i64 (t.ins.length : Nat)), (27, .sl .no 36 (insD t.ins)), (0, .sli (.tok 32) .u8 (b ++ (X true ++ (t.ins.take k.1).flatMap witI))), (2, .bool true), (4, .bp 8 0)]) (fun k => ⟨[(8, .agg [.int .u32 t.ver, .sl .no 36 (insD t.ins), .sl .no 2 (outsD t.outs), .int .u32 t.lock])], [(32, ((b ++ (X true ++ (t.ins.take k.1).flatMap witI)).length, 1))], 116⟩) (fun k => t.ins.length - k.1) 0 (fun _ => rfl) ?_ ?_
    · refine ⟨⟨wkD_eq rfl, rfl, wkD_eq rfl, rfl, wkD_eq rfl, rfl, wkD_eq ?_, rfl, wkD_eq rfl, rfl, wkD_eq rfl, rfl, trivial⟩, ⟨rfl, Nat.le_of_ble_eq_true rfl, rfl, trivial⟩, ⟨?_, Nat.le_of_ble_eq_true rfl, trivial⟩⟩
      · exact some_sli (by rw [hf]; simp [t4])
      · exact some_tok (by rw [hf]; simp only [List.length_append, List.length_cons, List.length_nil, leI_len, t4, Fin.val_zero, List.take_zero, List.flatMap_nil]; omega)
    rintro ⟨k, hk⟩
    simp (config := {dsimp := false}) only [↓vp0, vz, vn, nq, tys, cellD, wideIR, if_true, if_false, implies_true, forall_const, ne_eq, reduceIte, reduceCtorEq, Nat.reduceEqDiff, Nat.reduceAdd, Nat.reduceMul, Nat.reduceLT, Nat.reduceSub, Nat.reduceLeDiff, Nat.reduceBNe, Nat.reduceBEq, Nat.reduceBeqDiff, List.range, List.range.loop, gl0, Tryd.ntmps20, Tryd.results20]
    refine ⟨fun h => ?_, fun h => ?_⟩
    · have h := of_decide_eq_true h
      have hk' : k < t.ins.length := by omega
      have g1 := insD_get t.ins k hk'
      have hx := ht.ins _ (getD_memI hk')
      have hw : isWitL (slis (t.ins.getD k default).wit) := ⟨_, rfl, hx.wit, hx.many⟩
      have hfl := flat_le witI t.ins k hk'
      have hsn := flat_snoc witI t.ins k hk'
      have hwl : (witI (t.ins.getD k default)).length = (countI (t.ins.getD k default).wit.length).length + ((t.ins.getD k default).wit.flatMap textI).length := by simp only [witI, List.length_append]
      have hwe : witI (t.ins.getD k default) = countI (t.ins.getD k default).wit.length ++ (t.ins.getD k default).wit.flatMap textI := rfl
      simp (config := {dsimp := false}) only [↓vp0, vz, vn, nq, tys, cellD, wideIR, if_true, if_false, implies_true, forall_const, ne_eq, reduceIte, reduceCtorEq, Nat.reduceEqDiff, Nat.reduceAdd, Nat.reduceMul, Nat.reduceLT, Nat.reduceSub, Nat.reduceLeDiff, Nat.reduceBNe, Nat.reduceBEq, Nat.reduceBeqDiff, List.range, List.range.loop, gl0, Tryd.ntmps20, Tryd.results20, vb, Int.toNat_natCast, g1, inD, spec_layWit, sp_layWit, c_layWit, b_layWit]
      refine ⟨by omega, by omega, by simp only [List.length_append] at hne ⊢; omega, hw, by simp only [List.length_append]; omega, ⟨k + 1, by omega⟩, ⟨⟨wkD_eq ?_, rfl, wkD_eq rfl, rfl, wkD_eq rfl, rfl, wkD_eq ?_, rfl, wkD_eq rfl, rfl, wkD_eq rfl, rfl, trivial⟩, ⟨rfl, Nat.le_of_ble_eq_true rfl, rfl, trivial⟩, ⟨?_, Nat.le_of_ble_eq_true rfl, trivial⟩⟩, by (try simp only); omega⟩
      · exact some_i64 (by (try simp only); omega)
      · exact some_sli (by rw [hsn, hwe])
      · exact some_tok (by rw [hsn, hwe])
    · have h := of_decide_eq_false h
      obtain rfl : k = t.ins.length := by omega
      simp (config := {dsimp := false}) only [↓vp0, vz, vn, nq, tys, cellD, wideIR, if_true, if_false, implies_true, forall_const, ne_eq, reduceIte, reduceCtorEq, Nat.reduceEqDiff, Nat.reduceAdd, Nat.reduceMul, Nat.reduceLT, Nat.reduceSub, Nat.reduceLeDiff, Nat.reduceBNe, Nat.reduceBEq, Nat.reduceBeqDiff, List.range, List.range.loop, gl0, Tryd.ntmps20, Tryd.results20, retB, vb, u2, List.take_length, spec_num, sp_num, c_num, b_num]
      refine ⟨.inr ⟨rfl, rfl, by simp only [List.length_append, List.length_nil] at hne ⊢; omega⟩, .inl trivial, ht.lock.1, ht.lock.2, by simp only [List.length_append, List.length_nil]; omega, ?_⟩
      exact ⟨[], [136], [], ⟨rfl, rfl⟩, ⟨rfl, rfl⟩, ⟨by simp, by simp⟩, by simp, rfl, (show some [(_, 1)] = some [(_, 1)] from congrArg (fun n => some [(n, 1)]) (by rw [hf]; simp only [List.length_append, List.length_cons, List.length_nil, leI_len, t4]; omega)), ⟨_, rfl, rfl⟩, ⟨_, rfl, rfl⟩, by rw [hf]; simp only [List.append_assoc, List.cons_append, List.nil_append]; rfl⟩
end Go.Vi.TP
end

section
set_option linter.unusedVariables false
set_option linter.unusedSimpArgs false
set_option maxHeartbeats 0
set_option maxRecDepth 20000
namespace Go.Vi.TP
open Go.Proofs

theorem c_w1 : Contract E 27 := by
  refine contract_seeT hE hgl (show E.P.funcs[27]? = some Tryd.f27 from Tryd.func27) rfl (p := sp_w1) (fun _ _ _ => rfl) ?_
  intro args hv
  unfold sp_w1 at hv ⊢
  split at hv
  case h_2 => exact hv.elim
  rename_i p i s q w
  refine ⟨by simp, Nat.le_of_ble_eq_true rfl, ?_⟩
  simp (config := {dsimp := false}) only [↓vp0, vz, vn, nq, tys, cellD, wideIR, if_true, if_false, implies_true, forall_const, ne_eq, reduceIte, reduceCtorEq, Nat.reduceEqDiff, Nat.reduceAdd, Nat.reduceMul, Nat.reduceLT, Nat.reduceSub, Nat.reduceLeDiff, Nat.reduceBNe, Nat.reduceBEq, Nat.reduceBeqDiff, List.range, List.range.loop, gl0, Tryd.ntmps27, Tryd.results27]
  simp only [givesIf]
  congr 2
  exact propext (by omega)
theorem c_in1 : Contract E 41 := by
  refine contract_seeT hE hgl (show E.P.funcs[41]? = some Tryd.f41 from Tryd.func41) rfl (p := sp_in1) (fun _ _ _ => rfl) ?_
  intro args hv
  unfold sp_in1 at hv ⊢
  split at hv
  case h_2 => exact hv.elim
  rename_i s
  refine ⟨by simp, Nat.le_of_ble_eq_true rfl, ?_⟩
  simp (config := {dsimp := false}) only [↓vp0, vz, vn, nq, tys, cellD, wideIR, if_true, if_false, implies_true, forall_const, ne_eq, reduceIte, reduceCtorEq, Nat.reduceEqDiff, Nat.reduceAdd, Nat.reduceMul, Nat.reduceLT, Nat.reduceSub, Nat.reduceLeDiff, Nat.reduceBNe, Nat.reduceBEq, Nat.reduceBeqDiff, List.range, List.range.loop, gl0, Tryd.ntmps41, Tryd.results41]
  simp only [givesIf, longW]
  congr 2
  exact propext (by omega)
theorem c_tmany : Contract E 22 := by
  refine contract_seeT hE hgl (show E.P.funcs[22]? = some Tryd.f22 from Tryd.func22) rfl (p := sp_tmany) (fun _ _ _ => rfl) ?_
  intro args hv
  unfold sp_tmany at hv ⊢
  split at hv
  case h_2 => exact hv.elim
  rename_i n m
  refine ⟨by simp, Nat.le_of_ble_eq_true rfl, ?_⟩
  simp (config := {dsimp := false}) only [↓vp0, vz, vn, nq, tys, cellD, wideIR, if_true, if_false, implies_true, forall_const, ne_eq, reduceIte, reduceCtorEq, Nat.reduceEqDiff, Nat.reduceAdd, Nat.reduceMul, Nat.reduceLT, Nat.reduceSub, Nat.reduceLeDiff, Nat.reduceBNe, Nat.reduceBEq, Nat.reduceBeqDiff, List.range, List.range.loop, gl0, Tryd.ntmps22, Tryd.results22]
  simp only [gives, manyP, decide_eq_true_eq, decide_eq_false_iff_not]
  refine ⟨fun h => by rw [if_pos h], fun h => ⟨fun h2 => by rw [if_neg h, if_pos h2], fun h2 => by rw [if_neg h, if_neg h2]⟩⟩
theorem c_tout : Contract E 24 := by
  refine contract_seeT hE hgl (show E.P.funcs[24]? = some Tryd.f24 from Tryd.func24) rfl (p := sp_tout) (fun _ _ _ => rfl) ?_
  intro args hv
  unfold sp_tout at hv ⊢
  split at hv
  case h_2 => exact hv.elim
  rename_i v s
  refine ⟨by simp, Nat.le_of_ble_eq_true rfl, ?_⟩
  simp (config := {dsimp := false}) only [↓vp0, vz, vn, nq, tys, cellD, wideIR, if_true, if_false, implies_true, forall_const, ne_eq, reduceIte, reduceCtorEq, Nat.reduceEqDiff, Nat.reduceAdd, Nat.reduceMul, Nat.reduceLT, Nat.reduceSub, Nat.reduceLeDiff, Nat.reduceBNe, Nat.reduceBEq, Nat.reduceBeqDiff, List.range, List.range.loop, gl0, Tryd.ntmps24, Tryd.results24]
  simp only [givesIf]
  congr 2
  exact propext (by omega)
theorem idx_go {α : Type} [Inhabited α] (p : α → Bool) (l : List α) : (∀ k, k < l.length → (∀ j, j < k → p (l.getD j default) = false) → p (l.getD k default) = true → idxP p l = (k : Int)) ∧ ((∀ j, j < l.length → p (l.getD j default) = false) → idxP p l = -1) := by
  have hg : ∀ (i : Nat) (h : i < l.length), l.getD i default = l[i] := fun i h => by simp [List.getD, h]
  refine ⟨fun k hk hb hp => ?_, fun hb => ?_⟩
  · have : l.findIdx? p = some k := by
      rw [List.findIdx?_eq_some_iff_getElem]
      refine ⟨hk, by rw [← hg k hk]; exact hp, fun j hj => ?_⟩
      rw [← hg j (by omega), hb j hj]; decide
    simp only [idxP, this]
  · have : l.findIdx? p = none := by
      rw [List.findIdx?_eq_none_iff]
      intro x hx
      obtain ⟨i, h1, rfl⟩ := List.getElem_of_mem hx
      rw [← hg i h1]
      exact hb i h1
    simp only [idxP, this]
theorem idx_any {α : Type} (p : α → Bool) (l : List α) : decide (0 ≤ idxP p l) = l.any p := by
  cases h : l.findIdx? p with
  | none =>
    have h2 := List.findIdx?_eq_none_iff.1 h
    simp only [idxP, h]
    have : l.any p = false := List.any_eq_false.2 fun x hx => by rw [h2 x hx]; decide
    rw [this]; rfl
  | some k =>
    obtain ⟨h1, h2, _⟩ := List.findIdx?_eq_some_iff_getElem.1 h
    simp only [idxP, h]
    have : l.any p = true := List.any_eq_true.2 ⟨_, List.getElem_mem h1, h2⟩
    rw [this]; simp
theorem c_indexIn : Contract E 42 := by
  refine contract_seeT hE hgl (show E.P.funcs[42]? = some Tryd.f42 from Tryd.func42) rfl (p := (sp_indexIn 27)) (fun _ _ _ => rfl) ?_
  intro args hv
  unfold sp_indexIn at hv ⊢
  split at hv
  case h_2 => exact hv.elim
  rename_i es h
  refine ⟨by simp, Nat.le_of_ble_eq_true rfl, ?_⟩
  simp only [givesIf] at hv
  obtain ⟨rfl, l, rfl, hok, hl⟩ := hv
  obtain ⟨hI1, hI2⟩ := idx_go hasWit l
  simp (config := {dsimp := false}) only [↓vp0, vz, vn, nq, tys, cellD, wideIR, if_true, if_false, implies_true, forall_const, ne_eq, reduceIte, reduceCtorEq, Nat.reduceEqDiff, Nat.reduceAdd, Nat.reduceMul, Nat.reduceLT, Nat.reduceSub, Nat.reduceLeDiff, Nat.reduceBNe, Nat.reduceBEq, Nat.reduceBeqDiff, List.range, List.range.loop, gl0, Tryd.ntmps42, Tryd.results42]
  refine loopI {k : Nat // k ≤ l.length ∧ ∀ j, j < k → hasWit (l.getD j default) = false} (fun k => [(8, .int .i64 (k.1 : Nat)), (7, .int .i64 (l.length : Nat)), (0, .sl .no 36 (insD l)), (1, .fn 27 [])]) (fun _ => ⟨[], [], 16⟩) (fun k => l.length - k.1) ⟨0, by simp⟩ (fun _ => rfl) ?_ ?_
  · exact ⟨⟨wkD_eq rfl, rfl, wkD_eq rfl, rfl, wkD_eq rfl, rfl, wkD_eq rfl, rfl, trivial⟩, trivial, trivial⟩
  rintro ⟨k, hk, hb⟩
  simp (config := {dsimp := false}) only [↓vp0, vz, vn, nq, tys, cellD, wideIR, if_true, if_false, implies_true, forall_const, ne_eq, reduceIte, reduceCtorEq, Nat.reduceEqDiff, Nat.reduceAdd, Nat.reduceMul, Nat.reduceLT, Nat.reduceSub, Nat.reduceLeDiff, Nat.reduceBNe, Nat.reduceBEq, Nat.reduceBeqDiff, List.range, List.range.loop, gl0, Tryd.ntmps42, Tryd.results42]
  refine ⟨fun hh => ?_, fun hh => ?_⟩
  · have hh := of_decide_eq_true hh
    have hk' : k < l.length := by omega
    have g1 := insD_get l k hk'
    have hx := hok _ (getD_memI hk')
    cases hp : hasWit (l.getD k default)
    · have hq : decide (0 < (l.getD k default).wit.length) = false := hp
      simp (config := {dsimp := false}) only [↓vp0, vz, vn, nq, tys, cellD, wideIR, if_true, if_false, implies_true, forall_const, ne_eq, reduceIte, reduceCtorEq, Nat.reduceEqDiff, Nat.reduceAdd, Nat.reduceMul, Nat.reduceLT, Nat.reduceSub, Nat.reduceLeDiff, Nat.reduceBNe, Nat.reduceBEq, Nat.reduceBeqDiff, List.range, List.range.loop, gl0, Tryd.ntmps42, Tryd.results42, PF.toR, givesIf, Int.toNat_natCast, g1, inD, hq, spec_w1, sp_w1, c_w1, b_w1]
      refine ⟨by omega, by omega, hx.many, ⟨k + 1, by omega, fun j hj => ?_⟩, ⟨⟨wkD_eq ?_, rfl, wkD_eq rfl, rfl, wkD_eq rfl, rfl, wkD_eq rfl, rfl, trivial⟩, trivial, trivial⟩, by (try simp only); omega⟩
      · rcases Nat.lt_or_ge j k with h7 | h7
        · exact hb j h7
        · obtain rfl : j = k := by omega
          exact hp
      · exact some_i64 (by (try simp only); omega)
    · have hq : decide (0 < (l.getD k default).wit.length) = true := hp
      simp (config := {dsimp := false}) only [↓vp0, vz, vn, nq, tys, cellD, wideIR, if_true, if_false, implies_true, forall_const, ne_eq, reduceIte, reduceCtorEq, Nat.reduceEqDiff, Nat.reduceAdd, Nat.reduceMul, Nat.reduceLT, Nat.reduceSub, Nat.reduceLeDiff, Nat.reduceBNe, Nat.reduceBEq, Nat.reduceBeqDiff, List.range, List.range.loop, gl0, Tryd.ntmps42, Tryd.results42, PF.toR, givesIf, Int.toNat_natCast, g1, inD, hq, ins_D, hI1 k hk' hb hp, spec_w1, sp_w1, c_w1, b_w1]
      exact ⟨by omega, by omega, hx.many⟩
  · have hh := of_decide_eq_false hh
    obtain rfl : k = l.length := by omega
    simp (config := {dsimp := false}) only [↓vp0, vz, vn, nq, tys, cellD, wideIR, if_true, if_false, implies_true, forall_const, ne_eq, reduceIte, reduceCtorEq, Nat.reduceEqDiff, Nat.reduceAdd, Nat.reduceMul, Nat.reduceLT, Nat.reduceSub, Nat.reduceLeDiff, Nat.reduceBNe, Nat.reduceBEq, Nat.reduceBeqDiff, List.range, List.range.loop, gl0, Tryd.ntmps42, Tryd.results42, givesIf, ins_D, hI2 hb]
    all_goals rfl
theorem c_containsIn : Contract E 26 := by
  refine contract_seeT hE hgl (show E.P.funcs[26]? = some Tryd.f26 from Tryd.func26) rfl (p := (sp_containsIn 27)) (fun _ _ _ => rfl) ?_
  intro args hv
  unfold sp_containsIn at hv ⊢
  split at hv
  case h_2 => exact hv.elim
  rename_i es h
  refine ⟨by simp, Nat.le_of_ble_eq_true rfl, ?_⟩
  simp only [givesIf] at hv
  obtain ⟨rfl, l, rfl, hok, hl⟩ := hv
  simp (config := {dsimp := false}) only [↓vp0, vz, vn, nq, tys, cellD, wideIR, if_true, if_false, implies_true, forall_const, ne_eq, reduceIte, reduceCtorEq, Nat.reduceEqDiff, Nat.reduceAdd, Nat.reduceMul, Nat.reduceLT, Nat.reduceSub, Nat.reduceLeDiff, Nat.reduceBNe, Nat.reduceBEq, Nat.reduceBeqDiff, List.range, List.range.loop, gl0, Tryd.ntmps26, Tryd.results26, PF.toR, givesIf, ins_D, idx_any, spec_indexIn, sp_indexIn, c_indexIn, b_indexIn]
  exact ⟨_, rfl, hok, hl⟩
theorem c_twitnessed : Contract E 12 := by
  refine contract_seeT hE hgl (show E.P.funcs[12]? = some Tryd.f12 from Tryd.func12) rfl (p := sp_twitnessed) (fun _ _ _ => rfl) ?_
  intro args hv
  unfold sp_twitnessed at hv ⊢
  split at hv
  case h_2 => exact hv.elim
  rename_i v is os l
  refine ⟨by simp, Nat.le_of_ble_eq_true rfl, ?_⟩
  simp only [givesIf] at hv
  obtain ⟨t, rfl, rfl, rfl, rfl, ht, -⟩ := okT_tx hv
  simp (config := {dsimp := false}) only [↓vp0, vz, vn, nq, tys, cellD, wideIR, if_true, if_false, implies_true, forall_const, ne_eq, reduceIte, reduceCtorEq, Nat.reduceEqDiff, Nat.reduceAdd, Nat.reduceMul, Nat.reduceLT, Nat.reduceSub, Nat.reduceLeDiff, Nat.reduceBNe, Nat.reduceBEq, Nat.reduceBeqDiff, List.range, List.range.loop, gl0, Tryd.ntmps12, Tryd.results12, PF.toR, givesIf, spec_containsIn, sp_containsIn, c_containsIn, b_containsIn]
  exact ⟨_, rfl, ht.ins, ht.mi⟩
theorem c_indexB : Contract E 48 := by
  refine contract_seeT hE hgl (show E.P.funcs[48]? = some Tryd.f48 from Tryd.func48) rfl (p := (sp_indexB 41)) (fun _ _ _ => rfl) ?_
  intro args hv
  unfold sp_indexB at hv ⊢
  split at hv
  case h_2 => exact hv.elim
  rename_i es h
  refine ⟨by simp, Nat.le_of_ble_eq_true rfl, ?_⟩
  simp only [givesIf] at hv
  obtain ⟨rfl, l, rfl, hok, hl⟩ := hv
  obtain ⟨hI1, hI2⟩ := idx_go longW l
  simp (config := {dsimp := false}) only [↓vp0, vz, vn, nq, tys, cellD, wideIR, if_true, if_false, implies_true, forall_const, ne_eq, reduceIte, reduceCtorEq, Nat.reduceEqDiff, Nat.reduceAdd, Nat.reduceMul, Nat.reduceLT, Nat.reduceSub, Nat.reduceLeDiff, Nat.reduceBNe, Nat.reduceBEq, Nat.reduceBeqDiff, List.range, List.range.loop, gl0, Tryd.ntmps48, Tryd.results48]
  refine loopI {k : Nat // k ≤ l.length ∧ ∀ j, j < k → longW (l.getD j default) = false} (fun k => [(8, .int .i64 (k.1 : Nat)), (7, .int .i64 (l.length : Nat)), (0, .sl .no 1 (slis l)), (1, .fn 41 [])]) (fun _ => ⟨[], [], 16⟩) (fun k => l.length - k.1) ⟨0, by simp⟩ (fun _ => rfl) ?_ ?_
  · exact ⟨⟨wkD_eq rfl, rfl, wkD_eq rfl, rfl, wkD_eq rfl, rfl, wkD_eq rfl, rfl, trivial⟩, trivial, trivial⟩
  rintro ⟨k, hk, hb⟩
  simp (config := {dsimp := false}) only [↓vp0, vz, vn, nq, tys, cellD, wideIR, if_true, if_false, implies_true, forall_const, ne_eq, reduceIte, reduceCtorEq, Nat.reduceEqDiff, Nat.reduceAdd, Nat.reduceMul, Nat.reduceLT, Nat.reduceSub, Nat.reduceLeDiff, Nat.reduceBNe, Nat.reduceBEq, Nat.reduceBeqDiff, List.range, List.range.loop, gl0, Tryd.ntmps48, Tryd.results48]
  refine ⟨fun hh => ?_, fun hh => ?_⟩
  · have hh := of_decide_eq_true hh
    have hk' : k < l.length := by omega
    have g1 : (slis l).getD k .any = .sli .no .u8 (l.getD k default) := slis_get l k hk'
    have hx := hok _ (getD_memI hk')
    cases hp : longW (l.getD k default)
    · have hq : longW (l.getD k default) = false := hp
      simp (config := {dsimp := false}) only [↓vp0, vz, vn, nq, tys, cellD, wideIR, if_true, if_false, implies_true, forall_const, ne_eq, reduceIte, reduceCtorEq, Nat.reduceEqDiff, Nat.reduceAdd, Nat.reduceMul, Nat.reduceLT, Nat.reduceSub, Nat.reduceLeDiff, Nat.reduceBNe, Nat.reduceBEq, Nat.reduceBeqDiff, List.range, List.range.loop, gl0, Tryd.ntmps48, Tryd.results48, PF.toR, givesIf, Int.toNat_natCast, g1, hq, spec_in1, sp_in1, c_in1, b_in1]
      refine ⟨by omega, by omega, hx.2, ⟨k + 1, by omega, fun j hj => ?_⟩, ⟨⟨wkD_eq ?_, rfl, wkD_eq rfl, rfl, wkD_eq rfl, rfl, wkD_eq rfl, rfl, trivial⟩, trivial, trivial⟩, by (try simp only); omega⟩
      · rcases Nat.lt_or_ge j k with h7 | h7
        · exact hb j h7
        · obtain rfl : j = k := by omega
          exact hp
      · exact some_i64 (by (try simp only); omega)
    · have hq : longW (l.getD k default) = true := hp
      simp (config := {dsimp := false}) only [↓vp0, vz, vn, nq, tys, cellD, wideIR, if_true, if_false, implies_true, forall_const, ne_eq, reduceIte, reduceCtorEq, Nat.reduceEqDiff, Nat.reduceAdd, Nat.reduceMul, Nat.reduceLT, Nat.reduceSub, Nat.reduceLeDiff, Nat.reduceBNe, Nat.reduceBEq, Nat.reduceBeqDiff, List.range, List.range.loop, gl0, Tryd.ntmps48, Tryd.results48, PF.toR, givesIf, Int.toNat_natCast, g1, hq, ts_slis, hI1 k hk' hb hp, spec_in1, sp_in1, c_in1, b_in1]
      exact ⟨by omega, by omega, hx.2⟩
  · have hh := of_decide_eq_false hh
    obtain rfl : k = l.length := by omega
    simp (config := {dsimp := false}) only [↓vp0, vz, vn, nq, tys, cellD, wideIR, if_true, if_false, implies_true, forall_const, ne_eq, reduceIte, reduceCtorEq, Nat.reduceEqDiff, Nat.reduceAdd, Nat.reduceMul, Nat.reduceLT, Nat.reduceSub, Nat.reduceLeDiff, Nat.reduceBNe, Nat.reduceBEq, Nat.reduceBeqDiff, List.range, List.range.loop, gl0, Tryd.ntmps48, Tryd.results48, givesIf, ts_slis, hI2 hb]
    all_goals rfl
theorem c_containsB : Contract E 40 := by
  refine contract_seeT hE hgl (show E.P.funcs[40]? = some Tryd.f40 from Tryd.func40) rfl (p := (sp_containsB 41)) (fun _ _ _ => rfl) ?_
  intro args hv
  unfold sp_containsB at hv ⊢
  split at hv
  case h_2 => exact hv.elim
  rename_i es h
  refine ⟨by simp, Nat.le_of_ble_eq_true rfl, ?_⟩
  simp only [givesIf] at hv
  obtain ⟨rfl, l, rfl, hok, hl⟩ := hv
  simp (config := {dsimp := false}) only [↓vp0, vz, vn, nq, tys, cellD, wideIR, if_true, if_false, implies_true, forall_const, ne_eq, reduceIte, reduceCtorEq, Nat.reduceEqDiff, Nat.reduceAdd, Nat.reduceMul, Nat.reduceLT, Nat.reduceSub, Nat.reduceLeDiff, Nat.reduceBNe, Nat.reduceBEq, Nat.reduceBeqDiff, List.range, List.range.loop, gl0, Tryd.ntmps40, Tryd.results40, PF.toR, givesIf, ts_slis, idx_any, spec_indexB, sp_indexB, c_indexB, b_indexB]
  exact ⟨_, rfl, hok, hl⟩
theorem c_tin : Contract E 23 := by
  refine contract_seeT hE hgl (show E.P.funcs[23]? = some Tryd.f23 from Tryd.func23) rfl (p := sp_tin) (fun _ _ _ => rfl) ?_
  intro args hv
  unfold sp_tin at hv ⊢
  split at hv
  case h_2 => exact hv.elim
  rename_i p i s q w
  refine ⟨by simp, Nat.le_of_ble_eq_true rfl, ?_⟩
  simp only [givesIf] at hv
  obtain ⟨⟨l, rfl, hok, hl⟩, hs⟩ := hv
  have d1 : decide ((s.length : Int) ≤ 128) = decide (s.length ≤ 128) := by congr 1; exact propext (by omega)
  have d2 : decide ((l.length : Int) ≤ 8) = decide (l.length ≤ 8) := by congr 1; exact propext (by omega)
  have hw : isWitL (slis l) := ⟨_, rfl, hok, hl⟩
  cases h1 : decide (s.length ≤ 128) <;> cases h2 : decide (l.length ≤ 8)
  all_goals simp (config := {dsimp := false}) only [↓vp0, vz, vn, nq, tys, cellD, wideIR, if_true, if_false, implies_true, forall_const, ne_eq, reduceIte, reduceCtorEq, Nat.reduceEqDiff, Nat.reduceAdd, Nat.reduceMul, Nat.reduceLT, Nat.reduceSub, Nat.reduceLeDiff, Nat.reduceBNe, Nat.reduceBEq, Nat.reduceBeqDiff, List.range, List.range.loop, gl0, Tryd.ntmps23, Tryd.results23, PF.toR, givesIf, d1, d2, h1, h2, spec_containsB, sp_containsB, c_containsB, b_containsB]
  exact hw
theorem check_1 {t : TxP} (h : ¬ manyP t.ins.length 16 = 0) : checkP t = manyP t.ins.length 16 := by unfold checkP; rw [if_pos h]
theorem check_2 {t : TxP} (h : manyP t.ins.length 16 = 0) (h2 : ¬ manyP t.outs.length 16 = 0) : checkP t = manyP t.outs.length 16 := by unfold checkP; rw [if_neg (by simp [h]), if_pos h2]
theorem check_3 {t : TxP} (h : manyP t.ins.length 16 = 0) (h2 : manyP t.outs.length 16 = 0) {x : InP} (hx : x ∈ t.ins) (hb : inOkP x = false) : checkP t = 3 := by
  unfold checkP
  rw [if_neg (by simp [h]), if_neg (by simp [h2]), if_pos (List.all_eq_false.2 ⟨x, hx, by rw [hb]; decide⟩)]
theorem check_4 {t : TxP} (h : manyP t.ins.length 16 = 0) (h2 : manyP t.outs.length 16 = 0) (hi : ∀ j, j < t.ins.length → inOkP (t.ins.getD j default) = true) {x : OutP} (hx : x ∈ t.outs) (hb : outOkP x = false) : checkP t = 3 := by
  unfold checkP
  rw [if_neg (by simp [h]), if_neg (by simp [h2]), if_neg, if_pos (List.all_eq_false.2 ⟨x, hx, by rw [hb]; decide⟩)]
  rw [List.all_eq_true.2 fun x hx => by
    obtain ⟨i, h1, rfl⟩ := List.getElem_of_mem hx
    have := hi i h1
    simpa [List.getD, h1] using this]
  decide
theorem check_5 {t : TxP} (h : manyP t.ins.length 16 = 0) (h2 : manyP t.outs.length 16 = 0) (hi : ∀ j, j < t.ins.length → inOkP (t.ins.getD j default) = true) (ho : ∀ j, j < t.outs.length → outOkP (t.outs.getD j default) = true) : checkP t = 0 := by
  unfold checkP
  rw [if_neg (by simp [h]), if_neg (by simp [h2]), if_neg, if_neg]
  · rw [List.all_eq_true.2 fun x hx => by
      obtain ⟨i, h1, rfl⟩ := List.getElem_of_mem hx
      have := ho i h1
      simpa [List.getD, h1] using this]
    decide
  · rw [List.all_eq_true.2 fun x hx => by
      obtain ⟨i, h1, rfl⟩ := List.getElem_of_mem hx
      have := hi i h1
      simpa [List.getD, h1] using this]
    decide
theorem c_tcheck : Contract E 10 := by
  refine contract_seeT hE hgl (show E.P.funcs[10]? = some Tryd.f10 from Tryd.func10) rfl (p := sp_tcheck) (fun _ _ _ => rfl) ?_
  intro args hv
  unfold sp_tcheck at hv ⊢
  split at hv
  case h_2 => exact hv.elim
  rename_i v is os l
  refine ⟨by simp, Nat.le_of_ble_eq_true rfl, ?_⟩
  simp only [givesIf] at hv
  obtain ⟨t, rfl, rfl, rfl, rfl, ht, he⟩ := okT_tx hv
  have hmi := ht.mi
  have hmo := ht.mo
  have eta : (⟨t.ver, t.ins, t.outs, t.lock⟩ : TxP) = t := rfl
  by_cases h1 : manyP t.ins.length 16 = 0
  case neg => simp (config := {dsimp := false}) only [↓vp0, vz, vn, nq, tys, cellD, wideIR, if_true, if_false, implies_true, forall_const, ne_eq, reduceIte, reduceCtorEq, Nat.reduceEqDiff, Nat.reduceAdd, Nat.reduceMul, Nat.reduceLT, Nat.reduceSub, Nat.reduceLeDiff, Nat.reduceBNe, Nat.reduceBEq, Nat.reduceBeqDiff, List.range, List.range.loop, gl0, Tryd.ntmps10, Tryd.results10, PF.toR, givesIf, gives, h1, decide_false, eta, check_1 h1, spec_tmany, sp_tmany, c_tmany, b_tmany]
  by_cases h2 : manyP t.outs.length 16 = 0
  case neg => simp (config := {dsimp := false}) only [↓vp0, vz, vn, nq, tys, cellD, wideIR, if_true, if_false, implies_true, forall_const, ne_eq, reduceIte, reduceCtorEq, Nat.reduceEqDiff, Nat.reduceAdd, Nat.reduceMul, Nat.reduceLT, Nat.reduceSub, Nat.reduceLeDiff, Nat.reduceBNe, Nat.reduceBEq, Nat.reduceBeqDiff, List.range, List.range.loop, gl0, Tryd.ntmps10, Tryd.results10, PF.toR, givesIf, gives, h1, h2, eq_self, decide_true, decide_false, eta, check_2 h1 h2, spec_tmany, sp_tmany, c_tmany, b_tmany]
  simp (config := {dsimp := false}) only [↓vp0, vz, vn, nq, tys, cellD, wideIR, if_true, if_false, implies_true, forall_const, ne_eq, reduceIte, reduceCtorEq, Nat.reduceEqDiff, Nat.reduceAdd, Nat.reduceMul, Nat.reduceLT, Nat.reduceSub, Nat.reduceLeDiff, Nat.reduceBNe, Nat.reduceBEq, Nat.reduceBeqDiff, List.range, List.range.loop, gl0, Tryd.ntmps10, Tryd.results10, PF.toR, givesIf, gives, h1, h2, eq_self, decide_true, eta, spec_tmany, sp_tmany, c_tmany, b_tmany]
  refine loopI {k : Nat // k ≤ t.ins.length ∧ ∀ j, j < k → inOkP (t.ins.getD j default) = true} (fun k => [(26, .int .i64 (k.1 : Nat)), (25, .int .i64 (t.ins.length : Nat)), (24, .sl .no 36 (insD t.ins)), (1, .bp 0 0)]) (fun _ => ⟨[(0, .agg [.int .u32 t.ver, .sl .no 36 (insD t.ins), .sl .no 2 (outsD t.outs), .int .u32 t.lock])], [], 80⟩) (fun k => t.ins.length - k.1) ⟨0, by simp⟩ (fun _ => rfl) ?_ ?_
  · exact ⟨⟨wkD_eq rfl, rfl, wkD_eq rfl, rfl, wkD_eq rfl, rfl, wkD_eq rfl, rfl, trivial⟩, ⟨rfl, Nat.le_of_ble_eq_true rfl, rfl, trivial⟩, trivial⟩
  rintro ⟨k, hk, hb⟩
  simp (config := {dsimp := false}) only [↓vp0, vz, vn, nq, tys, cellD, wideIR, if_true, if_false, implies_true, forall_const, ne_eq, reduceIte, reduceCtorEq, Nat.reduceEqDiff, Nat.reduceAdd, Nat.reduceMul, Nat.reduceLT, Nat.reduceSub, Nat.reduceLeDiff, Nat.reduceBNe, Nat.reduceBEq, Nat.reduceBeqDiff, List.range, List.range.loop, gl0, Tryd.ntmps10, Tryd.results10]
  refine ⟨fun hh => ?_, fun hh => ?_⟩
  · have hh := of_decide_eq_true hh
    have hk' : k < t.ins.length := by omega
    have g1 := insD_get t.ins k hk'
    have hx := ht.ins _ (getD_memI hk')
    have hw : isWitL (slis (t.ins.getD k default).wit) := ⟨_, rfl, hx.wit, hx.many⟩
    cases hp : inOkP (t.ins.getD k default)
    · have hq : (decide ((t.ins.getD k default).script.length ≤ 128) && (decide ((t.ins.getD k default).wit.length ≤ 8) && !(t.ins.getD k default).wit.any longW)) = false := hp
      simp (config := {dsimp := false}) only [↓vp0, vz, vn, nq, tys, cellD, wideIR, if_true, if_false, implies_true, forall_const, ne_eq, reduceIte, reduceCtorEq, Nat.reduceEqDiff, Nat.reduceAdd, Nat.reduceMul, Nat.reduceLT, Nat.reduceSub, Nat.reduceLeDiff, Nat.reduceBNe, Nat.reduceBEq, Nat.reduceBeqDiff, List.range, List.range.loop, gl0, Tryd.ntmps10, Tryd.results10, PF.toR, givesIf, Int.toNat_natCast, g1, inD, hq, check_3 h1 h2 (getD_memI hk') hp, spec_tin, sp_tin, c_tin, b_tin]
      exact ⟨by omega, by omega, hw, hx.script.2⟩
    · have hq : (decide ((t.ins.getD k default).script.length ≤ 128) && (decide ((t.ins.getD k default).wit.length ≤ 8) && !(t.ins.getD k default).wit.any longW)) = true := hp
      simp (config := {dsimp := false}) only [↓vp0, vz, vn, nq, tys, cellD, wideIR, if_true, if_false, implies_true, forall_const, ne_eq, reduceIte, reduceCtorEq, Nat.reduceEqDiff, Nat.reduceAdd, Nat.reduceMul, Nat.reduceLT, Nat.reduceSub, Nat.reduceLeDiff, Nat.reduceBNe, Nat.reduceBEq, Nat.reduceBeqDiff, List.range, List.range.loop, gl0, Tryd.ntmps10, Tryd.results10, PF.toR, givesIf, Int.toNat_natCast, g1, inD, hq, spec_tin, sp_tin, c_tin, b_tin]
      refine ⟨by omega, by omega, hw, hx.script.2, ⟨k + 1, by omega, fun j hj => ?_⟩, ⟨⟨wkD_eq ?_, rfl, wkD_eq rfl, rfl, wkD_eq rfl, rfl, wkD_eq rfl, rfl, trivial⟩, ⟨rfl, Nat.le_of_ble_eq_true rfl, rfl, trivial⟩, trivial⟩, by (try simp only); omega⟩
      · rcases Nat.lt_or_ge j k with h7 | h7
        · exact hb j h7
        · obtain rfl : j = k := by omega
          exact hp
      · exact some_i64 (by (try simp only); omega)
  have hh := of_decide_eq_false hh
  obtain rfl : k = t.ins.length := by omega
  have hbi := hb
  refine loopI {k : Nat // k ≤ t.outs.length ∧ ∀ j, j < k → outOkP (t.outs.getD j default) = true} (fun k => [(37, .int .i64 (k.1 : Nat)), (36, .int .i64 (t.outs.length : Nat)), (35, .sl .no 2 (outsD t.outs)), (1, .bp 0 0)]) (fun _ => ⟨[(0, .agg [.int .u32 t.ver, .sl .no 36 (insD t.ins), .sl .no 2 (outsD t.outs), .int .u32 t.lock])], [], 100⟩) (fun k => t.outs.length - k.1) ⟨0, by simp⟩ (fun _ => rfl) ?_ ?_
  · exact ⟨⟨wkD_eq rfl, rfl, wkD_eq rfl, rfl, wkD_eq rfl, rfl, wkD_eq rfl, rfl, trivial⟩, ⟨rfl, Nat.le_of_ble_eq_true rfl, rfl, trivial⟩, trivial⟩
  rintro ⟨k, hk, hb⟩
  simp (config := {dsimp := false}) only [↓vp0, vz, vn, nq, tys, cellD, wideIR, if_true, if_false, implies_true, forall_const, ne_eq, reduceIte, reduceCtorEq, Nat.reduceEqDiff, Nat.reduceAdd, Nat.reduceMul, Nat.reduceLT, Nat.reduceSub, Nat.reduceLeDiff, Nat.reduceBNe, Nat.reduceBEq, Nat.reduceBeqDiff, List.range, List.range.loop, gl0, Tryd.ntmps10, Tryd.results10]
  refine ⟨fun hh => ?_, fun hh => ?_⟩
  · have hh := of_decide_eq_true hh
    have hk' : k < t.outs.length := by omega
    have g1 := outsD_get t.outs k hk'
    have hx := ht.outs _ (getD_memI hk')
    skip
    cases hp : outOkP (t.outs.getD k default)
    · have hq : decide ((t.outs.getD k default).script.length ≤ 128) = false := hp
      simp (config := {dsimp := false}) only [↓vp0, vz, vn, nq, tys, cellD, wideIR, if_true, if_false, implies_true, forall_const, ne_eq, reduceIte, reduceCtorEq, Nat.reduceEqDiff, Nat.reduceAdd, Nat.reduceMul, Nat.reduceLT, Nat.reduceSub, Nat.reduceLeDiff, Nat.reduceBNe, Nat.reduceBEq, Nat.reduceBeqDiff, List.range, List.range.loop, gl0, Tryd.ntmps10, Tryd.results10, PF.toR, givesIf, Int.toNat_natCast, g1, outD, hq, check_4 h1 h2 hbi (getD_memI hk') hp, spec_tout, sp_tout, c_tout, b_tout]
      exact ⟨by omega, by omega, hx.script.2⟩
    · have hq : decide ((t.outs.getD k default).script.length ≤ 128) = true := hp
      simp (config := {dsimp := false}) only [↓vp0, vz, vn, nq, tys, cellD, wideIR, if_true, if_false, implies_true, forall_const, ne_eq, reduceIte, reduceCtorEq, Nat.reduceEqDiff, Nat.reduceAdd, Nat.reduceMul, Nat.reduceLT, Nat.reduceSub, Nat.reduceLeDiff, Nat.reduceBNe, Nat.reduceBEq, Nat.reduceBeqDiff, List.range, List.range.loop, gl0, Tryd.ntmps10, Tryd.results10, PF.toR, givesIf, Int.toNat_natCast, g1, outD, hq, spec_tout, sp_tout, c_tout, b_tout]
      refine ⟨by omega, by omega, hx.script.2, ⟨k + 1, by omega, fun j hj => ?_⟩, ⟨⟨wkD_eq ?_, rfl, wkD_eq rfl, rfl, wkD_eq rfl, rfl, wkD_eq rfl, rfl, trivial⟩, ⟨rfl, Nat.le_of_ble_eq_true rfl, rfl, trivial⟩, trivial⟩, by (try simp only); omega⟩
      · rcases Nat.lt_or_ge j k with h7 | h7
        · exact hb j h7
        · obtain rfl : j = k := by omega
          exact hp
      · exact some_i64 (by (try simp only); omega)
  have hh := of_decide_eq_false hh
  obtain rfl : k = t.outs.length := by omega
  simp (config := {dsimp := false}) only [↓vp0, vz, vn, nq, tys, cellD, wideIR, if_true, if_false, implies_true, forall_const, ne_eq, reduceIte, reduceCtorEq, Nat.reduceEqDiff, Nat.reduceAdd, Nat.reduceMul, Nat.reduceLT, Nat.reduceSub, Nat.reduceLeDiff, Nat.reduceBNe, Nat.reduceBEq, Nat.reduceBeqDiff, List.range, List.range.loop, gl0, Tryd.ntmps10, Tryd.results10, check_5 h1 h2 hbi hb]
  all_goals rfl
end Go.Vi.TP
end

section
set_option linter.unusedVariables false
set_option linter.unusedSimpArgs false
set_option maxHeartbeats 0
set_option maxRecDepth 20000
namespace Go.Vi.TP
open Go.Proofs

theorem u64_ge (n : Int) : 0 ≤ IntKind.wrap .u64 n := by rw [IntKind.wrap_u64]; omega
theorem turnedI_take (x : Int) (ns : List Int) (i : Nat) (h : i < ns.length) : turnedI x (ns.take (i + 1)) = xorI .u32 (turnedI x (ns.take i)) (rotl x (IntKind.wrap .i64 (-(ns[i]?.getD 0)))) := by
  unfold turnedI
  rw [List.take_add_one, List.foldl_append]
  simp [h]
theorem hexVal_at (i : Nat) (h : i < 16) : hexVal (byteAt hexT i) = i := by
  have : ∀ i : Fin 16, hexVal (byteAt hexT (i.1 : Nat)) = i.1 := by decide
  exact this ⟨i, h⟩
theorem hexVal_none (c : Int) (h : ∀ j : Nat, j < 16 → byteAt hexT j ≠ c) : hexVal c = -1 := by
  unfold hexVal
  split
  · exfalso
    have : c = 48 ∨ c = 49 ∨ c = 50 ∨ c = 51 ∨ c = 52 ∨ c = 53 ∨ c = 54 ∨ c = 55 ∨ c = 56 ∨ c = 57 := by omega
    rcases this with rfl | rfl | rfl | rfl | rfl | rfl | rfl | rfl | rfl | rfl
    · exact h 0 (by omega) (by decide)
    · exact h 1 (by omega) (by decide)
    · exact h 2 (by omega) (by decide)
    · exact h 3 (by omega) (by decide)
    · exact h 4 (by omega) (by decide)
    · exact h 5 (by omega) (by decide)
    · exact h 6 (by omega) (by decide)
    · exact h 7 (by omega) (by decide)
    · exact h 8 (by omega) (by decide)
    · exact h 9 (by omega) (by decide)
  · split
    · exfalso
      have : c = 97 ∨ c = 98 ∨ c = 99 ∨ c = 100 ∨ c = 101 ∨ c = 102 := by omega
      rcases this with rfl | rfl | rfl | rfl | rfl | rfl
      · exact h 10 (by omega) (by decide)
      · exact h 11 (by omega) (by decide)
      · exact h 12 (by omega) (by decide)
      · exact h 13 (by omega) (by decide)
      · exact h 14 (by omega) (by decide)
      · exact h 15 (by omega) (by decide)
    · rfl
theorem c_first : Contract E 58 := by
  refine contract_seeT hE hgl (show E.P.funcs[58]? = some Tryd.f58 from Tryd.func58) rfl (p := sp_first) (fun _ _ _ => rfl) ?_
  intro args hv
  unfold sp_first at hv ⊢
  split at hv
  case h_2 => exact hv.elim
  refine ⟨by simp, by simp, ?_⟩
  simp (config := {dsimp := false}) only [↓vp0, vz, vn, nq, tys, cellD, wideIR, if_true, if_false, implies_true, forall_const, ne_eq, reduceIte, reduceCtorEq, Nat.reduceEqDiff, Nat.reduceAdd, Nat.reduceMul, Nat.reduceLT, Nat.reduceSub, Nat.reduceLeDiff, Nat.reduceBNe, Nat.reduceBEq, Nat.reduceBeqDiff, List.range, List.range.loop, gl0, Tryd.ntmps58, Tryd.results58, gives, u32s, h0]
theorem c_plus : Contract E 68 := by
  refine contract_seeT hE hgl (show E.P.funcs[68]? = some Tryd.f68 from Tryd.func68) rfl (p := sp_plus) (fun _ _ _ => rfl) ?_
  intro args hv
  unfold sp_plus at hv ⊢
  split at hv
  case h_2 => exact hv.elim
  refine ⟨by simp, Nat.le_of_ble_eq_true rfl, ?_⟩
  simp (config := {dsimp := false}) only [↓vp0, vz, vn, nq, tys, cellD, wideIR, if_true, if_false, implies_true, forall_const, ne_eq, reduceIte, reduceCtorEq, Nat.reduceEqDiff, Nat.reduceAdd, Nat.reduceMul, Nat.reduceLT, Nat.reduceSub, Nat.reduceLeDiff, Nat.reduceBNe, Nat.reduceBEq, Nat.reduceBeqDiff, List.range, List.range.loop, gl0, Tryd.ntmps68, Tryd.results68]
  rfl
theorem c_rotl : Contract E 71 := by
  refine contract_seeT hE hgl (show E.P.funcs[71]? = some Tryd.f71 from Tryd.func71) rfl (p := sp_rotl) (fun _ _ _ => rfl) ?_
  intro args hv
  unfold sp_rotl at hv ⊢
  split at hv
  case h_2 => exact hv.elim
  refine ⟨by simp, Nat.le_of_ble_eq_true rfl, ?_⟩
  simp (config := {dsimp := false}) only [↓vp0, vz, vn, nq, tys, cellD, wideIR, if_true, if_false, implies_true, forall_const, ne_eq, reduceIte, reduceCtorEq, Nat.reduceEqDiff, Nat.reduceAdd, Nat.reduceMul, Nat.reduceLT, Nat.reduceSub, Nat.reduceLeDiff, Nat.reduceBNe, Nat.reduceBEq, Nat.reduceBeqDiff, List.range, List.range.loop, gl0, Tryd.ntmps71, Tryd.results71]
  exact ⟨u64_ge _, u64_ge _, rfl⟩
theorem c_turned : Contract E 70 := by
  refine contract_seeT hE hgl (show E.P.funcs[70]? = some Tryd.f70 from Tryd.func70) rfl (p := sp_turned) (fun _ _ _ => rfl) ?_
  intro args hv
  unfold sp_turned at hv ⊢
  split at hv
  case h_2 => exact hv.elim
  rename_i x ns
  refine ⟨by simp, Nat.le_of_ble_eq_true rfl, ?_⟩
  simp (config := {dsimp := false}) only [↓vp0, vz, vn, nq, tys, cellD, wideIR, if_true, if_false, implies_true, forall_const, ne_eq, reduceIte, reduceCtorEq, Nat.reduceEqDiff, Nat.reduceAdd, Nat.reduceMul, Nat.reduceLT, Nat.reduceSub, Nat.reduceLeDiff, Nat.reduceBNe, Nat.reduceBEq, Nat.reduceBeqDiff, List.range, List.range.loop, gl0, Tryd.ntmps70, Tryd.results70]
  refine loopI (Fin (ns.length + 1)) (fun i => [(4, .int .u32 (turnedI x (ns.take i))), (0, .int .u32 x), (7, .sli .no .i64 ns), (8, .int .i64 ns.length), (9, .int .i64 (i : Nat))]) (fun _ => ⟨[], [], 16⟩) (fun i => ns.length - i) 0 (fun _ => rfl) ?_ ?_
  · simp [Wk, wkSl, wkD, wkBs, wkTs, look, D.under, underO, turnedI]
  intro i
  simp (config := {dsimp := false}) only [↓vp0, vz, vn, nq, tys, cellD, wideIR, if_true, if_false, implies_true, forall_const, ne_eq, reduceIte, reduceCtorEq, Nat.reduceEqDiff, Nat.reduceAdd, Nat.reduceMul, Nat.reduceLT, Nat.reduceSub, Nat.reduceLeDiff, Nat.reduceBNe, Nat.reduceBEq, Nat.reduceBeqDiff, List.range, List.range.loop, gl0, Tryd.ntmps70, Tryd.results70, PF.toR, gives, spec_rotl, sp_rotl, c_rotl, b_rotl]
  obtain ⟨i, hi⟩ := i
  simp only [givesIf] at hv
  refine ⟨fun h => ?_, fun h => ?_⟩
  · have h := of_decide_eq_true h
    simp only at h
    refine ⟨by simp, h, ⟨i + 1, by omega⟩, ?_, by simp only; omega⟩
    simp [Wk, wkSl, wkD, wkBs, wkTs, look, D.under, underO, turnedI_take x ns i (by omega), IntWalk.i64_in ((i : Int) + 1) (by omega)]
  · have h := of_decide_eq_false h
    simp only at h
    change D.int .u32 (turnedI x (ns.take i)) = D.int .u32 (turnedI x ns)
    rw [List.take_of_length_le (by omega)]
theorem c_round : Contract E 67 := by
  refine contract_seeT hE hgl (show E.P.funcs[67]? = some Tryd.f67 from Tryd.func67) rfl (p := sp_round) (fun _ _ _ => rfl) ?_
  intro args hv
  unfold sp_round at hv ⊢
  split at hv
  case h_2 => exact hv.elim
  refine ⟨by simp, Nat.le_of_ble_eq_true rfl, ?_⟩
  simp (config := {dsimp := false}) only [↓vp0, vz, vn, nq, tys, cellD, wideIR, if_true, if_false, implies_true, forall_const, ne_eq, reduceIte, reduceCtorEq, Nat.reduceEqDiff, Nat.reduceAdd, Nat.reduceMul, Nat.reduceLT, Nat.reduceSub, Nat.reduceLeDiff, Nat.reduceBNe, Nat.reduceBEq, Nat.reduceBeqDiff, List.range, List.range.loop, gl0, Tryd.ntmps67, Tryd.results67]
  refine drawI [2, 4, 1] (by kernel_rfl) ?_
  simp (config := {dsimp := false}) only [↓vp0, vz, vn, nq, tys, cellD, wideIR, if_true, if_false, implies_true, forall_const, ne_eq, reduceIte, reduceCtorEq, Nat.reduceEqDiff, Nat.reduceAdd, Nat.reduceMul, Nat.reduceLT, Nat.reduceSub, Nat.reduceLeDiff, Nat.reduceBNe, Nat.reduceBEq, Nat.reduceBeqDiff, List.range, List.range.loop, gl0, Tryd.ntmps67, Tryd.results67, PF.toR, givesIf, spec_turned, sp_turned, c_turned, b_turned]
  refine drawI [2, 4, 5] (by kernel_rfl) ?_
  simp (config := {dsimp := false}) only [↓vp0, vz, vn, nq, tys, cellD, wideIR, if_true, if_false, implies_true, forall_const, ne_eq, reduceIte, reduceCtorEq, Nat.reduceEqDiff, Nat.reduceAdd, Nat.reduceMul, Nat.reduceLT, Nat.reduceSub, Nat.reduceLeDiff, Nat.reduceBNe, Nat.reduceBEq, Nat.reduceBeqDiff, List.range, List.range.loop, gl0, Tryd.ntmps67, Tryd.results67, PF.toR, givesIf, spec_turned, sp_turned, c_turned, b_turned]
  rfl
theorem be_take (n : Int) (i : Nat) (h : i < 8) : (beBytes n).take (i + 1) = (beBytes n).take i ++ [IntKind.wrap .u8 (shrI .u64 (shlI .u64 (IntKind.wrap .u64 n) 3) (56 - 8 * (i : Int)))] := by
  match i, h with
  | 0, _ => rfl
  | 1, _ => rfl
  | 2, _ => rfl
  | 3, _ => rfl
  | 4, _ => rfl
  | 5, _ => rfl
  | 6, _ => rfl
  | 7, _ => rfl
theorem c_closing : Contract E 63 := by
  refine contract_seeT hE hgl (show E.P.funcs[63]? = some Tryd.f63 from Tryd.func63) rfl (p := sp_closing) (fun _ _ _ => rfl) ?_
  intro args hv
  unfold sp_closing at hv ⊢
  split at hv
  case h_2 => exact hv.elim
  rename_i n
  refine ⟨by simp, Nat.le_of_ble_eq_true rfl, ?_⟩
  simp (config := {dsimp := false}) only [↓vp0, vz, vn, nq, tys, cellD, wideIR, if_true, if_false, implies_true, forall_const, ne_eq, reduceIte, reduceCtorEq, Nat.reduceEqDiff, Nat.reduceAdd, Nat.reduceMul, Nat.reduceLT, Nat.reduceSub, Nat.reduceLeDiff, Nat.reduceBNe, Nat.reduceBEq, Nat.reduceBeqDiff, List.range, List.range.loop, gl0, Tryd.ntmps63, Tryd.results63]
  simp only [givesIf] at hv
  have hm : n.tmod 64 = n % 64 := Int.tmod_eq_emod_of_nonneg hv.1
  have hp : (IntKind.wrap .i64 (119 - n.tmod 64)).tmod 64 = (119 - n % 64) % 64 := by
    rw [hm, IntWalk.i64_in _ (by omega), Int.tmod_eq_emod_of_nonneg (by omega)]
  have hpad : ((IntKind.wrap .i64 (119 - n.tmod 64)).tmod 64).toNat = pad n := by rw [hp]; rfl
  have hp0 : 0 ≤ (IntKind.wrap .i64 (119 - n.tmod 64)).tmod 64 := by rw [hp]; omega
  have hp1 : pad n < 64 := by unfold pad; omega
  rw [hpad]
  refine ⟨by decide, by decide, by simp; omega, fun kk m e => by cases e; exact hp0, ?_⟩
  refine loopI (Fin 9) (fun i => [(5, .int .i64 (56 - 8 * (i.1 : Int))), (4, .sli (.tok 32) .u8 (128 :: List.replicate (pad n) 0 ++ (beBytes n).take i.1)), (0, .int .i64 n)]) (fun i => ⟨[], [(32, (1 + pad n + i.1, 1))], 44⟩) (fun i => 8 - i.1) 0 (fun _ => rfl) ?_ ?_
  · simp [Wk, wkSl, wkD, wkBs, wkTs, look, D.under, underO, S.tok]
  rintro ⟨i, hi⟩
  simp (config := {dsimp := false}) only [↓vp0, vz, vn, nq, tys, cellD, wideIR, if_true, if_false, implies_true, forall_const, ne_eq, reduceIte, reduceCtorEq, Nat.reduceEqDiff, Nat.reduceAdd, Nat.reduceMul, Nat.reduceLT, Nat.reduceSub, Nat.reduceLeDiff, Nat.reduceBNe, Nat.reduceBEq, Nat.reduceBeqDiff, List.range, List.range.loop, gl0, Tryd.ntmps63, Tryd.results63]
  have hbl : (beBytes n).length = 8 := rfl
  refine ⟨fun h => ?_, fun h => ?_⟩
  · have h := of_decide_eq_true h
    have hi8 : i < 8 := by omega
    have hlen : (List.replicate (pad n) (0 : Int) ++ (beBytes n).take i).length = pad n + i := by simp; omega
    refine ⟨by decide, h, by rw [hlen]; simp; omega, by rw [hlen]; omega, ⟨i + 1, by omega⟩, ?_, by simp only; omega⟩
    have e1 : IntKind.wrap .i64 (56 - 8 * (i : Int) - 8) = 56 - 8 * ((i : Int) + 1) := by rw [IntWalk.i64_in _ (by omega)]; omega
    simp [Wk, wkSl, wkD, wkBs, wkTs, look, D.under, underO, S.tok, e1, be_take n i hi8]
    omega
  · have h := of_decide_eq_false h
    obtain rfl : i = 8 := by omega
    rfl
end Go.Vi.TP
end

section
set_option linter.unusedVariables false
set_option linter.unusedSimpArgs false
set_option maxHeartbeats 0
set_option maxRecDepth 20000
namespace Go.Vi.TP
open Go.Proofs

theorem c_numbers : Contract E 66 := by
  refine contract_boxT hE hgl (show E.P.funcs[66]? = some Tryd.f66 from Tryd.func66) rfl (p := (sp_numbers 69)) (fun _ _ _ => rfl) ?_
  intro args ds tv hv hdl htl
  unfold sp_numbers at hv ⊢
  split at hv
  case h_2 => exact hv.elim
  rename_i b
  refine ⟨by simp, Nat.le_of_ble_eq_true rfl, ?_⟩
  simp (config := {dsimp := false}) only [↓vp0, vz, vn, nq, tys, cellD, wideIR, if_true, if_false, implies_true, forall_const, ne_eq, reduceIte, reduceCtorEq, Nat.reduceEqDiff, Nat.reduceAdd, Nat.reduceMul, Nat.reduceLT, Nat.reduceSub, Nat.reduceLeDiff, Nat.reduceBNe, Nat.reduceBEq, Nat.reduceBeqDiff, List.range, List.range.loop, gl0, Tryd.ntmps66, Tryd.results66, retB, vb]
  exact ⟨[20, 8, 16], [], [], ⟨rfl, rfl⟩, ⟨rfl, rfl⟩, ⟨by decide, by decide⟩, by simp, rfl, rfl, ⟨_, rfl, rfl⟩, ⟨_, rfl, rfl⟩, id rfl⟩
theorem c_next : Contract E 69 := by
  refine contract_boxT hE hgl (show E.P.funcs[69]? = some Tryd.f69 from Tryd.func69) rfl (p := sp_next) (fun _ _ _ => rfl) ?_
  intro args ds tv hv hdl htl
  unfold sp_next at hv ⊢
  split at hv
  case h_2 => exact hv.elim
  rename_i n b ws
  refine ⟨by simp, Nat.le_of_ble_eq_true rfl, ?_⟩
  simp (config := {dsimp := false}) only [↓vp0, vz, vn, nq, tys, cellD, wideIR, if_true, if_false, implies_true, forall_const, ne_eq, reduceIte, reduceCtorEq, Nat.reduceEqDiff, Nat.reduceAdd, Nat.reduceMul, Nat.reduceLT, Nat.reduceSub, Nat.reduceLeDiff, Nat.reduceBNe, Nat.reduceBEq, Nat.reduceBeqDiff, List.range, List.range.loop, gl0, Tryd.ntmps69, Tryd.results69, retB, vb]
  obtain ⟨⟨h0, h64⟩, hb, hw⟩ := hv
  refine ⟨fun h => ?_, fun h => ?_⟩
  · have h := of_decide_eq_true h
    have e4 : IntKind.wrap .i64 (4 * n) = 4 * n := IntWalk.i64_in _ (by omega)
    have ht : List.take (b.length : Int).toNat b = b := List.take_of_length_le (by omega)
    rw [e4, ht]
    refine ⟨by omega, by omega, Int.le_refl _, ?_⟩
    refine drawI [4, 0, 1, 2] (by kernel_rfl) ?_
    simp (config := {dsimp := false}) only [↓vp0, vz, vn, nq, tys, cellD, wideIR, if_true, if_false, implies_true, forall_const, ne_eq, reduceIte, reduceCtorEq, Nat.reduceEqDiff, Nat.reduceAdd, Nat.reduceMul, Nat.reduceLT, Nat.reduceSub, Nat.reduceLeDiff, Nat.reduceBNe, Nat.reduceBEq, Nat.reduceBeqDiff, List.range, List.range.loop, gl0, Tryd.ntmps69, Tryd.results69, retB, vb]
    have hd : ∀ j, (List.drop (4 * n).toNat b).getD j 0 = b.getD (4 * n.toNat + j) 0 := by
      intro j
      rw [show (4 * n).toNat = 4 * n.toNat by omega]
      simp [List.getD]
    have hdl2 : ((List.drop (4 * n).toNat b).length : Int) ≥ 4 := by simp; omega
    have e1 : IntKind.wrap .i64 (n + 1) = n + 1 := IntWalk.i64_in _ (by omega)
    have e2 : IntKind.wrap .i64 (n + 1 - 1) = n := by rw [IntWalk.i64_in _ (by omega)]; omega
    have hgs : ∀ x, (ws.set n.toNat x).getD n.toNat 0 = x := by intro x; simp [List.getD, List.getElem?_set_self (show n.toNat < ws.length by omega)]
    have hn16 : n.toNat < 16 := by omega
    have hnx : nextP b ws n.toNat = wordP b n.toNat := if_pos hn16
    simp only [hd, e1, e2, hgs, hnx, show Int.toNat 3 = 3 from rfl, show Int.toNat 2 = 2 from rfl, show Int.toNat 1 = 1 from rfl, show Int.toNat 0 = 0 from rfl, Nat.add_zero]
    refine ⟨by decide, by omega, by decide, by omega, by decide, by decide, by omega, by decide, by decide, by omega, by decide, by omega, by omega, by kernel_rfl, by omega, by omega, ?_⟩
    exact ⟨[], [], [], ⟨rfl, rfl⟩, ⟨rfl, rfl⟩, ⟨by simp, by simp⟩, by simp, rfl, rfl, ⟨_, rfl, rfl⟩, ⟨_, rfl, rfl⟩, id rfl⟩
  · have h := of_decide_eq_false h
    refine drawI [0, 1, 2] (by kernel_rfl) ?_
    simp (config := {dsimp := false}) only [↓vp0, vz, vn, nq, tys, cellD, wideIR, if_true, if_false, implies_true, forall_const, ne_eq, reduceIte, reduceCtorEq, Nat.reduceEqDiff, Nat.reduceAdd, Nat.reduceMul, Nat.reduceLT, Nat.reduceSub, Nat.reduceLeDiff, Nat.reduceBNe, Nat.reduceBEq, Nat.reduceBeqDiff, List.range, List.range.loop, gl0, Tryd.ntmps69, Tryd.results69, retB, vb]
    have e1 : IntKind.wrap .i64 (n + 1) = n + 1 := IntWalk.i64_in _ (by omega)
    have e2 : IntKind.wrap .i64 (n + 1 - 1) = n := by rw [IntWalk.i64_in _ (by omega)]; omega
    have e15 : IntKind.wrap .i64 (n - 15) = n - 15 := IntWalk.i64_in _ (by omega)
    have e3 : IntKind.wrap .i64 (n - 2) = n - 2 := IntWalk.i64_in _ (by omega)
    have e16 : IntKind.wrap .i64 (n - 16) = n - 16 := IntWalk.i64_in _ (by omega)
    have e7 : IntKind.wrap .i64 (n - 7) = n - 7 := IntWalk.i64_in _ (by omega)
    rw [e15, e3]
    refine ⟨by omega, by omega, by omega, by omega, ?_⟩
    refine drawI [0, 1, 2, 5, 6] (by kernel_rfl) ?_
    simp (config := {dsimp := false}) only [↓vp0, vz, vn, nq, tys, cellD, wideIR, if_true, if_false, implies_true, forall_const, ne_eq, reduceIte, reduceCtorEq, Nat.reduceEqDiff, Nat.reduceAdd, Nat.reduceMul, Nat.reduceLT, Nat.reduceSub, Nat.reduceLeDiff, Nat.reduceBNe, Nat.reduceBEq, Nat.reduceBeqDiff, List.range, List.range.loop, gl0, Tryd.ntmps69, Tryd.results69, retB, vb, PF.toR, gives, givesIf, e16, e7, spec_turned, sp_turned, c_turned, b_turned]
    have hgs : ∀ x, (ws.set n.toNat x).getD n.toNat 0 = x := by intro x; simp [List.getD, List.getElem?_set_self (show n.toNat < ws.length by omega)]
    have n15 : (n - 15).toNat = n.toNat - 15 := by omega
    have n2 : (n - 2).toNat = n.toNat - 2 := by omega
    have n16 : (n - 16).toNat = n.toNat - 16 := by omega
    have n7 : (n - 7).toNat = n.toNat - 7 := by omega
    have nn : ¬ n.toNat < 16 := by omega
    have hnx : nextP b ws n.toNat = _ := if_neg nn
    simp only [e1, e2, hgs, hnx, n15, n2, n16, n7]
    refine ⟨by omega, by omega, by decide, by omega, by omega, by decide, by omega, by omega, by kernel_rfl, by omega, by omega, ?_⟩
    exact ⟨[], [], [], ⟨rfl, rfl⟩, ⟨rfl, rfl⟩, ⟨by simp, by simp⟩, by simp, rfl, rfl, ⟨_, rfl, rfl⟩, ⟨_, rfl, rfl⟩, id rfl⟩
end Go.Vi.TP
end

section
set_option linter.unusedVariables false
set_option linter.unusedSimpArgs false
set_option maxHeartbeats 0
set_option maxRecDepth 20000
namespace Go.Vi.TP
open Go.Proofs

theorem nextP_len (b s : List Int) : ∀ n, (runP b s n).1.length = 64
  | 0 => rfl
  | n + 1 => by simp [runP, nextP_len b s n]
theorem roundL_len (s : List Int) (k : Int) : (roundL s k).length = 8 := rfl
theorem runP_len (b s : List Int) (h : s.length = 8) : ∀ n, (runP b s n).2.length = 8
  | 0 => h
  | n + 1 => rfl
theorem eight (l : List Int) (h : l.length = 8) : l = [l.getD 0 0, l.getD 1 0, l.getD 2 0, l.getD 3 0, l.getD 4 0, l.getD 5 0, l.getD 6 0, l.getD 7 0] := by
  match l, h with
  | [a, b, c, d, e, f, g, i], _ => rfl
theorem kList_get (i : Nat) (h : i < 64) : kList[i]? = some (kList.getD i 0) := by
  have : i < kList.length := h
  simp [List.getD, this]
theorem c_change : Contract E 64 := by
  refine contract_seeT hE hgl (show E.P.funcs[64]? = some Tryd.f64 from Tryd.func64) rfl (p := sp_change) (fun _ _ _ => rfl) ?_
  intro args hv
  unfold sp_change at hv ⊢
  split at hv
  case h_2 => exact hv.elim
  rename_i a b c d e f g h x
  refine ⟨by simp, Nat.le_of_ble_eq_true rfl, ?_⟩
  simp only [givesIf] at hv
  simp (config := {dsimp := false}) only [↓vp0, vz, vn, nq, tys, cellD, wideIR, if_true, if_false, implies_true, forall_const, ne_eq, reduceIte, reduceCtorEq, Nat.reduceEqDiff, Nat.reduceAdd, Nat.reduceMul, Nat.reduceLT, Nat.reduceSub, Nat.reduceLeDiff, Nat.reduceBNe, Nat.reduceBEq, Nat.reduceBeqDiff, List.range, List.range.loop, gl0, Tryd.ntmps64, Tryd.results64]
  refine drawX [1, 2, 4] [(1, [2, 3]), (3, [0, 1, 2])] [] (by kernel_rfl) (wild_of rfl) ?_
  simp (config := {dsimp := false}) only [↓vp0, vz, vn, nq, tys, cellD, wideIR, if_true, if_false, implies_true, forall_const, ne_eq, reduceIte, reduceCtorEq, Nat.reduceEqDiff, Nat.reduceAdd, Nat.reduceMul, Nat.reduceLT, Nat.reduceSub, Nat.reduceLeDiff, Nat.reduceBNe, Nat.reduceBEq, Nat.reduceBeqDiff, List.range, List.range.loop, gl0, Tryd.ntmps64, Tryd.results64, vb, ↓vy0, vx0, spec_numbers, sp_numbers, c_numbers, b_numbers]
  refine ⟨okUps_of (by kernel_rfl) rfl, okUps_of (by kernel_rfl) rfl, okUps_all rfl (by kernel_rfl), ?_⟩
  refine loopI (Fin 65) (fun i => [(13, .int .i64 (i.1 : Int)), (12, .arr .u32 64 kList), (5, .fn 69 [.bp 12 0, .bp 13 0, .bp 14 0]), (6, .bp 20 0), (2, .bp 0 0), (4, .bp 4 0)])
    (fun i => ⟨[(0, st8 [a, b, c, d, e, f, g, h]), (4, st8 []), (12, .int .i64 (i.1 : Int)), (13, .sli .no .u8 x), (14, .arr .u32 64 (runP x [a, b, c, d, e, f, g, h] i.1).1), (20, st8 (runP x [a, b, c, d, e, f, g, h] i.1).2)], [], 40⟩) (fun i => 64 - i.1) 0 (fun _ => rfl) ?_ ?_
  · exact ⟨⟨wkD_eq rfl, rfl, wkD_eq rfl, rfl, wkD_eq rfl, rfl, wkD_eq rfl, rfl, wkD_eq rfl, rfl, wkD_eq rfl, rfl, trivial⟩, ⟨rfl, Nat.le_of_ble_eq_true rfl, rfl, rfl, Nat.le_of_ble_eq_true rfl, rfl, rfl, Nat.le_of_ble_eq_true rfl, rfl, rfl, Nat.le_of_ble_eq_true rfl, rfl, rfl, Nat.le_of_ble_eq_true rfl, rfl, rfl, Nat.le_of_ble_eq_true rfl, rfl, trivial⟩, trivial⟩
  rintro ⟨i, hi⟩
  simp (config := {dsimp := false}) only [↓vp0, vz, vn, nq, tys, cellD, wideIR, if_true, if_false, implies_true, forall_const, ne_eq, reduceIte, reduceCtorEq, Nat.reduceEqDiff, Nat.reduceAdd, Nat.reduceMul, Nat.reduceLT, Nat.reduceSub, Nat.reduceLeDiff, Nat.reduceBNe, Nat.reduceBEq, Nat.reduceBeqDiff, List.range, List.range.loop, gl0, Tryd.ntmps64, Tryd.results64, st8]
  refine ⟨fun hh => ?_, fun hh => ?_⟩
  · have hh := of_decide_eq_true hh
    have hw := nextP_len x [a, b, c, d, e, f, g, h] i
    refine ⟨by omega, by omega, ?_⟩
    refine drawX [2, 4, 5, 6, 8, 12, 13] [(3, [0, 1])] [(3, [12, 13, 14])] (by kernel_rfl) (wild_of rfl) ?_
    simp (config := {dsimp := false}) only [↓vp0, vz, vn, nq, tys, cellD, wideIR, if_true, if_false, implies_true, forall_const, ne_eq, reduceIte, reduceCtorEq, Nat.reduceEqDiff, Nat.reduceAdd, Nat.reduceMul, Nat.reduceLT, Nat.reduceSub, Nat.reduceLeDiff, Nat.reduceBNe, Nat.reduceBEq, Nat.reduceBeqDiff, List.range, List.range.loop, gl0, Tryd.ntmps64, Tryd.results64, vb, ↓vy0, vx0, PF.toR, gives, u32s, roundI, spec_next, sp_next, c_next, b_next, spec_round, sp_round, c_round, b_round]
    refine ⟨by omega, by omega, hv, hw, okUps_of (by kernel_rfl) rfl, okUps_all rfl (by kernel_rfl), ⟨i + 1, by omega⟩, ⟨⟨wkD_eq ?_, rfl, wkD_eq rfl, rfl, wkD_eq rfl, rfl, wkD_eq rfl, rfl, wkD_eq rfl, rfl, wkD_eq rfl, rfl, trivial⟩, ⟨rfl, Nat.le_of_ble_eq_true rfl, rfl, rfl, Nat.le_of_ble_eq_true rfl, rfl, rfl, Nat.le_of_ble_eq_true rfl, rfl, rfl, Nat.le_of_ble_eq_true rfl, rfl, rfl, Nat.le_of_ble_eq_true rfl, rfl, rfl, Nat.le_of_ble_eq_true rfl, rfl, trivial⟩, trivial⟩, by (try simp only); omega⟩
    exact some_i64 (by (try simp only); omega)
  · have hh := of_decide_eq_false hh
    obtain rfl : i = 64 := by omega
    simp (config := {dsimp := false}) only [↓vp0, vz, vn, nq, tys, cellD, wideIR, if_true, if_false, implies_true, forall_const, ne_eq, reduceIte, reduceCtorEq, Nat.reduceEqDiff, Nat.reduceAdd, Nat.reduceMul, Nat.reduceLT, Nat.reduceSub, Nat.reduceLeDiff, Nat.reduceBNe, Nat.reduceBEq, Nat.reduceBeqDiff, List.range, List.range.loop, gl0, Tryd.ntmps64, Tryd.results64, vb, PF.toR, gives, u32s, spec_plus, sp_plus, c_plus, b_plus]
    rfl
theorem closingI_len (n : Int) : (closingI n).length = pad n + 9 := by simp [closingI]; rfl
theorem paddedP_len (gone : Int) (r : List Int) (h : r.length < 1000000000) (h0 : 0 ≤ gone) (h1 : gone < 1000000000) (h2 : gone % 64 = 0) : ∃ m, (paddedP gone r).length = 64 * m ∧ m < 16000000 := by
  refine ⟨(paddedP gone r).length / 64, ?_, ?_⟩ <;> simp [paddedP, closingI_len] <;> unfold pad <;> omega
theorem changeP_len (s b : List Int) : (changeP s b).length = 8 := by simp [changeP, plusL]
theorem blocksP_len (all s : List Int) (h : s.length = 8) : ∀ i, (blocksP all s i).length = 8
  | 0 => h
  | i + 1 => changeP_len _ _
theorem outP_len (s : List Int) : (outP s).length = 32 := by simp [outP]
theorem st8_of (l : List Int) (h : l.length = 8) : D.agg (u32s l) = st8 l := by
  match l, h with
  | [a, b, c, d, e, f, g, i], _ => rfl
theorem set4 (L : List Int) (j : Nat) (hL : L.length = 32) (hj : j < 8) (a b c d : Int) (ha : L[4 * j]? = some a) (hb : L[4 * j + 1]? = some b) (hc : L[4 * j + 2]? = some c) (hd : L[4 * j + 3]? = some d) :
    ((((L.take (4 * j) ++ List.replicate (32 - 4 * j) 0).set (4 * j) a).set (4 * j + 1) b).set (4 * j + 2) c).set (4 * j + 3) d = L.take (4 * (j + 1)) ++ List.replicate (32 - 4 * (j + 1)) 0 := by
  have hT : (L.take (4 * j)).length = 4 * j := by simp; omega
  have e1 : 4 * (j + 1) = 4 * j + 1 + 1 + 1 + 1 := by omega
  have e2 : 32 - 4 * j = (32 - (4 * j + 1 + 1 + 1 + 1)) + 1 + 1 + 1 + 1 := by omega
  rw [e2, e1]
  simp only [List.replicate_succ]
  rw [List.set_append_right _ _ (by omega), List.set_append_right _ _ (by omega), List.set_append_right _ _ (by omega), List.set_append_right _ _ (by omega), hT]
  simp only [Nat.sub_self, List.set_cons_zero, show 4 * j + 1 - 4 * j = 1 by omega, show 4 * j + 2 - 4 * j = 2 by omega, show 4 * j + 3 - 4 * j = 3 by omega, List.set_cons_succ]
  simp only [List.take_add_one, ha, hb, hc, hd, Option.toList, List.append_assoc, List.cons_append, List.nil_append]
theorem outP_at (s : List Int) (j r : Nat) (hj : j < 8) (hr : r < 4) : (outP s)[4 * j + r]? = some (IntKind.wrap .u8 (if r = 3 then s.getD j 0 else shrI .u32 (s.getD j 0) (24 - 8 * (r : Int)))) := by
  have h1 : (4 * j + r) % 4 = r := by omega
  have h2 : (4 * j + r) / 4 = j := by omega
  simp only [outP, List.getElem?_map, List.getElem?_range (show 4 * j + r < 32 by omega), Option.map_some, h1, h2]
theorem c_digest : Contract E 59 := by
  refine contract_seeT hE hgl (show E.P.funcs[59]? = some Tryd.f59 from Tryd.func59) rfl (p := sp_digest) (fun _ _ _ => rfl) ?_
  intro args hv
  unfold sp_digest at hv ⊢
  split at hv
  case h_2 => exact hv.elim
  rename_i a b c d e f g h n x
  refine ⟨by simp, Nat.le_of_ble_eq_true rfl, ?_⟩
  simp only [givesIf] at hv
  obtain ⟨hx, h0', h1, h2⟩ := hv
  obtain ⟨m, hm, hm2⟩ := paddedP_len n x hx h0' h1 h2
  have e1 : IntKind.wrap .i64 (n + (x.length : Int)) = n + x.length := IntWalk.i64_in _ (by omega)
  simp (config := {dsimp := false}) only [↓vp0, vz, vn, nq, tys, cellD, wideIR, if_true, if_false, implies_true, forall_const, ne_eq, reduceIte, reduceCtorEq, Nat.reduceEqDiff, Nat.reduceAdd, Nat.reduceMul, Nat.reduceLT, Nat.reduceSub, Nat.reduceLeDiff, Nat.reduceBNe, Nat.reduceBEq, Nat.reduceBeqDiff, List.range, List.range.loop, gl0, Tryd.ntmps59, Tryd.results59, PF.toR, gives, givesIf, e1, spec_closing, sp_closing, c_closing, b_closing]
  have hpd : x ++ 128 :: (List.replicate (pad (n + ↑x.length)) 0 ++ beBytes (n + ↑x.length)) = paddedP n x := by simp [paddedP, closingI]
  have hlen : x.length + ((List.replicate (pad (n + ↑x.length)) (0 : Int) ++ beBytes (n + ↑x.length)).length + 1) = (paddedP n x).length := by rw [← hpd]; simp
  have hlen2 : x.length ≤ (paddedP n x).length := by rw [← hlen]; omega
  rw [hpd, hlen]
  refine ⟨by omega, by omega, by omega, by simp, by omega, ?_⟩
  generalize hst : [a, b, c, d, e, f, g, h] = s0
  have hs0 : s0.length = 8 := by rw [← hst]; rfl
  refine loopI (Fin (m + 1)) (fun i => [(7, .sli .no .u8 ((paddedP n x).drop (64 * i.1))), (3, .bp 0 0), (6, .bp 4 0)]) (fun i => ⟨[(0, st8 (blocksP (paddedP n x) s0 i.1)), (4, .arr .u8 32 (List.replicate 32 0))], [], 48⟩) (fun i => m - i.1) 0 (fun _ => rfl) ?_ ?_
  · refine ⟨⟨.inr ⟨_, rfl⟩, rfl, wkD_eq rfl, rfl, wkD_eq rfl, rfl, trivial⟩, ⟨?_, Nat.le_of_ble_eq_true rfl, rfl, rfl, Nat.le_of_ble_eq_true rfl, rfl, trivial⟩, trivial⟩
    subst hst
    rfl
  rintro ⟨i, hi⟩
  simp (config := {dsimp := false}) only [↓vp0, vz, vn, nq, tys, cellD, wideIR, if_true, if_false, implies_true, forall_const, ne_eq, reduceIte, reduceCtorEq, Nat.reduceEqDiff, Nat.reduceAdd, Nat.reduceMul, Nat.reduceLT, Nat.reduceSub, Nat.reduceLeDiff, Nat.reduceBNe, Nat.reduceBEq, Nat.reduceBeqDiff, List.range, List.range.loop, gl0, Tryd.ntmps59, Tryd.results59, PF.toR, givesIf, st8, u32s, spec_change, sp_change, c_change, b_change]
  have hdl : ((paddedP n x).drop (64 * i)).length = 64 * (m - i) := by simp; omega
  rw [hdl]
  have hb8 := blocksP_len (paddedP n x) s0 hs0 i
  refine ⟨fun hh => ?_, fun hh => ?_⟩
  · have hh := of_decide_eq_true hh
    have hlt : i < m := by omega
    refine ⟨by omega, by decide, by omega, Int.le_refl _, ⟨i + 1, by omega⟩, ⟨⟨wkD_eq ?_, rfl, wkD_eq rfl, rfl, wkD_eq rfl, rfl, trivial⟩, ⟨?_, Nat.le_of_ble_eq_true rfl, rfl, rfl, Nat.le_of_ble_eq_true rfl, rfl, trivial⟩, trivial⟩, by (try simp only); omega⟩
    · refine some_sli ?_
      rw [List.take_of_length_le (by omega), List.drop_drop]
      rfl
    · exact congrArg (fun l => some (st8 (changeP l ((paddedP n x).drop (64 * i))))) (eight _ hb8).symm
  · have hh := of_decide_eq_false hh
    obtain rfl : i = m := by omega
    generalize hbs : blocksP (paddedP n x) s0 i = st at hb8 ⊢
    refine loopI (Fin 9) (fun j => [(44, .int .i64 (j.1 : Int)), (43, .arr .u32 8 [st.getD 0 0, st.getD 1 0, st.getD 2 0, st.getD 3 0, st.getD 4 0, st.getD 5 0, st.getD 6 0, st.getD 7 0]), (6, .bp 4 0)]) (fun j => ⟨[(4, .arr .u8 32 ((outP st).take (4 * j.1) ++ List.replicate (32 - 4 * j.1) 0))], [], 132⟩) (fun j => 8 - j.1) 0 (fun _ => rfl) ?_ ?_
    · exact ⟨⟨wkD_eq rfl, rfl, wkD_eq rfl, rfl, wkD_eq rfl, rfl, trivial⟩, ⟨rfl, Nat.le_of_ble_eq_true rfl, rfl, trivial⟩, trivial⟩
    rw [← eight _ hb8]
    rintro ⟨j, hj⟩
    simp (config := {dsimp := false}) only [↓vp0, vz, vn, nq, tys, cellD, wideIR, if_true, if_false, implies_true, forall_const, ne_eq, reduceIte, reduceCtorEq, Nat.reduceEqDiff, Nat.reduceAdd, Nat.reduceMul, Nat.reduceLT, Nat.reduceSub, Nat.reduceLeDiff, Nat.reduceBNe, Nat.reduceBEq, Nat.reduceBeqDiff, List.range, List.range.loop, gl0, Tryd.ntmps59, Tryd.results59]
    refine ⟨fun hh => ?_, fun hh => ?_⟩
    · have hh := of_decide_eq_true hh
      have e4 : IntKind.wrap .i64 (4 * (j : Int)) = 4 * j := IntWalk.i64_in _ (by omega)
      rw [e4]
      have e5 : IntKind.wrap .i64 (4 * (j : Int) + 1) = 4 * j + 1 := IntWalk.i64_in _ (by omega)
      have e6 : IntKind.wrap .i64 (4 * (j : Int) + 2) = 4 * j + 2 := IntWalk.i64_in _ (by omega)
      have e7 : IntKind.wrap .i64 (4 * (j : Int) + 3) = 4 * j + 3 := IntWalk.i64_in _ (by omega)
      rw [e5, e6, e7]
      refine ⟨by omega, by omega, by decide, by decide, by decide, by omega, by omega, by omega, by omega, by omega, by omega, by omega, by omega, ⟨j + 1, by omega⟩, ⟨⟨wkD_eq ?_, rfl, wkD_eq rfl, rfl, wkD_eq rfl, rfl, trivial⟩, ⟨?_, Nat.le_of_ble_eq_true rfl, rfl, trivial⟩, trivial⟩, by (try simp only); omega⟩
      · exact some_i64 (by (try simp only); omega)
      · refine some_arr ?_
        rw [show (4 * (j : Int) + 1).toNat = 4 * j + 1 by omega, show (4 * (j : Int) + 2).toNat = 4 * j + 2 by omega, show (4 * (j : Int) + 3).toNat = 4 * j + 3 by omega, show (4 * (j : Int)).toNat = 4 * j by omega]
        exact set4 (outP st) j (outP_len st) (by omega) _ _ _ _ (outP_at st j 0 (by omega) (by omega)) (outP_at st j 1 (by omega) (by omega)) (outP_at st j 2 (by omega) (by omega)) (outP_at st j 3 (by omega) (by omega))
    · have hh := of_decide_eq_false hh
      obtain rfl : j = 8 := by omega
      subst hbs hst
      have : (paddedP n x).length / 64 = i := by omega
      rw [List.take_of_length_le (by rw [outP_len]; decide)]
      simp [digestP, this, givesIf]
theorem c_sum : Contract E 50 := by
  refine contract_seeT hE hgl (show E.P.funcs[50]? = some Tryd.f50 from Tryd.func50) rfl (p := sp_sum) (fun _ _ _ => rfl) ?_
  intro args hv
  unfold sp_sum at hv ⊢
  split at hv
  case h_2 => exact hv.elim
  rename_i b
  refine ⟨by simp, Nat.le_of_ble_eq_true rfl, ?_⟩
  simp only [givesIf] at hv
  simp (config := {dsimp := false}) only [↓vp0, vz, vn, nq, tys, cellD, wideIR, if_true, if_false, implies_true, forall_const, ne_eq, reduceIte, reduceCtorEq, Nat.reduceEqDiff, Nat.reduceAdd, Nat.reduceMul, Nat.reduceLT, Nat.reduceSub, Nat.reduceLeDiff, Nat.reduceBNe, Nat.reduceBEq, Nat.reduceBeqDiff, List.range, List.range.loop, gl0, Tryd.ntmps50, Tryd.results50, PF.toR, gives, givesIf, u32s, h0, spec_first, sp_first, c_first, b_first, spec_digest, sp_digest, c_digest, b_digest]
  exact ⟨hv, by decide, by decide, by decide, rfl⟩
theorem c_again : Contract E 49 := by
  refine contract_seeT hE hgl (show E.P.funcs[49]? = some Tryd.f49 from Tryd.func49) rfl (p := sp_again) (fun _ _ _ => rfl) ?_
  intro args hv
  unfold sp_again at hv ⊢
  split at hv
  case h_2 => exact hv.elim
  rename_i h
  refine ⟨by simp, Nat.le_of_ble_eq_true rfl, ?_⟩
  simp only [givesIf] at hv
  simp (config := {dsimp := false}) only [↓vp0, vz, vn, nq, tys, cellD, wideIR, if_true, if_false, implies_true, forall_const, ne_eq, reduceIte, reduceCtorEq, Nat.reduceEqDiff, Nat.reduceAdd, Nat.reduceMul, Nat.reduceLT, Nat.reduceSub, Nat.reduceLeDiff, Nat.reduceBNe, Nat.reduceBEq, Nat.reduceBeqDiff, List.range, List.range.loop, gl0, Tryd.ntmps49, Tryd.results49, PF.toR, gives, givesIf, spec_sum, sp_sum, c_sum, b_sum]
  have e : List.take ((32 : Nat) - 0 : Int).toNat (List.drop (Int.toNat 0) h) = h := by
    rw [show Int.toNat 0 = 0 from rfl, List.drop_zero]
    exact List.take_of_length_le (by rw [hv]; decide)
  rw [e]
  exact ⟨by decide, by decide, by decide, by omega, rfl⟩
theorem c_twice : Contract E 43 := by
  refine contract_seeT hE hgl (show E.P.funcs[43]? = some Tryd.f43 from Tryd.func43) rfl (p := sp_twice) (fun _ _ _ => rfl) ?_
  intro args hv
  unfold sp_twice at hv ⊢
  split at hv
  case h_2 => exact hv.elim
  rename_i b
  refine ⟨by simp, Nat.le_of_ble_eq_true rfl, ?_⟩
  simp only [givesIf] at hv
  simp (config := {dsimp := false}) only [↓vp0, vz, vn, nq, tys, cellD, wideIR, if_true, if_false, implies_true, forall_const, ne_eq, reduceIte, reduceCtorEq, Nat.reduceEqDiff, Nat.reduceAdd, Nat.reduceMul, Nat.reduceLT, Nat.reduceSub, Nat.reduceLeDiff, Nat.reduceBNe, Nat.reduceBEq, Nat.reduceBeqDiff, List.range, List.range.loop, gl0, Tryd.ntmps43, Tryd.results43, PF.toR, gives, givesIf, spec_sum, sp_sum, c_sum, b_sum, spec_again, sp_again, c_again, b_again]
  exact ⟨hv, outP_len _⟩
end Go.Vi.TP
end

section
set_option linter.unusedVariables false
set_option linter.unusedSimpArgs false
set_option maxHeartbeats 0
set_option maxRecDepth 20000
namespace Go.Vi.TP
open Go.Proofs

theorem put_0 {b : List Int} {t : TxP} {f : Bool} (h : checkP t = 0) : putV b t f = .tup [.sli .no .u8 (b ++ layI t f), .int .i64 0] := if_pos h
theorem put_e {b : List Int} {t : TxP} {f : Bool} (h : ¬ checkP t = 0) : putV b t f = .tup [.sl .full 0 [], .int .i64 (checkP t)] := if_neg h
theorem c_tput : Contract E 6 := by
  refine contract_seeT hE hgl (show E.P.funcs[6]? = some Tryd.f6 from Tryd.func6) rfl (p := sp_tput) (fun _ _ _ => rfl) ?_
  intro args hv
  unfold sp_tput at hv ⊢
  split at hv
  case h_2 => exact hv.elim
  rename_i b v is os l
  refine ⟨by simp, Nat.le_of_ble_eq_true rfl, ?_⟩
  simp only [givesIf] at hv
  obtain ⟨hok, hb⟩ := hv
  obtain ⟨t, rfl, rfl, rfl, rfl, ht, -⟩ := okT_tx hok
  have eta : (⟨t.ver, t.ins, t.outs, t.lock⟩ : TxP) = t := rfl
  have hc : okT t.ver (insD t.ins) (outsD t.outs) t.lock := hok
  obtain ⟨W, hW⟩ : ∃ W, witnessedP t = W := ⟨_, rfl⟩
  have hW' : t.ins.any hasWit = W := hW
  by_cases h : checkP t = 0
  · have hlen := lay_len ht h W
    have hd : decide (checkP t = 0) = true := decide_eq_true h
    simp (config := {dsimp := false}) only [↓vp0, vz, vn, nq, tys, cellD, wideIR, if_true, if_false, implies_true, forall_const, ne_eq, reduceIte, reduceCtorEq, Nat.reduceEqDiff, Nat.reduceAdd, Nat.reduceMul, Nat.reduceLT, Nat.reduceSub, Nat.reduceLeDiff, Nat.reduceBNe, Nat.reduceBEq, Nat.reduceBeqDiff, List.range, List.range.loop, gl0, Tryd.ntmps6, Tryd.results6, PF.toR, givesIf, eta, hd, hW, put_0 h, spec_tcheck, sp_tcheck, c_tcheck, b_tcheck]
    refine ⟨hc, ?_⟩
    refine drawX [0, 3] [] [] (by kernel_rfl) (wild_of rfl) ?_
    simp (config := {dsimp := false}) only [↓vp0, vz, vn, nq, tys, cellD, wideIR, if_true, if_false, implies_true, forall_const, ne_eq, reduceIte, reduceCtorEq, Nat.reduceEqDiff, Nat.reduceAdd, Nat.reduceMul, Nat.reduceLT, Nat.reduceSub, Nat.reduceLeDiff, Nat.reduceBNe, Nat.reduceBEq, Nat.reduceBeqDiff, List.range, List.range.loop, gl0, Tryd.ntmps6, Tryd.results6, vb, ↓vy0, vx0, PF.toR, givesIf, eta, hW', spec_twitnessed, sp_twitnessed, c_twitnessed, b_twitnessed, spec_laid, sp_laid, c_laid, b_laid]
    refine ⟨hc, hc, by simp only [List.length_append]; omega, okUps_all rfl (by kernel_rfl), ?_⟩
    rw [hW, put_0 h]
  · have hd : decide (checkP t = 0) = false := decide_eq_false h
    simp (config := {dsimp := false}) only [↓vp0, vz, vn, nq, tys, cellD, wideIR, if_true, if_false, implies_true, forall_const, ne_eq, reduceIte, reduceCtorEq, Nat.reduceEqDiff, Nat.reduceAdd, Nat.reduceMul, Nat.reduceLT, Nat.reduceSub, Nat.reduceLeDiff, Nat.reduceBNe, Nat.reduceBEq, Nat.reduceBeqDiff, List.range, List.range.loop, gl0, Tryd.ntmps6, Tryd.results6, PF.toR, givesIf, eta, hd, put_e h, spec_tcheck, sp_tcheck, c_tcheck, b_tcheck]
    exact hc
theorem c_tname : Contract E 28 := by
  refine contract_seeT hE hgl (show E.P.funcs[28]? = some Tryd.f28 from Tryd.func28) rfl (p := sp_tname) (fun _ _ _ => rfl) ?_
  intro args hv
  unfold sp_tname at hv ⊢
  split at hv
  case h_2 => exact hv.elim
  rename_i b e
  refine ⟨by simp, Nat.le_of_ble_eq_true rfl, ?_⟩
  simp only [givesIf] at hv
  by_cases h : e = 0
  · subst h
    simp (config := {dsimp := false}) only [↓vp0, vz, vn, nq, tys, cellD, wideIR, if_true, if_false, implies_true, forall_const, ne_eq, reduceIte, reduceCtorEq, Nat.reduceEqDiff, Nat.reduceAdd, Nat.reduceMul, Nat.reduceLT, Nat.reduceSub, Nat.reduceLeDiff, Nat.reduceBNe, Nat.reduceBEq, Nat.reduceBeqDiff, List.range, List.range.loop, gl0, Tryd.ntmps28, Tryd.results28, PF.toR, givesIf, eq_self, decide_true, spec_twice, sp_twice, c_twice, b_twice]
    exact hv
  · simp (config := {dsimp := false}) only [↓vp0, vz, vn, nq, tys, cellD, wideIR, if_true, if_false, implies_true, forall_const, ne_eq, reduceIte, reduceCtorEq, Nat.reduceEqDiff, Nat.reduceAdd, Nat.reduceMul, Nat.reduceLT, Nat.reduceSub, Nat.reduceLeDiff, Nat.reduceBNe, Nat.reduceBEq, Nat.reduceBeqDiff, List.range, List.range.loop, gl0, Tryd.ntmps28, Tryd.results28, PF.toR, givesIf, h, decide_false, spec_twice, sp_twice, c_twice, b_twice]
    all_goals rfl
theorem c_tfull : Contract E 16 := by
  refine contract_seeT hE hgl (show E.P.funcs[16]? = some Tryd.f16 from Tryd.func16) rfl (p := sp_tfull) (fun _ _ _ => rfl) ?_
  intro args hv
  unfold sp_tfull at hv ⊢
  split at hv
  case h_2 => exact hv.elim
  rename_i v is os l
  refine ⟨by simp, Nat.le_of_ble_eq_true rfl, ?_⟩
  simp only [givesIf] at hv
  have hok := hv
  obtain ⟨t, rfl, rfl, rfl, rfl, ht, -⟩ := okT_tx hok
  have eta : (⟨t.ver, t.ins, t.outs, t.lock⟩ : TxP) = t := rfl
  by_cases h : checkP t = 0
  · have hlen := lay_len ht h (witnessedP t)
    have hf : fullP t = sumP (sumP (layI t (witnessedP t))) := if_pos h
    simp (config := {dsimp := false}) only [↓vp0, vz, vn, nq, tys, cellD, wideIR, if_true, if_false, implies_true, forall_const, ne_eq, reduceIte, reduceCtorEq, Nat.reduceEqDiff, Nat.reduceAdd, Nat.reduceMul, Nat.reduceLT, Nat.reduceSub, Nat.reduceLeDiff, Nat.reduceBNe, Nat.reduceBEq, Nat.reduceBeqDiff, List.range, List.range.loop, gl0, Tryd.ntmps16, Tryd.results16, PF.toR, givesIf, eta, put_0 h, hf, eq_self, spec_tput, sp_tput, c_tput, b_tput, spec_tname, sp_tname, c_tname, b_tname]
    exact ⟨hok, by omega⟩
  · have hf : fullP t = List.replicate 32 0 := if_neg h
    simp (config := {dsimp := false}) only [↓vp0, vz, vn, nq, tys, cellD, wideIR, if_true, if_false, implies_true, forall_const, ne_eq, reduceIte, reduceCtorEq, Nat.reduceEqDiff, Nat.reduceAdd, Nat.reduceMul, Nat.reduceLT, Nat.reduceSub, Nat.reduceLeDiff, Nat.reduceBNe, Nat.reduceBEq, Nat.reduceBeqDiff, List.range, List.range.loop, gl0, Tryd.ntmps16, Tryd.results16, PF.toR, givesIf, eta, put_e h, hf, h, spec_tput, sp_tput, c_tput, b_tput, spec_tname, sp_tname, c_tname, b_tname]
    exact hok
theorem hashes_get (f : Bool) (l : List TxP) (k : Nat) (h : k < l.length) : (hashesP f l).take (k + 1) = (hashesP f l).take k ++ [if f = true then (if k = 0 then List.replicate 32 0 else fullP (l.getD k default)) else idP (l.getD k default)] := by
  rw [List.take_add_one]
  simp [hashesP, h]
end Go.Vi.TP
end

section
set_option linter.unusedVariables false
set_option linter.unusedSimpArgs false
set_option maxHeartbeats 0
set_option maxRecDepth 20000
namespace Go.Vi.TP
open Go.Proofs

theorem div_pow {n : Int} (k : Nat) : n / 256 ^ (k + 1) = n / 256 ^ k / 256 := by
  rw [Int.pow_succ, Int.ediv_ediv_of_nonneg (Int.le_of_lt (Int.pow_pos (by decide)))]
theorem div_ok {n : Int} (h : u64ok n) (k : Nat) : u64ok (n / 256 ^ k) := by
  have hp : (0 : Int) < 256 ^ k := Int.pow_pos (by decide)
  refine ⟨Int.ediv_nonneg h.1 (Int.le_of_lt hp), Int.lt_of_le_of_lt (Int.ediv_le_self _ h.1) h.2⟩
theorem c_rdigits : Contract E 47 := by
  refine contract_boxT hE hgl (show E.P.funcs[47]? = some Tryd.f47 from Tryd.func47) rfl (p := sp_rdigits) (fun _ _ _ => rfl) ?_
  intro args ds tv hv hdl htl
  unfold sp_rdigits at hv ⊢
  split at hv
  case h_2 => exact hv.elim
  rename_i w n
  refine ⟨by simp, Nat.le_of_ble_eq_true rfl, ?_⟩
  obtain ⟨hw, hn⟩ := hv
  obtain ⟨w, rfl, hw8⟩ : ∃ k : Nat, w = (k : Int) ∧ k ≤ 8 := ⟨w.toNat, by omega, by omega⟩
  simp (config := {dsimp := false}) only [↓vp0, vz, vn, nq, tys, cellD, wideIR, if_true, if_false, implies_true, forall_const, ne_eq, reduceIte, reduceCtorEq, Nat.reduceEqDiff, Nat.reduceAdd, Nat.reduceMul, Nat.reduceLT, Nat.reduceSub, Nat.reduceLeDiff, Nat.reduceBNe, Nat.reduceBEq, Nat.reduceBeqDiff, List.range, List.range.loop, gl0, Tryd.ntmps47, Tryd.results47, vb]
  refine loopA [(6, some .u8, 1)] ?_
  simp only [adopt, look, if_true, if_false, reduceIte, Nat.reduceEqDiff, setL, List.length_nil]
  refine ⟨Fin (w + 1), fun k => [(7, .int .i64 (k.1 : Nat)), (0, .int .i64 (w : Nat)), (6, .sli (.tok 24) .u8 (leI k.1 n)), (1, .int .u64 (n / 256 ^ k.1))], fun k => ⟨[], [(24, (k.1, 1))], 28⟩, fun k => w - k.1, 0, fun _ => rfl, ?_, ?_⟩
  · refine ⟨⟨wkD_eq rfl, rfl, wkD_eq rfl, rfl, wkD_eq rfl, rfl, wkD_eq ?_, rfl, trivial⟩, trivial, ⟨rfl, Nat.le_of_ble_eq_true rfl, trivial⟩⟩
    exact some_int (by simp)
  rintro ⟨k, hk⟩
  have hd := div_ok hn k
  have hb : IntKind.wrap .u8 ((n / 256 ^ k).tmod 256) = n / 256 ^ k % 256 := by
    rw [Int.tmod_eq_emod_of_nonneg hd.1, IntWalk.u8_in _ ⟨Int.emod_nonneg _ (by decide), by have := Int.emod_lt_of_pos (n / 256 ^ k) (show (0 : Int) < 256 by decide); omega⟩]
  have hq : IntKind.wrap .u64 ((n / 256 ^ k).tdiv 256) = n / 256 ^ (k + 1) := by
    rw [Int.tdiv_eq_ediv_of_nonneg hd.1, ← div_pow, IntWalk.u64_in _ (by have := div_ok hn (k + 1); exact ⟨this.1, by have := this.2; omega⟩)]
  simp (config := {dsimp := false}) only [↓vp0, vz, vn, nq, tys, cellD, wideIR, if_true, if_false, implies_true, forall_const, ne_eq, reduceIte, reduceCtorEq, Nat.reduceEqDiff, Nat.reduceAdd, Nat.reduceMul, Nat.reduceLT, Nat.reduceSub, Nat.reduceLeDiff, Nat.reduceBNe, Nat.reduceBEq, Nat.reduceBeqDiff, List.range, List.range.loop, gl0, Tryd.ntmps47, Tryd.results47]
  refine ⟨fun h => ?_, fun h => ?_⟩
  · have h := of_decide_eq_true h
    refine ⟨by decide, some_tok (by rw [leI_len]), by rw [leI_len]; omega, by decide, ⟨k + 1, by omega⟩, ⟨⟨wkD_eq ?_, rfl, wkD_eq rfl, rfl, wkD_eq ?_, rfl, wkD_eq ?_, rfl, trivial⟩, trivial, ⟨?_, Nat.le_of_ble_eq_true rfl, trivial⟩⟩, by (try simp only); omega⟩
    · exact some_i64 (by (try simp only); omega)
    · exact some_sli (by rw [hb, ← le_succ])
    · exact some_int hq
    · exact some_tok (by simp [leI_len])
  · have h := of_decide_eq_false h
    obtain rfl : k = w := by omega
    simp (config := {dsimp := false}) only [↓vp0, vz, vn, nq, tys, cellD, wideIR, if_true, if_false, implies_true, forall_const, ne_eq, reduceIte, reduceCtorEq, Nat.reduceEqDiff, Nat.reduceAdd, Nat.reduceMul, Nat.reduceLT, Nat.reduceSub, Nat.reduceLeDiff, Nat.reduceBNe, Nat.reduceBEq, Nat.reduceBeqDiff, List.range, List.range.loop, gl0, Tryd.ntmps47, Tryd.results47, retB, vb]
    exact ⟨[], [24], [], ⟨rfl, rfl⟩, ⟨rfl, rfl⟩, ⟨by simp, by simp⟩, by simp, rfl, rfl, ⟨_, rfl, rfl⟩, ⟨_, rfl, rfl⟩, id rfl⟩
theorem c_tdigits : Contract E 37 := by
  refine contract_boxT hE hgl (show E.P.funcs[37]? = some Tryd.f37 from Tryd.func37) rfl (p := sp_tdigits) (fun _ _ _ => rfl) ?_
  intro args ds tv hv hdl htl
  unfold sp_tdigits at hv ⊢
  split at hv
  case h_2 => exact hv.elim
  rename_i w n
  refine ⟨by simp, Nat.le_of_ble_eq_true rfl, ?_⟩
  simp (config := {dsimp := false}) only [↓vp0, vz, vn, nq, tys, cellD, wideIR, if_true, if_false, implies_true, forall_const, ne_eq, reduceIte, reduceCtorEq, Nat.reduceEqDiff, Nat.reduceAdd, Nat.reduceMul, Nat.reduceLT, Nat.reduceSub, Nat.reduceLeDiff, Nat.reduceBNe, Nat.reduceBEq, Nat.reduceBeqDiff, List.range, List.range.loop, gl0, Tryd.ntmps37, Tryd.results37, retB, vb, spec_rdigits, sp_rdigits, c_rdigits, b_rdigits]
  exact ⟨hv.1.1, hv.1.2, hv.2, [], [20], [], ⟨rfl, rfl⟩, ⟨rfl, rfl⟩, ⟨by simp, by simp⟩, by simp, rfl, rfl, ⟨_, rfl, rfl⟩, ⟨_, rfl, rfl⟩, id rfl⟩
theorem count_1 {n : Int} (c1 : n < 253) : countI n = [n] := if_pos c1
theorem count_2 {n : Int} (c1 : ¬ n < 253) (c2 : n < 65536) : countI n = 253 :: leI 2 n := by unfold countI; rw [if_neg c1, if_pos c2]
theorem count_3 {n : Int} (c1 : ¬ n < 253) (c2 : ¬ n < 65536) (c3 : n < 4294967296) : countI n = 254 :: leI 4 n := by unfold countI; rw [if_neg c1, if_neg c2, if_pos c3]
theorem count_4 {n : Int} (c1 : ¬ n < 253) (c2 : ¬ n < 65536) (c3 : ¬ n < 4294967296) : countI n = 255 :: leI 8 n := by unfold countI; rw [if_neg c1, if_neg c2, if_neg c3]
theorem c_rcount : Contract E 38 := by
  refine contract_boxA hE hgl (show E.P.funcs[38]? = some Tryd.f38 from Tryd.func38) rfl (p := sp_rcount) (fun _ _ _ => rfl) ?_
  intro args ds tv hv hdl htl
  unfold sp_rcount at hv ⊢
  split at hv
  case h_2 => exact hv.elim
  rename_i n
  refine ⟨by simp, Nat.le_of_ble_eq_true rfl, ?_⟩
  have hn := hv
  obtain ⟨h0, h1⟩ := hv
  by_cases c1 : n < 253
  · have e2 : IntKind.wrap .u8 n = n := IntWalk.u8_in n ⟨h0, by omega⟩
    simp (config := {dsimp := false}) only [↓vp0, vz, vn, nq, tys, cellD, wideIR, if_true, if_false, implies_true, forall_const, ne_eq, reduceIte, reduceCtorEq, Nat.reduceEqDiff, Nat.reduceAdd, Nat.reduceMul, Nat.reduceLT, Nat.reduceSub, Nat.reduceLeDiff, Nat.reduceBNe, Nat.reduceBEq, Nat.reduceBeqDiff, List.range, List.range.loop, gl0, Tryd.ntmps38, Tryd.results38, retA, vb, c1, e2, decide_true, count_1 c1, spec_rdigits, sp_rdigits, c_rdigits, b_rdigits]
    refine ⟨[(2, none, 1)], ?_⟩
    simp (config := {dsimp := false}) only [↓vp0, vz, vn, nq, tys, cellD, wideIR, if_true, if_false, implies_true, forall_const, ne_eq, reduceIte, reduceCtorEq, Nat.reduceEqDiff, Nat.reduceAdd, Nat.reduceMul, Nat.reduceLT, Nat.reduceSub, Nat.reduceLeDiff, Nat.reduceBNe, Nat.reduceBEq, Nat.reduceBeqDiff, List.range, List.range.loop, gl0, Tryd.ntmps38, Tryd.results38, retA, adopt, retB, vb]
    exact ⟨[], [36], [], ⟨rfl, rfl⟩, ⟨rfl, rfl⟩, ⟨by simp, by simp⟩, by simp, rfl, rfl, ⟨_, rfl, rfl⟩, ⟨_, rfl, rfl⟩, id rfl⟩
  by_cases c2 : n < 65536
  · simp (config := {dsimp := false}) only [↓vp0, vz, vn, nq, tys, cellD, wideIR, if_true, if_false, implies_true, forall_const, ne_eq, reduceIte, reduceCtorEq, Nat.reduceEqDiff, Nat.reduceAdd, Nat.reduceMul, Nat.reduceLT, Nat.reduceSub, Nat.reduceLeDiff, Nat.reduceBNe, Nat.reduceBEq, Nat.reduceBeqDiff, List.range, List.range.loop, gl0, Tryd.ntmps38, Tryd.results38, retA, vb, c1, c2, decide_true, decide_false, count_2 c1 c2, spec_rdigits, sp_rdigits, c_rdigits, b_rdigits]
    refine ⟨by decide, by decide, hn, by simp [leI_len], [], ?_⟩
    simp (config := {dsimp := false}) only [↓vp0, vz, vn, nq, tys, cellD, wideIR, if_true, if_false, implies_true, forall_const, ne_eq, reduceIte, reduceCtorEq, Nat.reduceEqDiff, Nat.reduceAdd, Nat.reduceMul, Nat.reduceLT, Nat.reduceSub, Nat.reduceLeDiff, Nat.reduceBNe, Nat.reduceBEq, Nat.reduceBeqDiff, List.range, List.range.loop, gl0, Tryd.ntmps38, Tryd.results38, retA, adopt, retB, vb]
    exact ⟨[], [88], [], ⟨rfl, rfl⟩, ⟨rfl, rfl⟩, ⟨by simp, by simp⟩, by simp, rfl, by simp [getAll, S.tok, look, leI_len], ⟨_, rfl, rfl⟩, ⟨_, rfl, rfl⟩, id rfl⟩
  by_cases c3 : n < 4294967296
  · simp (config := {dsimp := false}) only [↓vp0, vz, vn, nq, tys, cellD, wideIR, if_true, if_false, implies_true, forall_const, ne_eq, reduceIte, reduceCtorEq, Nat.reduceEqDiff, Nat.reduceAdd, Nat.reduceMul, Nat.reduceLT, Nat.reduceSub, Nat.reduceLeDiff, Nat.reduceBNe, Nat.reduceBEq, Nat.reduceBeqDiff, List.range, List.range.loop, gl0, Tryd.ntmps38, Tryd.results38, retA, vb, c1, c2, c3, decide_true, decide_false, count_3 c1 c2 c3, spec_rdigits, sp_rdigits, c_rdigits, b_rdigits]
    refine ⟨by decide, by decide, hn, by simp [leI_len], [], ?_⟩
    simp (config := {dsimp := false}) only [↓vp0, vz, vn, nq, tys, cellD, wideIR, if_true, if_false, implies_true, forall_const, ne_eq, reduceIte, reduceCtorEq, Nat.reduceEqDiff, Nat.reduceAdd, Nat.reduceMul, Nat.reduceLT, Nat.reduceSub, Nat.reduceLeDiff, Nat.reduceBNe, Nat.reduceBEq, Nat.reduceBeqDiff, List.range, List.range.loop, gl0, Tryd.ntmps38, Tryd.results38, retA, adopt, retB, vb]
    exact ⟨[], [96], [], ⟨rfl, rfl⟩, ⟨rfl, rfl⟩, ⟨by simp, by simp⟩, by simp, rfl, by simp [getAll, S.tok, look, leI_len], ⟨_, rfl, rfl⟩, ⟨_, rfl, rfl⟩, id rfl⟩
  · simp (config := {dsimp := false}) only [↓vp0, vz, vn, nq, tys, cellD, wideIR, if_true, if_false, implies_true, forall_const, ne_eq, reduceIte, reduceCtorEq, Nat.reduceEqDiff, Nat.reduceAdd, Nat.reduceMul, Nat.reduceLT, Nat.reduceSub, Nat.reduceLeDiff, Nat.reduceBNe, Nat.reduceBEq, Nat.reduceBeqDiff, List.range, List.range.loop, gl0, Tryd.ntmps38, Tryd.results38, retA, vb, c1, c2, c3, decide_true, decide_false, count_4 c1 c2 c3, spec_rdigits, sp_rdigits, c_rdigits, b_rdigits]
    refine ⟨by decide, by decide, hn, by simp [leI_len], [], ?_⟩
    simp (config := {dsimp := false}) only [↓vp0, vz, vn, nq, tys, cellD, wideIR, if_true, if_false, implies_true, forall_const, ne_eq, reduceIte, reduceCtorEq, Nat.reduceEqDiff, Nat.reduceAdd, Nat.reduceMul, Nat.reduceLT, Nat.reduceSub, Nat.reduceLeDiff, Nat.reduceBNe, Nat.reduceBEq, Nat.reduceBeqDiff, List.range, List.range.loop, gl0, Tryd.ntmps38, Tryd.results38, retA, adopt, retB, vb]
    exact ⟨[], [88], [], ⟨rfl, rfl⟩, ⟨rfl, rfl⟩, ⟨by simp, by simp⟩, by simp, rfl, by simp [getAll, S.tok, look, leI_len], ⟨_, rfl, rfl⟩, ⟨_, rfl, rfl⟩, id rfl⟩
theorem c_rtext : Contract E 39 := by
  refine contract_seeT hE hgl (show E.P.funcs[39]? = some Tryd.f39 from Tryd.func39) rfl (p := sp_rtext) (fun _ _ _ => rfl) ?_
  intro args hv
  unfold sp_rtext at hv ⊢
  split at hv
  case h_2 => exact hv.elim
  rename_i s
  refine ⟨by simp, Nat.le_of_ble_eq_true rfl, ?_⟩
  simp only [givesIf] at hv
  have e1 : IntKind.wrap .u64 (s.length : Int) = (s.length : Int) := IntWalk.u64_in _ (by omega)
  simp (config := {dsimp := false}) only [↓vp0, vz, vn, nq, tys, cellD, wideIR, if_true, if_false, implies_true, forall_const, ne_eq, reduceIte, reduceCtorEq, Nat.reduceEqDiff, Nat.reduceAdd, Nat.reduceMul, Nat.reduceLT, Nat.reduceSub, Nat.reduceLeDiff, Nat.reduceBNe, Nat.reduceBEq, Nat.reduceBeqDiff, List.range, List.range.loop, gl0, Tryd.ntmps39, Tryd.results39, vb, PF.toR, givesIf, e1, spec_rcount, sp_rcount, c_rcount, b_rcount]
  have := count_len (s.length : Int)
  exact ⟨⟨by omega, by omega⟩, by omega, rfl⟩
theorem c_rmany : Contract E 25 := by
  refine contract_seeT hE hgl (show E.P.funcs[25]? = some Tryd.f25 from Tryd.func25) rfl (p := sp_rmany) (fun _ _ _ => rfl) ?_
  intro args hv
  unfold sp_rmany at hv ⊢
  split at hv
  case h_2 => exact hv.elim
  rename_i n
  refine ⟨by simp, Nat.le_of_ble_eq_true rfl, ?_⟩
  simp (config := {dsimp := false}) only [↓vp0, vz, vn, nq, tys, cellD, wideIR, if_true, if_false, implies_true, forall_const, ne_eq, reduceIte, reduceCtorEq, Nat.reduceEqDiff, Nat.reduceAdd, Nat.reduceMul, Nat.reduceLT, Nat.reduceSub, Nat.reduceLeDiff, Nat.reduceBNe, Nat.reduceBEq, Nat.reduceBeqDiff, List.range, List.range.loop, gl0, Tryd.ntmps25, Tryd.results25]
  simp only [gives, manyP, decide_eq_true_eq, decide_eq_false_iff_not]
  refine ⟨fun h => by rw [if_pos h], fun h => ⟨fun h2 => by rw [if_neg h, if_pos h2], fun h2 => by rw [if_neg h, if_neg h2]⟩⟩
end Go.Vi.TP
end

section
set_option linter.unusedVariables false
set_option linter.unusedSimpArgs false
set_option maxHeartbeats 0
set_option maxRecDepth 20000
namespace Go.Vi.TP
open Go.Proofs

theorem any_long {l : L2} : (∀ j, j < l.length → longW (l.getD j default) = false) → l.any longW = false := fun h => List.any_eq_false.2 fun x hx => by
  obtain ⟨i, h1, rfl⟩ := List.getElem_of_mem hx
  have := h i h1
  have e : l.getD i default = l[i] := by simp [List.getD, h1]
  rw [e] at this
  rw [this]; decide
theorem c_rcheck : Contract E 11 := by
  refine contract_seeT hE hgl (show E.P.funcs[11]? = some Tryd.f11 from Tryd.func11) rfl (p := sp_tcheck) (fun _ _ _ => rfl) ?_
  intro args hv
  unfold sp_tcheck at hv ⊢
  split at hv
  case h_2 => exact hv.elim
  rename_i v is os l
  refine ⟨by simp, Nat.le_of_ble_eq_true rfl, ?_⟩
  simp only [givesIf] at hv
  obtain ⟨t, rfl, rfl, rfl, rfl, ht, he⟩ := okT_tx hv
  have hmi := ht.mi
  have hmo := ht.mo
  have eta : (⟨t.ver, t.ins, t.outs, t.lock⟩ : TxP) = t := rfl
  by_cases h1 : manyP t.ins.length 16 = 0
  case neg => simp (config := {dsimp := false}) only [↓vp0, vz, vn, nq, tys, cellD, wideIR, if_true, if_false, implies_true, forall_const, ne_eq, reduceIte, reduceCtorEq, Nat.reduceEqDiff, Nat.reduceAdd, Nat.reduceMul, Nat.reduceLT, Nat.reduceSub, Nat.reduceLeDiff, Nat.reduceBNe, Nat.reduceBEq, Nat.reduceBeqDiff, List.range, List.range.loop, gl0, Tryd.ntmps11, Tryd.results11, PF.toR, givesIf, gives, h1, decide_false, eta, check_1 h1, spec_rmany, sp_rmany, c_rmany, b_rmany]
  by_cases h2 : manyP t.outs.length 16 = 0
  case neg => simp (config := {dsimp := false}) only [↓vp0, vz, vn, nq, tys, cellD, wideIR, if_true, if_false, implies_true, forall_const, ne_eq, reduceIte, reduceCtorEq, Nat.reduceEqDiff, Nat.reduceAdd, Nat.reduceMul, Nat.reduceLT, Nat.reduceSub, Nat.reduceLeDiff, Nat.reduceBNe, Nat.reduceBEq, Nat.reduceBeqDiff, List.range, List.range.loop, gl0, Tryd.ntmps11, Tryd.results11, PF.toR, givesIf, gives, h1, h2, eq_self, decide_true, decide_false, eta, check_2 h1 h2, spec_rmany, sp_rmany, c_rmany, b_rmany]
  simp (config := {dsimp := false}) only [↓vp0, vz, vn, nq, tys, cellD, wideIR, if_true, if_false, implies_true, forall_const, ne_eq, reduceIte, reduceCtorEq, Nat.reduceEqDiff, Nat.reduceAdd, Nat.reduceMul, Nat.reduceLT, Nat.reduceSub, Nat.reduceLeDiff, Nat.reduceBNe, Nat.reduceBEq, Nat.reduceBeqDiff, List.range, List.range.loop, gl0, Tryd.ntmps11, Tryd.results11, PF.toR, givesIf, gives, h1, h2, eq_self, decide_true, eta, spec_rmany, sp_rmany, c_rmany, b_rmany]
  refine loopI {k : Nat // k ≤ t.ins.length ∧ ∀ j, j < k → inOkP (t.ins.getD j default) = true} (fun k => [(4, .int .i64 (k.1 : Nat)), (1, .bp 0 0)]) (fun _ => ⟨[(0, .agg [.int .u32 t.ver, .sl .no 36 (insD t.ins), .sl .no 2 (outsD t.outs), .int .u32 t.lock])], [], 68⟩) (fun k => t.ins.length - k.1) ⟨0, by simp⟩ (fun _ => rfl) ?_ ?_
  · exact ⟨⟨wkD_eq rfl, rfl, wkD_eq rfl, rfl, trivial⟩, ⟨rfl, Nat.le_of_ble_eq_true rfl, rfl, trivial⟩, trivial⟩
  rintro ⟨k, hk, hb⟩
  simp (config := {dsimp := false}) only [↓vp0, vz, vn, nq, tys, cellD, wideIR, if_true, if_false, implies_true, forall_const, ne_eq, reduceIte, reduceCtorEq, Nat.reduceEqDiff, Nat.reduceAdd, Nat.reduceMul, Nat.reduceLT, Nat.reduceSub, Nat.reduceLeDiff, Nat.reduceBNe, Nat.reduceBEq, Nat.reduceBeqDiff, List.range, List.range.loop, gl0, Tryd.ntmps11, Tryd.results11]
  refine ⟨fun hh => ?_, fun hh => ?_⟩
  · have hh := of_decide_eq_true hh
    have hk' : k < t.ins.length := by omega
    have g1 := insD_get t.ins k hk'
    have hx := ht.ins _ (getD_memI hk')
    have hmw := hx.many
    have hms := hx.script.2
    by_cases hl : (t.ins.getD k default).script.length ≤ 128
    case neg =>
      have hp : inOkP (t.ins.getD k default) = false := by simp only [inOkP, decide_eq_false hl, Bool.false_and]
      have d1 : decide ((128 : Int) < ((t.ins.getD k default).script.length : Nat)) = true := decide_eq_true (by omega)
      simp (config := {dsimp := false}) only [↓vp0, vz, vn, nq, tys, cellD, wideIR, if_true, if_false, implies_true, forall_const, ne_eq, reduceIte, reduceCtorEq, Nat.reduceEqDiff, Nat.reduceAdd, Nat.reduceMul, Nat.reduceLT, Nat.reduceSub, Nat.reduceLeDiff, Nat.reduceBNe, Nat.reduceBEq, Nat.reduceBeqDiff, List.range, List.range.loop, gl0, Tryd.ntmps11, Tryd.results11, Int.toNat_natCast, g1, inD, d1, givesIf, check_3 h1 h2 (getD_memI hk') hp]
      exact ⟨by omega, by omega⟩
    have d1 : decide ((128 : Int) < ((t.ins.getD k default).script.length : Nat)) = false := decide_eq_false (by omega)
    by_cases hw : (t.ins.getD k default).wit.length ≤ 8
    case neg =>
      have hp : inOkP (t.ins.getD k default) = false := by simp only [inOkP, decide_eq_false hw, Bool.false_and, Bool.and_false]
      have d2 : decide ((8 : Int) < ((t.ins.getD k default).wit.length : Nat)) = true := decide_eq_true (by omega)
      simp (config := {dsimp := false}) only [↓vp0, vz, vn, nq, tys, cellD, wideIR, if_true, if_false, implies_true, forall_const, ne_eq, reduceIte, reduceCtorEq, Nat.reduceEqDiff, Nat.reduceAdd, Nat.reduceMul, Nat.reduceLT, Nat.reduceSub, Nat.reduceLeDiff, Nat.reduceBNe, Nat.reduceBEq, Nat.reduceBeqDiff, List.range, List.range.loop, gl0, Tryd.ntmps11, Tryd.results11, Int.toNat_natCast, g1, inD, d1, d2, givesIf, check_3 h1 h2 (getD_memI hk') hp]
      exact ⟨by omega, by omega, by omega, by omega⟩
    have d2 : decide ((8 : Int) < ((t.ins.getD k default).wit.length : Nat)) = false := decide_eq_false (by omega)
    simp (config := {dsimp := false}) only [↓vp0, vz, vn, nq, tys, cellD, wideIR, if_true, if_false, implies_true, forall_const, ne_eq, reduceIte, reduceCtorEq, Nat.reduceEqDiff, Nat.reduceAdd, Nat.reduceMul, Nat.reduceLT, Nat.reduceSub, Nat.reduceLeDiff, Nat.reduceBNe, Nat.reduceBEq, Nat.reduceBeqDiff, List.range, List.range.loop, gl0, Tryd.ntmps11, Tryd.results11, Int.toNat_natCast, g1, inD, d1, d2]
    refine ⟨by omega, by omega, by omega, by omega, ?_⟩
    refine loopI {m : Nat // m ≤ (t.ins.getD k default).wit.length ∧ ∀ j, j < m → longW ((t.ins.getD k default).wit.getD j default) = false} (fun m => [(5, .int .i64 (m.1 : Nat)), (4, .int .i64 (k : Nat)), (1, .bp 0 0)]) (fun _ => ⟨[(0, .agg [.int .u32 t.ver, .sl .no 36 (insD t.ins), .sl .no 2 (outsD t.outs), .int .u32 t.lock])], [], 164⟩) (fun m => (t.ins.getD k default).wit.length - m.1) ⟨0, by simp⟩ (fun _ => rfl) ?_ ?_
    · exact ⟨⟨wkD_eq rfl, rfl, wkD_eq rfl, rfl, wkD_eq rfl, rfl, trivial⟩, ⟨rfl, Nat.le_of_ble_eq_true rfl, rfl, trivial⟩, trivial⟩
    rintro ⟨m, hm, hbm⟩
    simp (config := {dsimp := false}) only [↓vp0, vz, vn, nq, tys, cellD, wideIR, if_true, if_false, implies_true, forall_const, ne_eq, reduceIte, reduceCtorEq, Nat.reduceEqDiff, Nat.reduceAdd, Nat.reduceMul, Nat.reduceLT, Nat.reduceSub, Nat.reduceLeDiff, Nat.reduceBNe, Nat.reduceBEq, Nat.reduceBeqDiff, List.range, List.range.loop, gl0, Tryd.ntmps11, Tryd.results11, Int.toNat_natCast, g1, inD]
    refine ⟨by omega, by omega, fun hh2 => ?_, fun hh2 => ?_⟩
    · have hh2 := of_decide_eq_true hh2
      have hm' : m < (t.ins.getD k default).wit.length := by omega
      have g2 : (slis (t.ins.getD k default).wit).getD m .any = .sli .no .u8 ((t.ins.getD k default).wit.getD m default) := slis_get _ m hm'
      have hwm := (hx.wit _ (getD_memI hm')).2
      cases hq : longW ((t.ins.getD k default).wit.getD m default)
      · have d3 : decide ((128 : Int) < (((t.ins.getD k default).wit.getD m default).length : Nat)) = false := decide_eq_false (by have := of_decide_eq_false hq; omega)
        simp (config := {dsimp := false}) only [↓vp0, vz, vn, nq, tys, cellD, wideIR, if_true, if_false, implies_true, forall_const, ne_eq, reduceIte, reduceCtorEq, Nat.reduceEqDiff, Nat.reduceAdd, Nat.reduceMul, Nat.reduceLT, Nat.reduceSub, Nat.reduceLeDiff, Nat.reduceBNe, Nat.reduceBEq, Nat.reduceBeqDiff, List.range, List.range.loop, gl0, Tryd.ntmps11, Tryd.results11, Int.toNat_natCast, g1, g2, inD, d3]
        refine ⟨by omega, by omega, by omega, by omega, ⟨m + 1, by omega, fun j hj => ?_⟩, ⟨⟨wkD_eq ?_, rfl, wkD_eq rfl, rfl, wkD_eq rfl, rfl, trivial⟩, ⟨rfl, Nat.le_of_ble_eq_true rfl, rfl, trivial⟩, trivial⟩, by (try simp only); omega⟩
        · rcases Nat.lt_or_ge j m with h7 | h7
          · exact hbm j h7
          · obtain rfl : j = m := by omega
            exact hq
        · exact some_i64 (by (try simp only); omega)
      · have d3 : decide ((128 : Int) < (((t.ins.getD k default).wit.getD m default).length : Nat)) = true := decide_eq_true (by have := of_decide_eq_true hq; omega)
        have hp : inOkP (t.ins.getD k default) = false := by
          have : (t.ins.getD k default).wit.any longW = true := List.any_eq_true.2 ⟨_, getD_memI hm', hq⟩
          simp only [inOkP, this, Bool.not_true, Bool.and_false]
        simp (config := {dsimp := false}) only [↓vp0, vz, vn, nq, tys, cellD, wideIR, if_true, if_false, implies_true, forall_const, ne_eq, reduceIte, reduceCtorEq, Nat.reduceEqDiff, Nat.reduceAdd, Nat.reduceMul, Nat.reduceLT, Nat.reduceSub, Nat.reduceLeDiff, Nat.reduceBNe, Nat.reduceBEq, Nat.reduceBeqDiff, List.range, List.range.loop, gl0, Tryd.ntmps11, Tryd.results11, Int.toNat_natCast, g1, g2, inD, d3, givesIf, check_3 h1 h2 (getD_memI hk') hp]
        exact ⟨by omega, by omega, by omega, by omega⟩
    · have hh2 := of_decide_eq_false hh2
      obtain rfl : m = (t.ins.getD k default).wit.length := by omega
      have hp : inOkP (t.ins.getD k default) = true := by simp only [inOkP, decide_eq_true hl, decide_eq_true hw, any_long hbm, Bool.not_false, Bool.and_self]
      refine ⟨⟨k + 1, by omega, fun j hj => ?_⟩, ⟨⟨wkD_eq ?_, rfl, wkD_eq rfl, rfl, trivial⟩, ⟨rfl, Nat.le_of_ble_eq_true rfl, rfl, trivial⟩, trivial⟩, by (try simp only); omega⟩
      · rcases Nat.lt_or_ge j k with h7 | h7
        · exact hb j h7
        · obtain rfl : j = k := by omega
          exact hp
      · exact some_i64 (by (try simp only); omega)
  have hh := of_decide_eq_false hh
  obtain rfl : k = t.ins.length := by omega
  have hbi := hb
  refine loopI {k : Nat // k ≤ t.outs.length ∧ ∀ j, j < k → outOkP (t.outs.getD j default) = true} (fun k => [(6, .int .i64 (k.1 : Nat)), (1, .bp 0 0)]) (fun _ => ⟨[(0, .agg [.int .u32 t.ver, .sl .no 36 (insD t.ins), .sl .no 2 (outsD t.outs), .int .u32 t.lock])], [], 92⟩) (fun k => t.outs.length - k.1) ⟨0, by simp⟩ (fun _ => rfl) ?_ ?_
  · exact ⟨⟨wkD_eq rfl, rfl, wkD_eq rfl, rfl, trivial⟩, ⟨rfl, Nat.le_of_ble_eq_true rfl, rfl, trivial⟩, trivial⟩
  rintro ⟨k, hk, hb⟩
  simp (config := {dsimp := false}) only [↓vp0, vz, vn, nq, tys, cellD, wideIR, if_true, if_false, implies_true, forall_const, ne_eq, reduceIte, reduceCtorEq, Nat.reduceEqDiff, Nat.reduceAdd, Nat.reduceMul, Nat.reduceLT, Nat.reduceSub, Nat.reduceLeDiff, Nat.reduceBNe, Nat.reduceBEq, Nat.reduceBeqDiff, List.range, List.range.loop, gl0, Tryd.ntmps11, Tryd.results11]
  refine ⟨fun hh => ?_, fun hh => ?_⟩
  · have hh := of_decide_eq_true hh
    have hk' : k < t.outs.length := by omega
    have g1 := outsD_get t.outs k hk'
    have hx := ht.outs _ (getD_memI hk')
    have hms := hx.script.2
    cases hp : outOkP (t.outs.getD k default)
    · have d1 : decide ((128 : Int) < ((t.outs.getD k default).script.length : Nat)) = true := decide_eq_true (by have := of_decide_eq_false hp; omega)
      simp (config := {dsimp := false}) only [↓vp0, vz, vn, nq, tys, cellD, wideIR, if_true, if_false, implies_true, forall_const, ne_eq, reduceIte, reduceCtorEq, Nat.reduceEqDiff, Nat.reduceAdd, Nat.reduceMul, Nat.reduceLT, Nat.reduceSub, Nat.reduceLeDiff, Nat.reduceBNe, Nat.reduceBEq, Nat.reduceBeqDiff, List.range, List.range.loop, gl0, Tryd.ntmps11, Tryd.results11, Int.toNat_natCast, g1, outD, d1, givesIf, check_4 h1 h2 hbi (getD_memI hk') hp]
      exact ⟨by omega, by omega⟩
    · have d1 : decide ((128 : Int) < ((t.outs.getD k default).script.length : Nat)) = false := decide_eq_false (by have := of_decide_eq_true hp; omega)
      simp (config := {dsimp := false}) only [↓vp0, vz, vn, nq, tys, cellD, wideIR, if_true, if_false, implies_true, forall_const, ne_eq, reduceIte, reduceCtorEq, Nat.reduceEqDiff, Nat.reduceAdd, Nat.reduceMul, Nat.reduceLT, Nat.reduceSub, Nat.reduceLeDiff, Nat.reduceBNe, Nat.reduceBEq, Nat.reduceBeqDiff, List.range, List.range.loop, gl0, Tryd.ntmps11, Tryd.results11, Int.toNat_natCast, g1, outD, d1]
      refine ⟨by omega, by omega, ⟨k + 1, by omega, fun j hj => ?_⟩, ⟨⟨wkD_eq ?_, rfl, wkD_eq rfl, rfl, trivial⟩, ⟨rfl, Nat.le_of_ble_eq_true rfl, rfl, trivial⟩, trivial⟩, by (try simp only); omega⟩
      · rcases Nat.lt_or_ge j k with h7 | h7
        · exact hb j h7
        · obtain rfl : j = k := by omega
          exact hp
      · exact some_i64 (by (try simp only); omega)
  have hh := of_decide_eq_false hh
  obtain rfl : k = t.outs.length := by omega
  simp (config := {dsimp := false}) only [↓vp0, vz, vn, nq, tys, cellD, wideIR, if_true, if_false, implies_true, forall_const, ne_eq, reduceIte, reduceCtorEq, Nat.reduceEqDiff, Nat.reduceAdd, Nat.reduceMul, Nat.reduceLT, Nat.reduceSub, Nat.reduceLeDiff, Nat.reduceBNe, Nat.reduceBEq, Nat.reduceBeqDiff, List.range, List.range.loop, gl0, Tryd.ntmps11, Tryd.results11, givesIf, check_5 h1 h2 hbi hb]
  all_goals rfl
end Go.Vi.TP
end

section
set_option linter.unusedVariables false
set_option linter.unusedSimpArgs false
set_option maxHeartbeats 0
set_option maxRecDepth 20000
namespace Go.Vi.TP
open Go.Proofs

theorem c_rwitnessed : Contract E 13 := by
  refine contract_seeT hE hgl (show E.P.funcs[13]? = some Tryd.f13 from Tryd.func13) rfl (p := sp_twitnessed) (fun _ _ _ => rfl) ?_
  intro args hv
  unfold sp_twitnessed at hv ⊢
  split at hv
  case h_2 => exact hv.elim
  rename_i v is os l
  refine ⟨by simp, Nat.le_of_ble_eq_true rfl, ?_⟩
  simp only [givesIf] at hv
  obtain ⟨t, rfl, rfl, rfl, rfl, ht, he⟩ := okT_tx hv
  have hmi := ht.mi
  simp (config := {dsimp := false}) only [↓vp0, vz, vn, nq, tys, cellD, wideIR, if_true, if_false, implies_true, forall_const, ne_eq, reduceIte, reduceCtorEq, Nat.reduceEqDiff, Nat.reduceAdd, Nat.reduceMul, Nat.reduceLT, Nat.reduceSub, Nat.reduceLeDiff, Nat.reduceBNe, Nat.reduceBEq, Nat.reduceBeqDiff, List.range, List.range.loop, gl0, Tryd.ntmps13, Tryd.results13]
  refine loopI {k : Nat // k ≤ t.ins.length ∧ ∀ j, j < k → hasWit (t.ins.getD j default) = false} (fun k => [(3, .int .i64 (k.1 : Nat)), (1, .bp 0 0)]) (fun _ => ⟨[(0, .agg [.int .u32 t.ver, .sl .no 36 (insD t.ins), .sl .no 2 (outsD t.outs), .int .u32 t.lock])], [], 12⟩) (fun k => t.ins.length - k.1) ⟨0, by simp⟩ (fun _ => rfl) ?_ ?_
  · exact ⟨⟨wkD_eq rfl, rfl, wkD_eq rfl, rfl, trivial⟩, ⟨rfl, Nat.le_of_ble_eq_true rfl, rfl, trivial⟩, trivial⟩
  rintro ⟨k, hk, hb⟩
  simp (config := {dsimp := false}) only [↓vp0, vz, vn, nq, tys, cellD, wideIR, if_true, if_false, implies_true, forall_const, ne_eq, reduceIte, reduceCtorEq, Nat.reduceEqDiff, Nat.reduceAdd, Nat.reduceMul, Nat.reduceLT, Nat.reduceSub, Nat.reduceLeDiff, Nat.reduceBNe, Nat.reduceBEq, Nat.reduceBeqDiff, List.range, List.range.loop, gl0, Tryd.ntmps13, Tryd.results13]
  refine ⟨fun hh => ?_, fun hh => ?_⟩
  · have hh := of_decide_eq_true hh
    have hk' : k < t.ins.length := by omega
    have g1 := insD_get t.ins k hk'
    cases hp : hasWit (t.ins.getD k default)
    · have d1 : decide ((0 : Int) < ((t.ins.getD k default).wit.length : Nat)) = false := decide_eq_false (by have := of_decide_eq_false hp; omega)
      simp (config := {dsimp := false}) only [↓vp0, vz, vn, nq, tys, cellD, wideIR, if_true, if_false, implies_true, forall_const, ne_eq, reduceIte, reduceCtorEq, Nat.reduceEqDiff, Nat.reduceAdd, Nat.reduceMul, Nat.reduceLT, Nat.reduceSub, Nat.reduceLeDiff, Nat.reduceBNe, Nat.reduceBEq, Nat.reduceBeqDiff, List.range, List.range.loop, gl0, Tryd.ntmps13, Tryd.results13, Int.toNat_natCast, g1, inD, d1]
      refine ⟨by omega, by omega, ⟨k + 1, by omega, fun j hj => ?_⟩, ⟨⟨wkD_eq ?_, rfl, wkD_eq rfl, rfl, trivial⟩, ⟨rfl, Nat.le_of_ble_eq_true rfl, rfl, trivial⟩, trivial⟩, by (try simp only); omega⟩
      · rcases Nat.lt_or_ge j k with h7 | h7
        · exact hb j h7
        · obtain rfl : j = k := by omega
          exact hp
      · exact some_i64 (by (try simp only); omega)
    · have d1 : decide ((0 : Int) < ((t.ins.getD k default).wit.length : Nat)) = true := decide_eq_true (by have := of_decide_eq_true hp; omega)
      have ha : t.ins.any hasWit = true := List.any_eq_true.2 ⟨_, getD_memI hk', hp⟩
      simp (config := {dsimp := false}) only [↓vp0, vz, vn, nq, tys, cellD, wideIR, if_true, if_false, implies_true, forall_const, ne_eq, reduceIte, reduceCtorEq, Nat.reduceEqDiff, Nat.reduceAdd, Nat.reduceMul, Nat.reduceLT, Nat.reduceSub, Nat.reduceLeDiff, Nat.reduceBNe, Nat.reduceBEq, Nat.reduceBeqDiff, List.range, List.range.loop, gl0, Tryd.ntmps13, Tryd.results13, Int.toNat_natCast, g1, inD, d1, givesIf, ha]
      exact ⟨by omega, by omega⟩
  · have hh := of_decide_eq_false hh
    obtain rfl : k = t.ins.length := by omega
    have ha : t.ins.any hasWit = false := List.any_eq_false.2 fun x hx => by
      obtain ⟨i, h1, rfl⟩ := List.getElem_of_mem hx
      have := hb i h1
      have e : t.ins.getD i default = t.ins[i] := by simp [List.getD, h1]
      rw [e] at this
      rw [this]; decide
    simp (config := {dsimp := false}) only [↓vp0, vz, vn, nq, tys, cellD, wideIR, if_true, if_false, implies_true, forall_const, ne_eq, reduceIte, reduceCtorEq, Nat.reduceEqDiff, Nat.reduceAdd, Nat.reduceMul, Nat.reduceLT, Nat.reduceSub, Nat.reduceLeDiff, Nat.reduceBNe, Nat.reduceBEq, Nat.reduceBeqDiff, List.range, List.range.loop, gl0, Tryd.ntmps13, Tryd.results13, givesIf, ha]
    all_goals rfl
theorem c_rlay : Contract E 21 := by
  refine contract_seeT hE hgl (show E.P.funcs[21]? = some Tryd.f21 from Tryd.func21) rfl (p := sp_rlay) (fun _ _ _ => rfl) ?_
  intro args hv
  unfold sp_rlay at hv ⊢
  split at hv
  case h_2 => exact hv.elim
  rename_i v is os l full
  refine ⟨by simp, Nat.le_of_ble_eq_true rfl, ?_⟩
  simp only [givesIf] at hv
  obtain ⟨hok, hlen⟩ := hv
  obtain ⟨t, rfl, rfl, rfl, rfl, ht, -⟩ := okT_tx hok
  simp only [ins_D, outs_D] at hlen ⊢
  have hmi := ht.mi
  have hmo := ht.mo
  have u1 : IntKind.wrap .u64 t.ver = t.ver := IntWalk.u64_in _ (by have := ht.ver.1; have := ht.ver.2; omega)
  have u2 : IntKind.wrap .u64 t.lock = t.lock := IntWalk.u64_in _ (by have := ht.lock.1; have := ht.lock.2; omega)
  have n1 : IntKind.wrap .u64 (t.ins.length : Int) = (t.ins.length : Int) := IntWalk.u64_in _ (by omega)
  have n2 : IntKind.wrap .u64 (t.outs.length : Int) = (t.outs.length : Int) := IntWalk.u64_in _ (by omega)
  have c1 := count_len (t.ins.length : Int)
  have c2 := count_len (t.outs.length : Int)
  have t4 : Int.toNat 4 = 4 := rfl
  have hlay : layI ⟨t.ver, t.ins, t.outs, t.lock⟩ full = leI 4 t.ver ++ ((if full = true then [0, 1] else []) ++ ((countI t.ins.length ++ t.ins.flatMap inI) ++ ((countI t.outs.length ++ t.outs.flatMap outI) ++ ((if full = true then t.ins.flatMap witI else []) ++ leI 4 t.lock)))) := by
    simp only [layI, List.append_assoc]
  rw [hlay] at hlen
  simp only [List.length_append, leI_len] at hlen
  have tk : ∀ (p : List Int) (m : Nat), m < p.length → p.take (m + 1) = p.take m ++ [p.getD m 0] := fun p m h => by
    rw [List.take_add_one]; simp [List.getD, h]
  cases full
  · obtain ⟨P, hP⟩ : ∃ P, P = leI 4 t.ver ++ countI t.ins.length := ⟨_, rfl⟩
    have hPl : P.length = 4 + (countI t.ins.length).length := by rw [hP]; simp only [List.length_append, List.length_cons, leI_len]; try omega
    simp only [Bool.false_eq_true, if_false, List.length_nil, List.length_cons] at hlen
    simp (config := {dsimp := false}) only [↓vp0, vz, vn, nq, tys, cellD, wideIR, if_true, if_false, implies_true, forall_const, ne_eq, reduceIte, reduceCtorEq, Nat.reduceEqDiff, Nat.reduceAdd, Nat.reduceMul, Nat.reduceLT, Nat.reduceSub, Nat.reduceLeDiff, Nat.reduceBNe, Nat.reduceBEq, Nat.reduceBeqDiff, List.range, List.range.loop, gl0, Tryd.ntmps21, Tryd.results21, vb, u1, n1, spec_tdigits, sp_tdigits, c_tdigits, b_tdigits, spec_rcount, sp_rcount, c_rcount, b_rcount]
    refine ⟨by decide, by decide, ⟨ht.ver.1, by have := ht.ver.2; omega⟩, ⟨by omega, by omega⟩, some_tok (by rw [leI_len]), by simp only [leI_len, t4]; omega, ?_⟩
    refine loopI (Fin (t.ins.length + 1)) (fun k => [(6, .int .i64 (k.1 : Nat)), (5, .sli (.tok 20) .u8 (P ++ (t.ins.take k.1).flatMap inI)), (1, .bool false), (2, .bp 0 0)]) (fun k => ⟨[(0, .agg [.int .u32 t.ver, .sl .no 36 (insD t.ins), .sl .no 2 (outsD t.outs), .int .u32 t.lock])], [(20, ((P ++ (t.ins.take k.1).flatMap inI).length, 1))], 68⟩) (fun k => t.ins.length - k.1) 0 (fun _ => rfl) ?_ ?_
    · refine ⟨⟨wkD_eq rfl, rfl, wkD_eq ?_, rfl, wkD_eq rfl, rfl, wkD_eq rfl, rfl, trivial⟩, ⟨rfl, Nat.le_of_ble_eq_true rfl, rfl, trivial⟩, ⟨?_, Nat.le_of_ble_eq_true rfl, trivial⟩⟩
      · exact some_sli (by rw [hP]; simp [t4])
      · exact some_tok (by rw [hP]; simp only [List.length_append, List.length_cons, leI_len, t4, Fin.val_zero, List.take_zero, List.flatMap_nil, List.length_nil]; omega)
    · rintro ⟨k, hk⟩
      simp (config := {dsimp := false}) only [↓vp0, vz, vn, nq, tys, cellD, wideIR, if_true, if_false, implies_true, forall_const, ne_eq, reduceIte, reduceCtorEq, Nat.reduceEqDiff, Nat.reduceAdd, Nat.reduceMul, Nat.reduceLT, Nat.reduceSub, Nat.reduceLeDiff, Nat.reduceBNe, Nat.reduceBEq, Nat.reduceBeqDiff, List.range, List.range.loop, gl0, Tryd.ntmps21, Tryd.results21, vb, n2, spec_rcount, sp_rcount, c_rcount, b_rcount]
      refine ⟨fun hh => ?_, fun hh => ?_⟩
      · have hh := of_decide_eq_true hh
        have hk' : k < t.ins.length := by omega
        have g1 := insD_get t.ins k hk'
        have hx := ht.ins _ (getD_memI hk')
        have hfl := flat_le inI t.ins k hk'
        have hsn := flat_snoc inI t.ins k hk'
        have hs2 := hx.script.2
        have hil : (inI (t.ins.getD k default)).length = 32 + 4 + (textI (t.ins.getD k default).script).length + 4 := by simp only [inI, List.length_append, leI_len, hx.prev]
        have hsl : (t.ins.getD k default).script.length ≤ (textI (t.ins.getD k default).script).length := by simp only [textI, List.length_append]; omega
        obtain ⟨Y, hY⟩ : ∃ Y, Y = P ++ (t.ins.take k).flatMap inI := ⟨_, rfl⟩
        have hYl : Y.length + (inI (t.ins.getD k default)).length < 1000000 := by rw [hY]; simp only [List.length_append]; omega
        have w1 : IntKind.wrap .u64 (t.ins.getD k default).ix = (t.ins.getD k default).ix := IntWalk.u64_in _ (by have := hx.ix.1; have := hx.ix.2; omega)
        have w2 : IntKind.wrap .u64 (t.ins.getD k default).seq = (t.ins.getD k default).seq := IntWalk.u64_in _ (by have := hx.seq.1; have := hx.seq.2; omega)
        rw [← hY]
        simp (config := {dsimp := false}) only [↓vp0, vz, vn, nq, tys, cellD, wideIR, if_true, if_false, implies_true, forall_const, ne_eq, reduceIte, reduceCtorEq, Nat.reduceEqDiff, Nat.reduceAdd, Nat.reduceMul, Nat.reduceLT, Nat.reduceSub, Nat.reduceLeDiff, Nat.reduceBNe, Nat.reduceBEq, Nat.reduceBeqDiff, List.range, List.range.loop, gl0, Tryd.ntmps21, Tryd.results21, Int.toNat_natCast, g1, inD]
        refine ⟨by omega, by omega, ?_⟩
        refine loopI (Fin 33) (fun m => [(8, .int .i64 (m.1 : Nat)), (7, .bp 108 0), (5, .sli (.tok 20) .u8 (Y ++ (t.ins.getD k default).prev.take m.1)), (6, .int .i64 (k : Nat)), (1, .bool false), (2, .bp 0 0)]) (fun m => ⟨[(0, .agg [.int .u32 t.ver, .sl .no 36 (insD t.ins), .sl .no 2 (outsD t.outs), .int .u32 t.lock]), (108, inD (t.ins.getD k default))], [(20, ((Y ++ (t.ins.getD k default).prev.take m.1).length, 1))], 120⟩) (fun m => 32 - m.1) 0 (fun _ => rfl) ?_ ?_
        · refine ⟨⟨wkD_eq rfl, rfl, wkD_eq rfl, rfl, wkD_eq ?_, rfl, wkD_eq rfl, rfl, wkD_eq rfl, rfl, wkD_eq rfl, rfl, trivial⟩, ⟨rfl, Nat.le_of_ble_eq_true rfl, rfl, rfl, Nat.le_of_ble_eq_true rfl, rfl, trivial⟩, ⟨?_, Nat.le_of_ble_eq_true rfl, trivial⟩⟩
          · exact some_sli (by simp)
          · exact some_tok (by simp)
        · rintro ⟨m, hm⟩
          simp (config := {dsimp := false}) only [↓vp0, vz, vn, nq, tys, cellD, wideIR, if_true, if_false, implies_true, forall_const, ne_eq, reduceIte, reduceCtorEq, Nat.reduceEqDiff, Nat.reduceAdd, Nat.reduceMul, Nat.reduceLT, Nat.reduceSub, Nat.reduceLeDiff, Nat.reduceBNe, Nat.reduceBEq, Nat.reduceBeqDiff, List.range, List.range.loop, gl0, Tryd.ntmps21, Tryd.results21, inD]
          refine ⟨fun h2 => ?_, fun h2 => ?_⟩
          · have h2 := of_decide_eq_true h2
            have e := tk (t.ins.getD k default).prev m (by rw [hx.prev]; omega)
            simp (config := {dsimp := false}) only [↓vp0, vz, vn, nq, tys, cellD, wideIR, if_true, if_false, implies_true, forall_const, ne_eq, reduceIte, reduceCtorEq, Nat.reduceEqDiff, Nat.reduceAdd, Nat.reduceMul, Nat.reduceLT, Nat.reduceSub, Nat.reduceLeDiff, Nat.reduceBNe, Nat.reduceBEq, Nat.reduceBeqDiff, List.range, List.range.loop, gl0, Tryd.ntmps21, Tryd.results21, Int.toNat_natCast, inD]
            refine ⟨by omega, by omega, by simp only [List.length_append, List.length_take, hx.prev]; omega, ⟨m + 1, by omega⟩, ⟨⟨wkD_eq ?_, rfl, wkD_eq rfl, rfl, wkD_eq ?_, rfl, wkD_eq rfl, rfl, wkD_eq rfl, rfl, wkD_eq rfl, rfl, trivial⟩, ⟨rfl, Nat.le_of_ble_eq_true rfl, rfl, rfl, Nat.le_of_ble_eq_true rfl, rfl, trivial⟩, ⟨?_, Nat.le_of_ble_eq_true rfl, trivial⟩⟩, by (try simp only); omega⟩
            · exact some_i64 (by (try simp only); omega)
            · exact some_sli (by rw [e, List.append_assoc])
            · exact some_tok (by rw [e]; simp only [List.length_append, List.length_cons, List.length_nil]; omega)
          · have h2 := of_decide_eq_false h2
            obtain rfl : m = 32 := by omega
            have e : (t.ins.getD k default).prev.take 32 = (t.ins.getD k default).prev := List.take_of_length_le (by rw [hx.prev]; exact Nat.le_refl _)
            simp (config := {dsimp := false}) only [↓vp0, vz, vn, nq, tys, cellD, wideIR, if_true, if_false, implies_true, forall_const, ne_eq, reduceIte, reduceCtorEq, Nat.reduceEqDiff, Nat.reduceAdd, Nat.reduceMul, Nat.reduceLT, Nat.reduceSub, Nat.reduceLeDiff, Nat.reduceBNe, Nat.reduceBEq, Nat.reduceBeqDiff, List.range, List.range.loop, gl0, Tryd.ntmps21, Tryd.results21, vb, PF.toR, givesIf, inD, e, w1, w2, spec_tdigits, sp_tdigits, c_tdigits, b_tdigits, spec_rtext, sp_rtext, c_rtext, b_rtext]
            refine ⟨by decide, by decide, ⟨hx.ix.1, by have := hx.ix.2; omega⟩, by simp only [List.length_append, List.length_cons, List.length_nil, leI_len, hx.prev, t4]; omega, by omega, some_tok (by simp only [List.length_append, List.length_cons, List.length_nil, leI_len, hx.prev, t4]; try omega), by simp only [List.length_append, List.length_cons, List.length_nil, leI_len, hx.prev, t4]; omega, by decide, by decide, ⟨hx.seq.1, by have := hx.seq.2; omega⟩, some_tok (by simp only [List.length_append, List.length_cons, List.length_nil, leI_len, hx.prev, t4]; try omega), by simp only [List.length_append, List.length_cons, List.length_nil, leI_len, hx.prev, t4]; omega, ⟨k + 1, by omega⟩, ⟨⟨wkD_eq ?_, rfl, wkD_eq ?_, rfl, wkD_eq rfl, rfl, wkD_eq rfl, rfl, trivial⟩, ⟨rfl, Nat.le_of_ble_eq_true rfl, rfl, trivial⟩, ⟨?_, Nat.le_of_ble_eq_true rfl, trivial⟩⟩, by (try simp only); omega⟩
            · exact some_i64 (by (try simp only); omega)
            · exact some_sli (by rw [hsn, hY]; simp only [inI, List.append_assoc]; rfl)
            · exact some_tok (by have e := congrArg List.length hY; rw [hsn]; simp only [List.length_append] at e ⊢; simp only [hil, leI_len, hx.prev, t4]; omega)
      have hh := of_decide_eq_false hh
      obtain rfl : k = t.ins.length := by omega
      simp only [List.take_length]
      obtain ⟨P2, hP2⟩ : ∃ P2, P2 = P ++ t.ins.flatMap inI ++ countI t.outs.length := ⟨_, rfl⟩
      have hP2l : P2.length = P.length + (t.ins.flatMap inI).length + (countI t.outs.length).length := by rw [hP2]; simp only [List.length_append]
      refine ⟨⟨by omega, by omega⟩, by simp only [List.length_append]; omega, ?_⟩
      refine loopI (Fin (t.outs.length + 1)) (fun k => [(9, .int .i64 (k.1 : Nat)), (5, .sli (.tok 20) .u8 (P2 ++ (t.outs.take k.1).flatMap outI)), (1, .bool false), (2, .bp 0 0)]) (fun k => ⟨[(0, .agg [.int .u32 t.ver, .sl .no 36 (insD t.ins), .sl .no 2 (outsD t.outs), .int .u32 t.lock])], [(20, ((P2 ++ (t.outs.take k.1).flatMap outI).length, 1))], 124⟩) (fun k => t.outs.length - k.1) 0 (fun _ => rfl) ?_ ?_
      · refine ⟨⟨wkD_eq rfl, rfl, wkD_eq ?_, rfl, wkD_eq rfl, rfl, wkD_eq rfl, rfl, trivial⟩, ⟨rfl, Nat.le_of_ble_eq_true rfl, rfl, trivial⟩, ⟨?_, Nat.le_of_ble_eq_true rfl, trivial⟩⟩
        · exact some_sli (by rw [hP2]; simp)
        · exact some_tok (by rw [hP2]; simp only [List.length_append, Fin.val_zero, List.take_zero, List.flatMap_nil, List.length_nil]; omega)
      rintro ⟨k, hk⟩
      simp (config := {dsimp := false}) only [↓vp0, vz, vn, nq, tys, cellD, wideIR, if_true, if_false, implies_true, forall_const, ne_eq, reduceIte, reduceCtorEq, Nat.reduceEqDiff, Nat.reduceAdd, Nat.reduceMul, Nat.reduceLT, Nat.reduceSub, Nat.reduceLeDiff, Nat.reduceBNe, Nat.reduceBEq, Nat.reduceBeqDiff, List.range, List.range.loop, gl0, Tryd.ntmps21, Tryd.results21]
      refine ⟨fun hh => ?_, fun hh => ?_⟩
      · have hh := of_decide_eq_true hh
        have hk' : k < t.outs.length := by omega
        have g1 := outsD_get t.outs k hk'
        have hx := ht.outs _ (getD_memI hk')
        have hfl := flat_le outI t.outs k hk'
        have hsn := flat_snoc outI t.outs k hk'
        have hs2 := hx.script.2
        have hil : (outI (t.outs.getD k default)).length = 8 + (textI (t.outs.getD k default).script).length := by simp only [outI, List.length_append, leI_len]
        have hsl : (t.outs.getD k default).script.length ≤ (textI (t.outs.getD k default).script).length := by simp only [textI, List.length_append]; omega
        obtain ⟨Y, hY⟩ : ∃ Y, Y = P2 ++ (t.outs.take k).flatMap outI := ⟨_, rfl⟩
        have hYl : Y.length + (outI (t.outs.getD k default)).length < 1000000 := by rw [hY]; simp only [List.length_append]; omega
        have w1 : IntKind.wrap .u64 (t.outs.getD k default).value = (t.outs.getD k default).value % 18446744073709551616 := rfl
        have m1 := Int.emod_nonneg (t.outs.getD k default).value (show (18446744073709551616 : Int) ≠ 0 by decide)
        have m2 := Int.emod_lt_of_pos (t.outs.getD k default).value (show (0 : Int) < 18446744073709551616 by decide)
        have t8 : Int.toNat 8 = 8 := rfl
        rw [← hY]
        simp (config := {dsimp := false}) only [↓vp0, vz, vn, nq, tys, cellD, wideIR, if_true, if_false, implies_true, forall_const, ne_eq, reduceIte, reduceCtorEq, Nat.reduceEqDiff, Nat.reduceAdd, Nat.reduceMul, Nat.reduceLT, Nat.reduceSub, Nat.reduceLeDiff, Nat.reduceBNe, Nat.reduceBEq, Nat.reduceBeqDiff, List.range, List.range.loop, gl0, Tryd.ntmps21, Tryd.results21, vb, PF.toR, givesIf, Int.toNat_natCast, g1, outD, w1, spec_tdigits, sp_tdigits, c_tdigits, b_tdigits, spec_rtext, sp_rtext, c_rtext, b_rtext]
        refine ⟨by omega, by omega, by decide, by decide, ⟨m1, m2⟩, by simp only [leI_len, t8]; omega, by omega, by omega, by omega, some_tok (by simp only [List.length_append, leI_len, t8]), by simp only [List.length_append, leI_len, t8]; omega, ⟨k + 1, by omega⟩, ⟨⟨wkD_eq ?_, rfl, wkD_eq ?_, rfl, wkD_eq rfl, rfl, wkD_eq rfl, rfl, trivial⟩, ⟨rfl, Nat.le_of_ble_eq_true rfl, rfl, trivial⟩, ⟨?_, Nat.le_of_ble_eq_true rfl, trivial⟩⟩, by (try simp only); omega⟩
        · exact some_i64 (by (try simp only); omega)
        · exact some_sli (by rw [hsn, hY]; simp only [outI, List.append_assoc]; rfl)
        · exact some_tok (by rw [hsn, ← List.append_assoc, ← hY]; simp only [List.length_append, hil, leI_len, t8]; omega)
      have hh := of_decide_eq_false hh
      obtain rfl : k = t.outs.length := by omega
      simp only [List.take_length]
      obtain ⟨P3, hP3⟩ : ∃ P3, P3 = P2 ++ t.outs.flatMap outI := ⟨_, rfl⟩
      have hP3l : P3.length = P2.length + (t.outs.flatMap outI).length := by rw [hP3]; simp only [List.length_append]
      have hall : P3 = leI 4 t.ver ++ ([] ++ ((countI t.ins.length ++ t.ins.flatMap inI) ++ (countI t.outs.length ++ t.outs.flatMap outI))) := by
        rw [hP3, hP2, hP]; simp only [List.append_assoc, List.cons_append, List.nil_append]
      rw [← hP3]
      refine loopI (Fin 1) (fun _ => [(10, .int .i64 0), (5, .sli (.tok 20) .u8 P3), (1, .bool false), (2, .bp 0 0)]) (fun _ => ⟨[(0, .agg [.int .u32 t.ver, .sl .no 36 (insD t.ins), .sl .no 2 (outsD t.outs), .int .u32 t.lock])], [(20, (P3.length, 1))], 148⟩) (fun _ => 0) 0 (fun _ => rfl) ?_ ?_
      · exact ⟨⟨wkD_eq rfl, rfl, wkD_eq rfl, rfl, wkD_eq rfl, rfl, wkD_eq rfl, rfl, trivial⟩, ⟨rfl, Nat.le_of_ble_eq_true rfl, rfl, trivial⟩, ⟨rfl, Nat.le_of_ble_eq_true rfl, trivial⟩⟩
      rintro ⟨_, _⟩
      cases hd : decide ((0 : Int) < (t.ins.length : Nat))
      all_goals simp (config := {dsimp := false}) only [↓vp0, vz, vn, nq, tys, cellD, wideIR, if_true, if_false, implies_true, forall_const, ne_eq, reduceIte, reduceCtorEq, Nat.reduceEqDiff, Nat.reduceAdd, Nat.reduceMul, Nat.reduceLT, Nat.reduceSub, Nat.reduceLeDiff, Nat.reduceBNe, Nat.reduceBEq, Nat.reduceBeqDiff, List.range, List.range.loop, gl0, Tryd.ntmps21, Tryd.results21, vb, givesIf, hd, hlay, u2, spec_tdigits, sp_tdigits, c_tdigits, b_tdigits]
      all_goals exact ⟨by decide, by decide, ⟨ht.lock.1, by have := ht.lock.2; omega⟩, by simp only [leI_len, t4]; omega, congrArg (D.sli .no .u8) (by rw [hall]; simp only [List.append_assoc, List.nil_append]; rfl)⟩
  · obtain ⟨P, hP⟩ : ∃ P, P = leI 4 t.ver ++ 0 :: 1 :: countI t.ins.length := ⟨_, rfl⟩
    have hPl : P.length = 4 + 2 + (countI t.ins.length).length := by rw [hP]; simp only [List.length_append, List.length_cons, leI_len]; try omega
    simp only [if_true, List.length_nil, List.length_cons] at hlen
    simp (config := {dsimp := false}) only [↓vp0, vz, vn, nq, tys, cellD, wideIR, if_true, if_false, implies_true, forall_const, ne_eq, reduceIte, reduceCtorEq, Nat.reduceEqDiff, Nat.reduceAdd, Nat.reduceMul, Nat.reduceLT, Nat.reduceSub, Nat.reduceLeDiff, Nat.reduceBNe, Nat.reduceBEq, Nat.reduceBeqDiff, List.range, List.range.loop, gl0, Tryd.ntmps21, Tryd.results21, vb, u1, n1, spec_tdigits, sp_tdigits, c_tdigits, b_tdigits, spec_rcount, sp_rcount, c_rcount, b_rcount]
    refine ⟨by decide, by decide, ⟨ht.ver.1, by have := ht.ver.2; omega⟩, some_tok (by rw [leI_len]), by rw [leI_len, t4]; decide, ⟨by omega, by omega⟩, some_tok (by simp only [List.length_append, List.length_cons, List.length_nil, leI_len]), by simp only [List.length_append, List.length_cons, List.length_nil, leI_len, t4]; omega, ?_⟩
    refine loopI (Fin (t.ins.length + 1)) (fun k => [(6, .int .i64 (k.1 : Nat)), (5, .sli (.tok 20) .u8 (P ++ (t.ins.take k.1).flatMap inI)), (1, .bool true), (2, .bp 0 0)]) (fun k => ⟨[(0, .agg [.int .u32 t.ver, .sl .no 36 (insD t.ins), .sl .no 2 (outsD t.outs), .int .u32 t.lock])], [(20, ((P ++ (t.ins.take k.1).flatMap inI).length, 1))], 84⟩) (fun k => t.ins.length - k.1) 0 (fun _ => rfl) ?_ ?_
    · refine ⟨⟨wkD_eq rfl, rfl, wkD_eq ?_, rfl, wkD_eq rfl, rfl, wkD_eq rfl, rfl, trivial⟩, ⟨rfl, Nat.le_of_ble_eq_true rfl, rfl, trivial⟩, ⟨?_, Nat.le_of_ble_eq_true rfl, trivial⟩⟩
      · exact some_sli (by rw [hP]; simp [t4])
      · exact some_tok (by rw [hP]; simp only [List.length_append, List.length_cons, leI_len, t4, Fin.val_zero, List.take_zero, List.flatMap_nil, List.length_nil]; omega)
    · rintro ⟨k, hk⟩
      simp (config := {dsimp := false}) only [↓vp0, vz, vn, nq, tys, cellD, wideIR, if_true, if_false, implies_true, forall_const, ne_eq, reduceIte, reduceCtorEq, Nat.reduceEqDiff, Nat.reduceAdd, Nat.reduceMul, Nat.reduceLT, Nat.reduceSub, Nat.reduceLeDiff, Nat.reduceBNe, Nat.reduceBEq, Nat.reduceBeqDiff, List.range, List.range.loop, gl0, Tryd.ntmps21, Tryd.results21, vb, n2, spec_rcount, sp_rcount, c_rcount, b_rcount]
      refine ⟨fun hh => ?_, fun hh => ?_⟩
      · have hh := of_decide_eq_true hh
        have hk' : k < t.ins.length := by omega
        have g1 := insD_get t.ins k hk'
        have hx := ht.ins _ (getD_memI hk')
        have hfl := flat_le inI t.ins k hk'
        have hsn := flat_snoc inI t.ins k hk'
        have hs2 := hx.script.2
        have hil : (inI (t.ins.getD k default)).length = 32 + 4 + (textI (t.ins.getD k default).script).length + 4 := by simp only [inI, List.length_append, leI_len, hx.prev]
        have hsl : (t.ins.getD k default).script.length ≤ (textI (t.ins.getD k default).script).length := by simp only [textI, List.length_append]; omega
        obtain ⟨Y, hY⟩ : ∃ Y, Y = P ++ (t.ins.take k).flatMap inI := ⟨_, rfl⟩
        have hYl : Y.length + (inI (t.ins.getD k default)).length < 1000000 := by rw [hY]; simp only [List.length_append]; omega
        have w1 : IntKind.wrap .u64 (t.ins.getD k default).ix = (t.ins.getD k default).ix := IntWalk.u64_in _ (by have := hx.ix.1; have := hx.ix.2; omega)
        have w2 : IntKind.wrap .u64 (t.ins.getD k default).seq = (t.ins.getD k default).seq := IntWalk.u64_in _ (by have := hx.seq.1; have := hx.seq.2; omega)
        rw [← hY]
        simp (config := {dsimp := false}) only [↓vp0, vz, vn, nq, tys, cellD, wideIR, if_true, if_false, implies_true, forall_const, ne_eq, reduceIte, reduceCtorEq, Nat.reduceEqDiff, Nat.reduceAdd, Nat.reduceMul, Nat.reduceLT, Nat.reduceSub, Nat.reduceLeDiff, Nat.reduceBNe, Nat.reduceBEq, Nat.reduceBeqDiff, List.range, List.range.loop, gl0, Tryd.ntmps21, Tryd.results21, Int.toNat_natCast, g1, inD]
        refine ⟨by omega, by omega, ?_⟩
        refine loopI (Fin 33) (fun m => [(8, .int .i64 (m.1 : Nat)), (7, .bp 124 0), (5, .sli (.tok 20) .u8 (Y ++ (t.ins.getD k default).prev.take m.1)), (6, .int .i64 (k : Nat)), (1, .bool true), (2, .bp 0 0)]) (fun m => ⟨[(0, .agg [.int .u32 t.ver, .sl .no 36 (insD t.ins), .sl .no 2 (outsD t.outs), .int .u32 t.lock]), (124, inD (t.ins.getD k default))], [(20, ((Y ++ (t.ins.getD k default).prev.take m.1).length, 1))], 136⟩) (fun m => 32 - m.1) 0 (fun _ => rfl) ?_ ?_
        · refine ⟨⟨wkD_eq rfl, rfl, wkD_eq rfl, rfl, wkD_eq ?_, rfl, wkD_eq rfl, rfl, wkD_eq rfl, rfl, wkD_eq rfl, rfl, trivial⟩, ⟨rfl, Nat.le_of_ble_eq_true rfl, rfl, rfl, Nat.le_of_ble_eq_true rfl, rfl, trivial⟩, ⟨?_, Nat.le_of_ble_eq_true rfl, trivial⟩⟩
          · exact some_sli (by simp)
          · exact some_tok (by simp)
        · rintro ⟨m, hm⟩
          simp (config := {dsimp := false}) only [↓vp0, vz, vn, nq, tys, cellD, wideIR, if_true, if_false, implies_true, forall_const, ne_eq, reduceIte, reduceCtorEq, Nat.reduceEqDiff, Nat.reduceAdd, Nat.reduceMul, Nat.reduceLT, Nat.reduceSub, Nat.reduceLeDiff, Nat.reduceBNe, Nat.reduceBEq, Nat.reduceBeqDiff, List.range, List.range.loop, gl0, Tryd.ntmps21, Tryd.results21, inD]
          refine ⟨fun h2 => ?_, fun h2 => ?_⟩
          · have h2 := of_decide_eq_true h2
            have e := tk (t.ins.getD k default).prev m (by rw [hx.prev]; omega)
            simp (config := {dsimp := false}) only [↓vp0, vz, vn, nq, tys, cellD, wideIR, if_true, if_false, implies_true, forall_const, ne_eq, reduceIte, reduceCtorEq, Nat.reduceEqDiff, Nat.reduceAdd, Nat.reduceMul, Nat.reduceLT, Nat.reduceSub, Nat.reduceLeDiff, Nat.reduceBNe, Nat.reduceBEq, Nat.reduceBeqDiff, List.range, List.range.loop, gl0, Tryd.ntmps21, Tryd.results21, Int.toNat_natCast, inD]
            refine ⟨by omega, by omega, by simp only [List.length_append, List.length_take, hx.prev]; omega, ⟨m + 1, by omega⟩, ⟨⟨wkD_eq ?_, rfl, wkD_eq rfl, rfl, wkD_eq ?_, rfl, wkD_eq rfl, rfl, wkD_eq rfl, rfl, wkD_eq rfl, rfl, trivial⟩, ⟨rfl, Nat.le_of_ble_eq_true rfl, rfl, rfl, Nat.le_of_ble_eq_true rfl, rfl, trivial⟩, ⟨?_, Nat.le_of_ble_eq_true rfl, trivial⟩⟩, by (try simp only); omega⟩
            · exact some_i64 (by (try simp only); omega)
            · exact some_sli (by rw [e, List.append_assoc])
            · exact some_tok (by rw [e]; simp only [List.length_append, List.length_cons, List.length_nil]; omega)
          · have h2 := of_decide_eq_false h2
            obtain rfl : m = 32 := by omega
            have e : (t.ins.getD k default).prev.take 32 = (t.ins.getD k default).prev := List.take_of_length_le (by rw [hx.prev]; exact Nat.le_refl _)
            simp (config := {dsimp := false}) only [↓vp0, vz, vn, nq, tys, cellD, wideIR, if_true, if_false, implies_true, forall_const, ne_eq, reduceIte, reduceCtorEq, Nat.reduceEqDiff, Nat.reduceAdd, Nat.reduceMul, Nat.reduceLT, Nat.reduceSub, Nat.reduceLeDiff, Nat.reduceBNe, Nat.reduceBEq, Nat.reduceBeqDiff, List.range, List.range.loop, gl0, Tryd.ntmps21, Tryd.results21, vb, PF.toR, givesIf, inD, e, w1, w2, spec_tdigits, sp_tdigits, c_tdigits, b_tdigits, spec_rtext, sp_rtext, c_rtext, b_rtext]
            refine ⟨by decide, by decide, ⟨hx.ix.1, by have := hx.ix.2; omega⟩, by simp only [List.length_append, List.length_cons, List.length_nil, leI_len, hx.prev, t4]; omega, by omega, some_tok (by simp only [List.length_append, List.length_cons, List.length_nil, leI_len, hx.prev, t4]; try omega), by simp only [List.length_append, List.length_cons, List.length_nil, leI_len, hx.prev, t4]; omega, by decide, by decide, ⟨hx.seq.1, by have := hx.seq.2; omega⟩, some_tok (by simp only [List.length_append, List.length_cons, List.length_nil, leI_len, hx.prev, t4]; try omega), by simp only [List.length_append, List.length_cons, List.length_nil, leI_len, hx.prev, t4]; omega, ⟨k + 1, by omega⟩, ⟨⟨wkD_eq ?_, rfl, wkD_eq ?_, rfl, wkD_eq rfl, rfl, wkD_eq rfl, rfl, trivial⟩, ⟨rfl, Nat.le_of_ble_eq_true rfl, rfl, trivial⟩, ⟨?_, Nat.le_of_ble_eq_true rfl, trivial⟩⟩, by (try simp only); omega⟩
            · exact some_i64 (by (try simp only); omega)
            · exact some_sli (by rw [hsn, hY]; simp only [inI, List.append_assoc]; rfl)
            · exact some_tok (by have e := congrArg List.length hY; rw [hsn]; simp only [List.length_append] at e ⊢; simp only [hil, leI_len, hx.prev, t4]; omega)
      have hh := of_decide_eq_false hh
      obtain rfl : k = t.ins.length := by omega
      simp only [List.take_length]
      obtain ⟨P2, hP2⟩ : ∃ P2, P2 = P ++ t.ins.flatMap inI ++ countI t.outs.length := ⟨_, rfl⟩
      have hP2l : P2.length = P.length + (t.ins.flatMap inI).length + (countI t.outs.length).length := by rw [hP2]; simp only [List.length_append]
      refine ⟨⟨by omega, by omega⟩, by simp only [List.length_append]; omega, ?_⟩
      refine loopI (Fin (t.outs.length + 1)) (fun k => [(9, .int .i64 (k.1 : Nat)), (5, .sli (.tok 20) .u8 (P2 ++ (t.outs.take k.1).flatMap outI)), (1, .bool true), (2, .bp 0 0)]) (fun k => ⟨[(0, .agg [.int .u32 t.ver, .sl .no 36 (insD t.ins), .sl .no 2 (outsD t.outs), .int .u32 t.lock])], [(20, ((P2 ++ (t.outs.take k.1).flatMap outI).length, 1))], 140⟩) (fun k => t.outs.length - k.1) 0 (fun _ => rfl) ?_ ?_
      · refine ⟨⟨wkD_eq rfl, rfl, wkD_eq ?_, rfl, wkD_eq rfl, rfl, wkD_eq rfl, rfl, trivial⟩, ⟨rfl, Nat.le_of_ble_eq_true rfl, rfl, trivial⟩, ⟨?_, Nat.le_of_ble_eq_true rfl, trivial⟩⟩
        · exact some_sli (by rw [hP2]; simp)
        · exact some_tok (by rw [hP2]; simp only [List.length_append, Fin.val_zero, List.take_zero, List.flatMap_nil, List.length_nil]; omega)
      rintro ⟨k, hk⟩
      simp (config := {dsimp := false}) only [↓vp0, vz, vn, nq, tys, cellD, wideIR, if_true, if_false, implies_true, forall_const, ne_eq, reduceIte, reduceCtorEq, Nat.reduceEqDiff, Nat.reduceAdd, Nat.reduceMul, Nat.reduceLT, Nat.reduceSub, Nat.reduceLeDiff, Nat.reduceBNe, Nat.reduceBEq, Nat.reduceBeqDiff, List.range, List.range.loop, gl0, Tryd.ntmps21, Tryd.results21]
      refine ⟨fun hh => ?_, fun hh => ?_⟩
      · have hh := of_decide_eq_true hh
        have hk' : k < t.outs.length := by omega
        have g1 := outsD_get t.outs k hk'
        have hx := ht.outs _ (getD_memI hk')
        have hfl := flat_le outI t.outs k hk'
        have hsn := flat_snoc outI t.outs k hk'
        have hs2 := hx.script.2
        have hil : (outI (t.outs.getD k default)).length = 8 + (textI (t.outs.getD k default).script).length := by simp only [outI, List.length_append, leI_len]
        have hsl : (t.outs.getD k default).script.length ≤ (textI (t.outs.getD k default).script).length := by simp only [textI, List.length_append]; omega
        obtain ⟨Y, hY⟩ : ∃ Y, Y = P2 ++ (t.outs.take k).flatMap outI := ⟨_, rfl⟩
        have hYl : Y.length + (outI (t.outs.getD k default)).length < 1000000 := by rw [hY]; simp only [List.length_append]; omega
        have w1 : IntKind.wrap .u64 (t.outs.getD k default).value = (t.outs.getD k default).value % 18446744073709551616 := rfl
        have m1 := Int.emod_nonneg (t.outs.getD k default).value (show (18446744073709551616 : Int) ≠ 0 by decide)
        have m2 := Int.emod_lt_of_pos (t.outs.getD k default).value (show (0 : Int) < 18446744073709551616 by decide)
        have t8 : Int.toNat 8 = 8 := rfl
        rw [← hY]
        simp (config := {dsimp := false}) only [↓vp0, vz, vn, nq, tys, cellD, wideIR, if_true, if_false, implies_true, forall_const, ne_eq, reduceIte, reduceCtorEq, Nat.reduceEqDiff, Nat.reduceAdd, Nat.reduceMul, Nat.reduceLT, Nat.reduceSub, Nat.reduceLeDiff, Nat.reduceBNe, Nat.reduceBEq, Nat.reduceBeqDiff, List.range, List.range.loop, gl0, Tryd.ntmps21, Tryd.results21, vb, PF.toR, givesIf, Int.toNat_natCast, g1, outD, w1, spec_tdigits, sp_tdigits, c_tdigits, b_tdigits, spec_rtext, sp_rtext, c_rtext, b_rtext]
        refine ⟨by omega, by omega, by decide, by decide, ⟨m1, m2⟩, by simp only [leI_len, t8]; omega, by omega, by omega, by omega, some_tok (by simp only [List.length_append, leI_len, t8]), by simp only [List.length_append, leI_len, t8]; omega, ⟨k + 1, by omega⟩, ⟨⟨wkD_eq ?_, rfl, wkD_eq ?_, rfl, wkD_eq rfl, rfl, wkD_eq rfl, rfl, trivial⟩, ⟨rfl, Nat.le_of_ble_eq_true rfl, rfl, trivial⟩, ⟨?_, Nat.le_of_ble_eq_true rfl, trivial⟩⟩, by (try simp only); omega⟩
        · exact some_i64 (by (try simp only); omega)
        · exact some_sli (by rw [hsn, hY]; simp only [outI, List.append_assoc]; rfl)
        · exact some_tok (by rw [hsn, ← List.append_assoc, ← hY]; simp only [List.length_append, hil, leI_len, t8]; omega)
      have hh := of_decide_eq_false hh
      obtain rfl : k = t.outs.length := by omega
      simp only [List.take_length]
      obtain ⟨P3, hP3⟩ : ∃ P3, P3 = P2 ++ t.outs.flatMap outI := ⟨_, rfl⟩
      have hP3l : P3.length = P2.length + (t.outs.flatMap outI).length := by rw [hP3]; simp only [List.length_append]
      have hall : P3 = leI 4 t.ver ++ ([0, 1] ++ ((countI t.ins.length ++ t.ins.flatMap inI) ++ (countI t.outs.length ++ t.outs.flatMap outI))) := by
        rw [hP3, hP2, hP]; simp only [List.append_assoc, List.cons_append, List.nil_append]
      rw [← hP3]
      refine loopI (Fin (t.ins.length + 1)) (fun k => [(10, .int .i64 (k.1 : Nat)), (5, .sli (.tok 20) .u8 (P3 ++ (t.ins.take k.1).flatMap witI)), (1, .bool true), (2, .bp 0 0)]) (fun k => ⟨[(0, .agg [.int .u32 t.ver, .sl .no 36 (insD t.ins), .sl .no 2 (outsD t.outs), .int .u32 t.lock])], [(20, ((P3 ++ (t.ins.take k.1).flatMap witI).length, 1))], 164⟩) (fun k => t.ins.length - k.1) 0 (fun _ => rfl) ?_ ?_
      · refine ⟨⟨wkD_eq rfl, rfl, wkD_eq ?_, rfl, wkD_eq rfl, rfl, wkD_eq rfl, rfl, trivial⟩, ⟨rfl, Nat.le_of_ble_eq_true rfl, rfl, trivial⟩, ⟨?_, Nat.le_of_ble_eq_true rfl, trivial⟩⟩
        · exact some_sli (by simp)
        · exact some_tok (by simp)
      rintro ⟨k, hk⟩
      by_cases hk' : k < t.ins.length
      · have hd : decide (((k : Nat) : Int) < ((t.ins.length : Nat) : Int)) = true := decide_eq_true (by omega)
        have g1 := insD_get t.ins k hk'
        have hx := ht.ins _ (getD_memI hk')
        have hfl := flat_le witI t.ins k hk'
        have hsn := flat_snoc witI t.ins k hk'
        have hmw := hx.many
        have c3 := count_len ((t.ins.getD k default).wit.length : Int)
        have n3 : IntKind.wrap .u64 ((t.ins.getD k default).wit.length : Int) = ((t.ins.getD k default).wit.length : Int) := IntWalk.u64_in _ (by omega)
        have hwl : (witI (t.ins.getD k default)).length = (countI (t.ins.getD k default).wit.length).length + ((t.ins.getD k default).wit.flatMap textI).length := by simp only [witI, List.length_append]
        obtain ⟨Y, hY⟩ : ∃ Y, Y = P3 ++ (t.ins.take k).flatMap witI := ⟨_, rfl⟩
        have hYl : Y.length + (witI (t.ins.getD k default)).length < 1000000 := by rw [hY]; simp only [List.length_append]; omega
        rw [← hY]
        simp (config := {dsimp := false}) only [↓vp0, vz, vn, nq, tys, cellD, wideIR, if_true, if_false, implies_true, forall_const, ne_eq, reduceIte, reduceCtorEq, Nat.reduceEqDiff, Nat.reduceAdd, Nat.reduceMul, Nat.reduceLT, Nat.reduceSub, Nat.reduceLeDiff, Nat.reduceBNe, Nat.reduceBEq, Nat.reduceBeqDiff, List.range, List.range.loop, gl0, Tryd.ntmps21, Tryd.results21, vb, Int.toNat_natCast, g1, inD, hd, n3, spec_rcount, sp_rcount, c_rcount, b_rcount]
        refine ⟨by omega, by omega, ⟨by omega, by omega⟩, by omega, ?_⟩
        refine loopI (Fin ((t.ins.getD k default).wit.length + 1)) (fun m => [(11, .int .i64 (m.1 : Nat)), (10, .int .i64 (k : Nat)), (5, .sli (.tok 20) .u8 (Y ++ (countI (t.ins.getD k default).wit.length ++ ((t.ins.getD k default).wit.take m.1).flatMap textI))), (1, .bool true), (2, .bp 0 0)]) (fun m => ⟨[(0, .agg [.int .u32 t.ver, .sl .no 36 (insD t.ins), .sl .no 2 (outsD t.outs), .int .u32 t.lock])], [(20, ((Y ++ (countI (t.ins.getD k default).wit.length ++ ((t.ins.getD k default).wit.take m.1).flatMap textI)).length, 1))], 248⟩) (fun m => (t.ins.getD k default).wit.length - m.1) 0 (fun _ => rfl) ?_ ?_
        · refine ⟨⟨wkD_eq rfl, rfl, wkD_eq rfl, rfl, wkD_eq ?_, rfl, wkD_eq rfl, rfl, wkD_eq rfl, rfl, trivial⟩, ⟨rfl, Nat.le_of_ble_eq_true rfl, rfl, trivial⟩, ⟨?_, Nat.le_of_ble_eq_true rfl, trivial⟩⟩
          · exact some_sli (by simp)
          · exact some_tok (by simp)
        rintro ⟨m, hm⟩
        simp (config := {dsimp := false}) only [↓vp0, vz, vn, nq, tys, cellD, wideIR, if_true, if_false, implies_true, forall_const, ne_eq, reduceIte, reduceCtorEq, Nat.reduceEqDiff, Nat.reduceAdd, Nat.reduceMul, Nat.reduceLT, Nat.reduceSub, Nat.reduceLeDiff, Nat.reduceBNe, Nat.reduceBEq, Nat.reduceBeqDiff, List.range, List.range.loop, gl0, Tryd.ntmps21, Tryd.results21, Int.toNat_natCast, g1, inD]
        refine ⟨by omega, by omega, fun h2 => ?_, fun h2 => ?_⟩
        · have h2 := of_decide_eq_true h2
          have hm' : m < (t.ins.getD k default).wit.length := by omega
          have g2 : (slis (t.ins.getD k default).wit).getD m .any = .sli .no .u8 ((t.ins.getD k default).wit.getD m default) := slis_get _ m hm'
          have hw := (hx.wit _ (getD_memI hm')).2
          have hf2 := flat_le textI (t.ins.getD k default).wit m hm'
          have hs2 := flat_snoc textI (t.ins.getD k default).wit m hm'
          have hsl : ((t.ins.getD k default).wit.getD m default).length ≤ (textI ((t.ins.getD k default).wit.getD m default)).length := by simp only [textI, List.length_append]; omega
          simp (config := {dsimp := false}) only [↓vp0, vz, vn, nq, tys, cellD, wideIR, if_true, if_false, implies_true, forall_const, ne_eq, reduceIte, reduceCtorEq, Nat.reduceEqDiff, Nat.reduceAdd, Nat.reduceMul, Nat.reduceLT, Nat.reduceSub, Nat.reduceLeDiff, Nat.reduceBNe, Nat.reduceBEq, Nat.reduceBeqDiff, List.range, List.range.loop, gl0, Tryd.ntmps21, Tryd.results21, vb, PF.toR, givesIf, Int.toNat_natCast, g1, g2, inD, spec_rtext, sp_rtext, c_rtext, b_rtext]
          refine ⟨by omega, by omega, by omega, by omega, by omega, by simp only [List.length_append]; omega, ⟨m + 1, by omega⟩, ⟨⟨wkD_eq ?_, rfl, wkD_eq rfl, rfl, wkD_eq ?_, rfl, wkD_eq rfl, rfl, wkD_eq rfl, rfl, trivial⟩, ⟨rfl, Nat.le_of_ble_eq_true rfl, rfl, trivial⟩, ⟨?_, Nat.le_of_ble_eq_true rfl, trivial⟩⟩, by (try simp only); omega⟩
          · exact some_i64 (by (try simp only); omega)
          · exact some_sli (by rw [hs2])
          · exact some_tok (by rw [hs2]; simp only [List.length_append, Nat.add_assoc])
        · have h2 := of_decide_eq_false h2
          obtain rfl : m = (t.ins.getD k default).wit.length := by omega
          simp only [List.take_length]
          have hwe : witI (t.ins.getD k default) = countI (t.ins.getD k default).wit.length ++ (t.ins.getD k default).wit.flatMap textI := rfl
          refine ⟨⟨k + 1, by omega⟩, ⟨⟨wkD_eq ?_, rfl, wkD_eq ?_, rfl, wkD_eq rfl, rfl, wkD_eq rfl, rfl, trivial⟩, ⟨rfl, Nat.le_of_ble_eq_true rfl, rfl, trivial⟩, ⟨?_, Nat.le_of_ble_eq_true rfl, trivial⟩⟩, by (try simp only); omega⟩
          · exact some_i64 (by (try simp only); omega)
          · exact some_sli (by rw [hsn, hY, hwe]; simp only [List.append_assoc])
          · exact some_tok (by rw [hsn, hY, hwe]; simp only [List.length_append, Nat.add_assoc])
      · have hd : decide (((k : Nat) : Int) < ((t.ins.length : Nat) : Int)) = false := decide_eq_false (by omega)
        obtain rfl : k = t.ins.length := by omega
        simp only [List.take_length]
        simp (config := {dsimp := false}) only [↓vp0, vz, vn, nq, tys, cellD, wideIR, if_true, if_false, implies_true, forall_const, ne_eq, reduceIte, reduceCtorEq, Nat.reduceEqDiff, Nat.reduceAdd, Nat.reduceMul, Nat.reduceLT, Nat.reduceSub, Nat.reduceLeDiff, Nat.reduceBNe, Nat.reduceBEq, Nat.reduceBeqDiff, List.range, List.range.loop, gl0, Tryd.ntmps21, Tryd.results21, vb, givesIf, hd, hlay, u2, spec_tdigits, sp_tdigits, c_tdigits, b_tdigits]
        exact ⟨by decide, by decide, ⟨ht.lock.1, by have := ht.lock.2; omega⟩, by simp only [List.length_append, leI_len, t4]; omega, congrArg (D.sli .no .u8) (by rw [hall]; simp only [List.append_assoc, List.cons_append, List.nil_append]; rfl)⟩
end Go.Vi.TP
end

section
set_option linter.unusedVariables false
set_option linter.unusedSimpArgs false
set_option maxHeartbeats 0
set_option maxRecDepth 20000
namespace Go.Vi.TP
open Go.Proofs

theorem refSize_len (n : Int) : ∀ k, (refSize n k).1.length = 8
  | 0 => rfl
  | k + 1 => by simp [refSize, refSize_len n k]
theorem c_refClosing : Contract E 51 := by
  refine contract_seeT hE hgl (show E.P.funcs[51]? = some Tryd.f51 from Tryd.func51) rfl (p := sp_refClosing) (fun _ _ _ => rfl) ?_
  intro args hv
  unfold sp_refClosing at hv ⊢
  split at hv
  case h_2 => exact hv.elim
  rename_i n
  refine ⟨by simp, Nat.le_of_ble_eq_true rfl, ?_⟩
  simp (config := {dsimp := false}) only [↓vp0, vz, vn, nq, tys, cellD, wideIR, if_true, if_false, implies_true, forall_const, ne_eq, reduceIte, reduceCtorEq, Nat.reduceEqDiff, Nat.reduceAdd, Nat.reduceMul, Nat.reduceLT, Nat.reduceSub, Nat.reduceLeDiff, Nat.reduceBNe, Nat.reduceBEq, Nat.reduceBeqDiff, List.range, List.range.loop, gl0, Tryd.ntmps51, Tryd.results51]
  simp only [givesIf] at hv ⊢
  refine ⟨by decide, by decide, ?_⟩
  refine loopI (Fin 9) (fun k => [(5, .int .i64 (7 - (k.1 : Int))), (4, .int .u64 (refSize n k.1).2), (3, .bsl 4 0 8 0 8), (0, .int .i64 n)]) (fun k => ⟨[(4, .arr .u8 8 (refSize n k.1).1)], [], 32⟩) (fun k => 8 - k.1) 0 (fun _ => rfl) ?_ ?_
  · exact ⟨⟨wkD_eq rfl, rfl, wkD_eq rfl, rfl, wkD_eq rfl, rfl, wkD_eq rfl, rfl, trivial⟩, ⟨rfl, Nat.le_of_ble_eq_true rfl, rfl, trivial⟩, trivial⟩
  rintro ⟨k, hk⟩
  simp (config := {dsimp := false}) only [↓vp0, vz, vn, nq, tys, cellD, wideIR, if_true, if_false, implies_true, forall_const, ne_eq, reduceIte, reduceCtorEq, Nat.reduceEqDiff, Nat.reduceAdd, Nat.reduceMul, Nat.reduceLT, Nat.reduceSub, Nat.reduceLeDiff, Nat.reduceBNe, Nat.reduceBEq, Nat.reduceBeqDiff, List.range, List.range.loop, gl0, Tryd.ntmps51, Tryd.results51]
  refine ⟨fun h => ?_, fun h => ?_⟩
  · have h := of_decide_eq_true h
    refine ⟨by decide, by omega, by omega, by decide, ⟨k + 1, by omega⟩, ⟨⟨wkD_eq ?_, rfl, wkD_eq rfl, rfl, wkD_eq rfl, rfl, wkD_eq rfl, rfl, trivial⟩, ⟨?_, Nat.le_of_ble_eq_true rfl, rfl, trivial⟩, trivial⟩, by (try simp only); omega⟩
    · exact some_i64 (by (try simp only); omega)
    · refine some_arr ?_
      rw [show ((0 : Int) + (7 - (k : Int))).toNat = 7 - k by omega]
      rfl
  · have h := of_decide_eq_false h
    obtain rfl : k = 8 := by omega
    have hp : pad n < 64 := by unfold pad; omega
    have hpz : ∀ z : Nat, z < 64 → ((n + 1 + z + 8) % 64 = 0 ↔ z = pad n) := by intro z hz; unfold pad; omega
    refine loopI (Fin (pad n + 1)) (fun z => [(6, .int .i64 (z.1 : Int)), (3, .bsl 4 0 8 0 8), (0, .int .i64 n)]) (fun _ => ⟨[(4, .arr .u8 8 (refSize n 8).1)], [], 44⟩) (fun z => pad n - z.1) 0 (fun _ => rfl) ?_ ?_
    · exact ⟨⟨wkD_eq rfl, rfl, wkD_eq rfl, rfl, wkD_eq rfl, rfl, trivial⟩, ⟨rfl, Nat.le_of_ble_eq_true rfl, rfl, trivial⟩, trivial⟩
    rintro ⟨z, hz⟩
    simp (config := {dsimp := false}) only [↓vp0, vz, vn, nq, tys, cellD, wideIR, if_true, if_false, implies_true, forall_const, ne_eq, reduceIte, reduceCtorEq, Nat.reduceEqDiff, Nat.reduceAdd, Nat.reduceMul, Nat.reduceLT, Nat.reduceSub, Nat.reduceLeDiff, Nat.reduceBNe, Nat.reduceBEq, Nat.reduceBeqDiff, List.range, List.range.loop, gl0, Tryd.ntmps51, Tryd.results51]
    have e : (IntKind.wrap .i64 (IntKind.wrap .i64 (IntKind.wrap .i64 (n + 1) + (z : Int)) + 8)).tmod 64 = (n + 1 + z + 8) % 64 := by
      rw [IntWalk.i64_in (n + 1) (by omega), IntWalk.i64_in (n + 1 + z) (by omega), IntWalk.i64_in _ (by omega), Int.tmod_eq_emod_of_nonneg (by omega)]
    rw [e]
    refine ⟨by decide, fun h => ?_, fun h => ?_⟩
    · have h := of_decide_eq_true h
      have hzp := (hpz z (by omega)).1 h
      subst hzp
      have hl := refSize_len n 8
      have ht : List.take (Int.toNat 8) (List.drop (Int.toNat 0) (refSize n 8).fst) = (refSize n 8).1 := by
        rw [show Int.toNat 0 = 0 from rfl, List.drop_zero]
        exact List.take_of_length_le (by rw [hl]; decide)
      rw [ht]
      exact ⟨by simp; omega, fun kk m e => by cases e; omega, by simp [Nat.add_comm], by simp [hl]; omega, by simp⟩
    · have h := of_decide_eq_false h
      have hzp : z ≠ pad n := fun e => h ((hpz z (by omega)).2 e)
      refine ⟨⟨z + 1, by omega⟩, ⟨⟨wkD_eq ?_, rfl, wkD_eq rfl, rfl, wkD_eq rfl, rfl, trivial⟩, ⟨rfl, Nat.le_of_ble_eq_true rfl, rfl, trivial⟩, trivial⟩, by (try simp only); omega⟩
      exact some_i64 (by (try simp only); omega)
end Go.Vi.TP
end

section
set_option linter.unusedVariables false
set_option linter.unusedSimpArgs false
set_option maxHeartbeats 0
set_option maxRecDepth 20000
namespace Go.Vi.TP
open Go.Proofs

theorem c_three : Contract E 61 := by
  refine contract_seeT hE hgl (show E.P.funcs[61]? = some Tryd.f61 from Tryd.func61) rfl (p := sp_three) (fun _ _ _ => rfl) ?_
  intro args hv
  unfold sp_three at hv ⊢
  split at hv
  case h_2 => exact hv.elim
  refine ⟨by simp, Nat.le_of_ble_eq_true rfl, ?_⟩
  simp (config := {dsimp := false}) only [↓vp0, vz, vn, nq, tys, cellD, wideIR, if_true, if_false, implies_true, forall_const, ne_eq, reduceIte, reduceCtorEq, Nat.reduceEqDiff, Nat.reduceAdd, Nat.reduceMul, Nat.reduceLT, Nat.reduceSub, Nat.reduceLeDiff, Nat.reduceBNe, Nat.reduceBEq, Nat.reduceBeqDiff, List.range, List.range.loop, gl0, Tryd.ntmps61, Tryd.results61]
  rfl
theorem c_Right : Contract E 62 := by
  refine contract_seeT hE hgl (show E.P.funcs[62]? = some Tryd.f62 from Tryd.func62) rfl (p := sp_Right) (fun _ _ _ => rfl) ?_
  intro args hv
  unfold sp_Right at hv ⊢
  split at hv
  case h_2 => exact hv.elim
  rename_i x n
  refine ⟨by simp, Nat.le_of_ble_eq_true rfl, ?_⟩
  simp (config := {dsimp := false}) only [↓vp0, vz, vn, nq, tys, cellD, wideIR, if_true, if_false, implies_true, forall_const, ne_eq, reduceIte, reduceCtorEq, Nat.reduceEqDiff, Nat.reduceAdd, Nat.reduceMul, Nat.reduceLT, Nat.reduceSub, Nat.reduceLeDiff, Nat.reduceBNe, Nat.reduceBEq, Nat.reduceBeqDiff, List.range, List.range.loop, gl0, Tryd.ntmps62, Tryd.results62]
  simp only [givesIf] at hv
  refine loopI (Fin (n.toNat + 1)) (fun i => [(5, .int .i64 (i.1 : Int)), (0, .int .u32 (iterI rstep i.1 x)), (1, .int .i64 n)]) (fun _ => ⟨[], [], 8⟩) (fun i => n.toNat - i.1) 0 (fun _ => rfl) ?_ ?_
  · simp [Wk, wkSl, wkD, wkBs, wkTs, look, D.under, iterI]
  rintro ⟨i, hi⟩
  simp (config := {dsimp := false}) only [↓vp0, vz, vn, nq, tys, cellD, wideIR, if_true, if_false, implies_true, forall_const, ne_eq, reduceIte, reduceCtorEq, Nat.reduceEqDiff, Nat.reduceAdd, Nat.reduceMul, Nat.reduceLT, Nat.reduceSub, Nat.reduceLeDiff, Nat.reduceBNe, Nat.reduceBEq, Nat.reduceBeqDiff, List.range, List.range.loop, gl0, Tryd.ntmps62, Tryd.results62]
  refine ⟨fun h => ?_, fun h => ?_⟩
  · have h := of_decide_eq_true h
    refine ⟨by decide, by decide, ⟨i + 1, by omega⟩, ?_, by simp only; omega⟩
    simp [Wk, wkSl, wkD, wkBs, wkTs, look, D.under, iterI, rstep, IntWalk.i64_in ((i : Int) + 1) (by omega)]
  · have h := of_decide_eq_false h
    obtain rfl : i = n.toNat := by omega
    rfl
theorem c_Shift : Contract E 65 := by
  refine contract_seeT hE hgl (show E.P.funcs[65]? = some Tryd.f65 from Tryd.func65) rfl (p := sp_Shift) (fun _ _ _ => rfl) ?_
  intro args hv
  unfold sp_Shift at hv ⊢
  split at hv
  case h_2 => exact hv.elim
  rename_i x n
  refine ⟨by simp, Nat.le_of_ble_eq_true rfl, ?_⟩
  simp (config := {dsimp := false}) only [↓vp0, vz, vn, nq, tys, cellD, wideIR, if_true, if_false, implies_true, forall_const, ne_eq, reduceIte, reduceCtorEq, Nat.reduceEqDiff, Nat.reduceAdd, Nat.reduceMul, Nat.reduceLT, Nat.reduceSub, Nat.reduceLeDiff, Nat.reduceBNe, Nat.reduceBEq, Nat.reduceBeqDiff, List.range, List.range.loop, gl0, Tryd.ntmps65, Tryd.results65]
  simp only [givesIf] at hv
  refine loopI (Fin (n.toNat + 1)) (fun i => [(5, .int .i64 (i.1 : Int)), (0, .int .u32 (iterI hstep i.1 x)), (1, .int .i64 n)]) (fun _ => ⟨[], [], 8⟩) (fun i => n.toNat - i.1) 0 (fun _ => rfl) ?_ ?_
  · simp [Wk, wkSl, wkD, wkBs, wkTs, look, D.under, iterI]
  rintro ⟨i, hi⟩
  simp (config := {dsimp := false}) only [↓vp0, vz, vn, nq, tys, cellD, wideIR, if_true, if_false, implies_true, forall_const, ne_eq, reduceIte, reduceCtorEq, Nat.reduceEqDiff, Nat.reduceAdd, Nat.reduceMul, Nat.reduceLT, Nat.reduceSub, Nat.reduceLeDiff, Nat.reduceBNe, Nat.reduceBEq, Nat.reduceBeqDiff, List.range, List.range.loop, gl0, Tryd.ntmps65, Tryd.results65]
  refine ⟨fun h => ?_, fun h => ?_⟩
  · have h := of_decide_eq_true h
    refine ⟨by decide, ⟨i + 1, by omega⟩, ?_, by simp only; omega⟩
    simp [Wk, wkSl, wkD, wkBs, wkTs, look, D.under, iterI, hstep, IntWalk.i64_in ((i : Int) + 1) (by omega)]
  · have h := of_decide_eq_false h
    obtain rfl : i = n.toNat := by omega
    rfl
theorem toldL_pos (m : Nat) (h : 0 < m) : toldL m = ((m % 10 : Nat) : Int) :: toldL (m / 10) := by
  cases m with
  | zero => omega
  | succ m => rw [toldL]
theorem toldL_len : ∀ (k n : Nat), n < 10 ^ k → (toldL n).length ≤ k
  | 0, n, h => by
    have : n = 0 := by simpa using h
    subst this
    simp [toldL]
  | k + 1, n, h => by
    rcases Nat.eq_zero_or_pos n with e | e
    · subst e; simp [toldL]
    · rw [toldL_pos n e]
      have := toldL_len k (n / 10) (by rw [Nat.pow_succ] at h; omega)
      simp only [List.length_cons]
      omega
theorem c_refNumber : Contract E 60 := by
  refine contract_seeT hE hgl (show E.P.funcs[60]? = some Tryd.f60 from Tryd.func60) rfl (p := sp_refNumber) (fun _ _ _ => rfl) ?_
  intro args hv
  unfold sp_refNumber at hv ⊢
  split at hv
  case h_2 => exact hv.elim
  rename_i b ws i
  refine ⟨by simp, Nat.le_of_ble_eq_true rfl, ?_⟩
  simp (config := {dsimp := false}) only [↓vp0, vz, vn, nq, tys, cellD, wideIR, if_true, if_false, implies_true, forall_const, ne_eq, reduceIte, reduceCtorEq, Nat.reduceEqDiff, Nat.reduceAdd, Nat.reduceMul, Nat.reduceLT, Nat.reduceSub, Nat.reduceLeDiff, Nat.reduceBNe, Nat.reduceBEq, Nat.reduceBeqDiff, List.range, List.range.loop, gl0, Tryd.ntmps60, Tryd.results60]
  simp only [givesIf] at hv ⊢
  refine ⟨fun h => ?_, fun h => ?_⟩
  · have h := of_decide_eq_true h
    refine loopI (Fin 5) (fun j => [(7, .int .u32 (wordN b i.toNat j.1)), (8, .int .i64 (j.1 : Int)), (0, .sli .no .u8 b), (2, .int .i64 i)]) (fun _ => ⟨[], [], 20⟩) (fun j => 4 - j.1) 0 (fun _ => rfl) ?_ ?_
    · simp [Wk, wkSl, wkD, wkBs, wkTs, look, D.under, underO, wordN]
    rintro ⟨j, hj⟩
    simp (config := {dsimp := false}) only [↓vp0, vz, vn, nq, tys, cellD, wideIR, if_true, if_false, implies_true, forall_const, ne_eq, reduceIte, reduceCtorEq, Nat.reduceEqDiff, Nat.reduceAdd, Nat.reduceMul, Nat.reduceLT, Nat.reduceSub, Nat.reduceLeDiff, Nat.reduceBNe, Nat.reduceBEq, Nat.reduceBeqDiff, List.range, List.range.loop, gl0, Tryd.ntmps60, Tryd.results60]
    have hb := hv.2.2.1
    refine ⟨fun hj4 => ?_, fun hj4 => ?_⟩
    · have hj4 := of_decide_eq_true hj4
      have e : IntKind.wrap .i64 (IntKind.wrap .i64 (4 * i) + (j : Int)) = 4 * i + j := by rw [IntWalk.i64_in (4 * i) (by omega), IntWalk.i64_in _ (by omega)]
      have e2 : (4 * i + (j : Int)).toNat = 4 * i.toNat + j := by omega
      rw [e, e2]
      refine ⟨by omega, by omega, ⟨j + 1, by omega⟩, ?_, by simp only; omega⟩
      simp [Wk, wkSl, wkD, wkBs, wkTs, look, D.under, underO, wordN, a32, IntWalk.i64_in ((j : Int) + 1) (by omega)]
    · have hj4 := of_decide_eq_false hj4
      obtain rfl : j = 4 := by omega
      have : i.toNat < 16 := by omega
      simp [numI, this]
  · have h := of_decide_eq_false h
    have hw := hv.2.2.2 (by omega)
    have e15 : IntKind.wrap .i64 (i - 15) = i - 15 := IntWalk.i64_in _ (by omega)
    have e2 : IntKind.wrap .i64 (i - 2) = i - 2 := IntWalk.i64_in _ (by omega)
    have e16 : IntKind.wrap .i64 (i - 16) = i - 16 := IntWalk.i64_in _ (by omega)
    have e7 : IntKind.wrap .i64 (i - 7) = i - 7 := IntWalk.i64_in _ (by omega)
    rw [e15, e2]
    refine ⟨by omega, by omega, by omega, by omega, ?_⟩
    refine drawI [1, 2, 9, 10] (by kernel_rfl) ?_
    simp (config := {dsimp := false}) only [↓vp0, vz, vn, nq, tys, cellD, wideIR, if_true, if_false, implies_true, forall_const, ne_eq, reduceIte, reduceCtorEq, Nat.reduceEqDiff, Nat.reduceAdd, Nat.reduceMul, Nat.reduceLT, Nat.reduceSub, Nat.reduceLeDiff, Nat.reduceBNe, Nat.reduceBEq, Nat.reduceBeqDiff, List.range, List.range.loop, gl0, Tryd.ntmps60, Tryd.results60, PF.toR, gives, givesIf, e16, e7, spec_three, sp_three, c_three, b_three, spec_Right, sp_Right, c_Right, b_Right, spec_Shift, sp_Shift, c_Shift, b_Shift]
    have n15 : (i - 15).toNat = i.toNat - 15 := by omega
    have n2 : (i - 2).toNat = i.toNat - 2 := by omega
    have n16 : (i - 16).toNat = i.toNat - 16 := by omega
    have n7 : (i - 7).toNat = i.toNat - 7 := by omega
    have nn : ¬ i.toNat < 16 := by omega
    refine ⟨by omega, by omega, by decide, by decide, by decide, by decide, by decide, by decide, by omega, by omega, by decide, by decide, by decide, by decide, by decide, by decide, ?_⟩
    rw [n15, n2, n16, n7]
    unfold numI
    rw [if_neg nn]
    rfl
theorem c_refFirst : Contract E 53 := by
  refine contract_seeT hE hgl (show E.P.funcs[53]? = some Tryd.f53 from Tryd.func53) rfl (p := sp_refFirst) (fun _ _ _ => rfl) ?_
  intro args hv
  unfold sp_refFirst at hv ⊢
  split at hv
  case h_2 => exact hv.elim
  refine ⟨by simp, Nat.le_of_ble_eq_true rfl, ?_⟩
  simp (config := {dsimp := false}) only [↓vp0, vz, vn, nq, tys, cellD, wideIR, if_true, if_false, implies_true, forall_const, ne_eq, reduceIte, reduceCtorEq, Nat.reduceEqDiff, Nat.reduceAdd, Nat.reduceMul, Nat.reduceLT, Nat.reduceSub, Nat.reduceLeDiff, Nat.reduceBNe, Nat.reduceBEq, Nat.reduceBeqDiff, List.range, List.range.loop, gl0, Tryd.ntmps53, Tryd.results53]
  rfl
theorem c_refRoundNumbers : Contract E 52 := by
  refine contract_seeT hE hgl (show E.P.funcs[52]? = some Tryd.f52 from Tryd.func52) rfl (p := sp_refRoundNumbers) (fun _ _ _ => rfl) ?_
  intro args hv
  unfold sp_refRoundNumbers at hv ⊢
  split at hv
  case h_2 => exact hv.elim
  refine ⟨by simp, Nat.le_of_ble_eq_true rfl, ?_⟩
  simp (config := {dsimp := false}) only [↓vp0, vz, vn, nq, tys, cellD, wideIR, if_true, if_false, implies_true, forall_const, ne_eq, reduceIte, reduceCtorEq, Nat.reduceEqDiff, Nat.reduceAdd, Nat.reduceMul, Nat.reduceLT, Nat.reduceSub, Nat.reduceLeDiff, Nat.reduceBNe, Nat.reduceBEq, Nat.reduceBeqDiff, List.range, List.range.loop, gl0, Tryd.ntmps52, Tryd.results52]
  rfl
end Go.Vi.TP
end

section
set_option linter.unusedVariables false
set_option linter.unusedSimpArgs false
set_option maxHeartbeats 0
set_option maxRecDepth 20000
namespace Go.Vi.TP
open Go.Proofs

theorem chStep_len (st : List Int) (w k : Int) (h : st.length = 8) : (chStep st w k).length = 8 := by
  simp [chStep, h]
theorem chRun_len (st b ks : List Int) (h : st.length = 8) : ∀ i, (chRun st b ks i).1.length = i ∧ (chRun st b ks i).2.length = 8
  | 0 => ⟨rfl, h⟩
  | i + 1 => by
    obtain ⟨h1, h2⟩ := chRun_len st b ks h i
    exact ⟨by simp [chRun, h1], chStep_len _ _ _ h2⟩
theorem c_refChange : Contract E 54 := by
  refine contract_seeT hE hgl (show E.P.funcs[54]? = some Tryd.f54 from Tryd.func54) rfl (p := sp_refChange) (fun _ _ _ => rfl) ?_
  intro args hv
  unfold sp_refChange at hv ⊢
  split at hv
  case h_2 => exact hv.elim
  rename_i st b ks
  refine ⟨by simp, Nat.le_of_ble_eq_true rfl, ?_⟩
  simp (config := {dsimp := false}) only [↓vp0, vz, vn, nq, tys, cellD, wideIR, if_true, if_false, implies_true, forall_const, ne_eq, reduceIte, reduceCtorEq, Nat.reduceEqDiff, Nat.reduceAdd, Nat.reduceMul, Nat.reduceLT, Nat.reduceSub, Nat.reduceLeDiff, Nat.reduceBNe, Nat.reduceBEq, Nat.reduceBeqDiff, List.range, List.range.loop, gl0, Tryd.ntmps54, Tryd.results54]
  simp only [givesIf] at hv
  refine loopA [(7, some .u32, 0)] ?_
  simp only [adopt, look, reduceIte, Nat.reduceEqDiff, if_false, setL, Nat.reduceAdd]
  refine ⟨Fin 65, fun i => [(0, .sli .no .u32 st), (1, .sli .no .u8 b), (2, .sli .no .u32 ks), (7, .sli (.tok 20) .u32 (chRun st b ks i.1).1), (8, .sli .no .u32 (chRun st b ks i.1).2), (9, .int .i64 (i.1 : Int))], fun i => ⟨[], [(20, (i.1, 1))], 24⟩, fun i => 64 - i.1, 0, fun _ => rfl, ?_, ?_⟩
  · simp [Wk, wkSl, wkD, wkBs, wkTs, look, D.under, underO, S.tok, chRun]
  rintro ⟨i, hi⟩
  simp (config := {dsimp := false}) only [↓vp0, vz, vn, nq, tys, cellD, wideIR, if_true, if_false, implies_true, forall_const, ne_eq, reduceIte, reduceCtorEq, Nat.reduceEqDiff, Nat.reduceAdd, Nat.reduceMul, Nat.reduceLT, Nat.reduceSub, Nat.reduceLeDiff, Nat.reduceBNe, Nat.reduceBEq, Nat.reduceBeqDiff, List.range, List.range.loop, gl0, Tryd.ntmps54, Tryd.results54, PF.toR, givesIf, spec_refNumber, sp_refNumber, c_refNumber, b_refNumber]
  refine ⟨fun h => ?_, fun h => ?_⟩
  · have h := of_decide_eq_true h
    have hi64 : i < 64 := by omega
    obtain ⟨hl1, hl2⟩ := chRun_len st b ks hv.1 i
    refine ⟨by omega, by omega, by omega, by omega, by rw [hl1], by omega, by decide, by omega, ?_⟩
    refine drawI [0, 1, 2, 7, 8, 9, 10, 11] (by kernel_rfl) ?_
    simp (config := {dsimp := false}) only [↓vp0, vz, vn, nq, tys, cellD, wideIR, if_true, if_false, implies_true, forall_const, ne_eq, reduceIte, reduceCtorEq, Nat.reduceEqDiff, Nat.reduceAdd, Nat.reduceMul, Nat.reduceLT, Nat.reduceSub, Nat.reduceLeDiff, Nat.reduceBNe, Nat.reduceBEq, Nat.reduceBeqDiff, List.range, List.range.loop, gl0, Tryd.ntmps54, Tryd.results54, PF.toR, gives, givesIf, spec_three, sp_three, c_three, b_three, spec_Right, sp_Right, c_Right, b_Right]
    refine ⟨by omega, by omega, by omega, by omega, by omega, by omega, by omega, by omega, by omega, by omega, by omega, by omega, by omega, by omega, ?_⟩
    refine drawI [0, 1, 2, 7, 8, 9, 12] (by kernel_rfl) ?_
    simp (config := {dsimp := false}) only [↓vp0, vz, vn, nq, tys, cellD, wideIR, if_true, if_false, implies_true, forall_const, ne_eq, reduceIte, reduceCtorEq, Nat.reduceEqDiff, Nat.reduceAdd, Nat.reduceMul, Nat.reduceLT, Nat.reduceSub, Nat.reduceLeDiff, Nat.reduceBNe, Nat.reduceBEq, Nat.reduceBeqDiff, List.range, List.range.loop, gl0, Tryd.ntmps54, Tryd.results54, PF.toR, gives, givesIf, spec_three, sp_three, c_three, b_three, spec_Right, sp_Right, c_Right, b_Right]
    refine ⟨by omega, by omega, by omega, by omega, by omega, by omega, by omega, by omega, by omega, by omega, by omega, by omega, by omega, by omega, by omega, by omega, by omega, by omega, by omega, by omega, by omega, by omega, by omega, by omega, ?_⟩
    refine drawI [0, 1, 2, 7, 8, 9, 12, 13] (by kernel_rfl) ?_
    simp (config := {dsimp := false}) only [↓vp0, vz, vn, nq, tys, cellD, wideIR, if_true, if_false, implies_true, forall_const, ne_eq, reduceIte, reduceCtorEq, Nat.reduceEqDiff, Nat.reduceAdd, Nat.reduceMul, Nat.reduceLT, Nat.reduceSub, Nat.reduceLeDiff, Nat.reduceBNe, Nat.reduceBEq, Nat.reduceBeqDiff, List.range, List.range.loop, gl0, Tryd.ntmps54, Tryd.results54]
    refine ⟨by omega, by omega, by omega, by omega, by omega, by omega, by omega, by omega, by omega, by omega, by omega, by omega, by simp; omega, by kernel_rfl, ?_⟩
    refine ⟨⟨i + 1, by omega⟩, ⟨⟨wkD_eq rfl, rfl, wkD_eq rfl, rfl, wkD_eq rfl, rfl, wkD_eq rfl, rfl, .inr ⟨_, rfl⟩, rfl, wkD_eq ?_, rfl, trivial⟩, trivial, ⟨?_, Nat.le_of_ble_eq_true rfl, trivial⟩⟩, by simp only; omega⟩
    · exact congrArg (fun x => some (D.int .i64 x)) (IntWalk.i64_in ((i : Int) + 1) (by omega))
    · exact congrArg (fun x => some (x, 1)) (by simp [hl1])
  · have h := of_decide_eq_false h
    obtain rfl : i = 64 := by omega
    refine loopA [(14, some .u32, 0)] ?_
    simp only [adopt, look, reduceIte, Nat.reduceEqDiff, if_false, setL, Nat.reduceAdd]
    refine ⟨Fin 9, fun i => [(14, .sli (.tok 40) .u32 ((changeI st b ks).take i.1)), (0, .sli .no .u32 st), (8, .sli .no .u32 (chRun st b ks 64).2), (15, .int .i64 (i.1 : Int))], fun i => ⟨[], [(40, (i.1, 1))], 44⟩, fun i => 8 - i.1, 0, fun _ => rfl, ?_, ?_⟩
    · exact ⟨⟨wkD_eq rfl, rfl, wkD_eq rfl, rfl, wkD_eq rfl, rfl, wkD_eq rfl, rfl, trivial⟩, trivial, ⟨rfl, Nat.le_of_ble_eq_true rfl, trivial⟩⟩
    rintro ⟨i, hi⟩
    simp (config := {dsimp := false}) only [↓vp0, vz, vn, nq, tys, cellD, wideIR, if_true, if_false, implies_true, forall_const, ne_eq, reduceIte, reduceCtorEq, Nat.reduceEqDiff, Nat.reduceAdd, Nat.reduceMul, Nat.reduceLT, Nat.reduceSub, Nat.reduceLeDiff, Nat.reduceBNe, Nat.reduceBEq, Nat.reduceBeqDiff, List.range, List.range.loop, gl0, Tryd.ntmps54, Tryd.results54]
    have hl2 := (chRun_len st b ks hv.1 64).2
    have hcl : (changeI st b ks).length = 8 := by simp [changeI]
    refine ⟨fun h => ?_, fun h => ?_⟩
    · have h := of_decide_eq_true h
      refine drawI [0, 8, 14, 15] (by kernel_rfl) ?_
      simp (config := {dsimp := false}) only [↓vp0, vz, vn, nq, tys, cellD, wideIR, if_true, if_false, implies_true, forall_const, ne_eq, reduceIte, reduceCtorEq, Nat.reduceEqDiff, Nat.reduceAdd, Nat.reduceMul, Nat.reduceLT, Nat.reduceSub, Nat.reduceLeDiff, Nat.reduceBNe, Nat.reduceBEq, Nat.reduceBeqDiff, List.range, List.range.loop, gl0, Tryd.ntmps54, Tryd.results54]
      have hlt : ((changeI st b ks).take i).length = i := by simp; omega
      refine ⟨by omega, by omega, by omega, by omega, by rw [hlt], by omega, by kernel_rfl, ⟨i + 1, by omega⟩, ⟨⟨wkD_eq ?_, rfl, wkD_eq rfl, rfl, wkD_eq rfl, rfl, wkD_eq ?_, rfl, trivial⟩, trivial, ⟨?_, Nat.le_of_ble_eq_true rfl, trivial⟩⟩, by simp only; omega⟩
      · refine congrArg (fun x => some (D.sli (.tok 40) .u32 x)) ?_
        have : i < (changeI st b ks).length := by omega
        rw [List.take_add_one, List.getElem?_eq_getElem this]
        simp [changeI, a32]
      · exact congrArg (fun x => some (D.int .i64 x)) (IntWalk.i64_in ((i : Int) + 1) (by omega))
      · exact congrArg (fun x => some (x, 1)) (by rw [hlt])
    · have h := of_decide_eq_false h
      obtain rfl : i = 8 := by omega
      rw [List.take_of_length_le (by omega)]
      rfl
end Go.Vi.TP
end

section
set_option linter.unusedVariables false
set_option linter.unusedSimpArgs false
set_option maxHeartbeats 0
set_option maxRecDepth 20000
namespace Go.Vi.TP
open Go.Proofs

theorem changeI_len (s b k : List Int) : (changeI s b k).length = 8 := by simp [changeI]
theorem refBlocks_len (k all : List Int) (s : List Int) (h : s.length = 8) : ∀ i, (refBlocks k all i s).length = 8
  | 0 => h
  | i + 1 => changeI_len _ _ _
theorem refPadded_len (b : List Int) (h : b.length < 1000000000) : ∃ m, (refPadded b).length = 64 * m ∧ m < 16000000 := by
  have := refSize_len b.length 8
  refine ⟨(refPadded b).length / 64, ?_, ?_⟩ <;> simp [refPadded, this] <;> unfold pad <;> omega
theorem outBytes_len (s : List Int) : (outBytes s).length = 32 := by simp [outBytes]
theorem c_refSum : Contract E 44 := by
  refine contract_seeT hE hgl (show E.P.funcs[44]? = some Tryd.f44 from Tryd.func44) rfl (p := sp_refSum) (fun _ _ _ => rfl) ?_
  intro args hv
  unfold sp_refSum at hv ⊢
  split at hv
  case h_2 => exact hv.elim
  rename_i b
  refine ⟨by simp, Nat.le_of_ble_eq_true rfl, ?_⟩
  simp (config := {dsimp := false}) only [↓vp0, vz, vn, nq, tys, cellD, wideIR, if_true, if_false, implies_true, forall_const, ne_eq, reduceIte, reduceCtorEq, Nat.reduceEqDiff, Nat.reduceAdd, Nat.reduceMul, Nat.reduceLT, Nat.reduceSub, Nat.reduceLeDiff, Nat.reduceBNe, Nat.reduceBEq, Nat.reduceBeqDiff, List.range, List.range.loop, gl0, Tryd.ntmps44, Tryd.results44, PF.toR, gives, givesIf, spec_refClosing, sp_refClosing, c_refClosing, b_refClosing, spec_refRoundNumbers, sp_refRoundNumbers, c_refRoundNumbers, b_refRoundNumbers, spec_refFirst, sp_refFirst, c_refFirst, b_refFirst]
  simp only [givesIf] at hv ⊢
  obtain ⟨m, hm, hm2⟩ := refPadded_len b hv
  have hpl : b.length + (refPadded b).length < 3000000000 := by omega
  have hpd : b ++ 128 :: (List.replicate (pad b.length) 0 ++ (refSize b.length 8).1) = refPadded b := by simp [refPadded]
  have hlen : b.length + ((List.replicate (pad ↑b.length) (0 : Int) ++ (refSize (↑b.length) 8).fst).length + 1) = (refPadded b).length := by rw [← hpd]; simp
  refine ⟨by omega, by omega, by omega, by simp, by rw [hlen]; omega, ?_⟩
  rw [hpd, hlen]
  refine loopI (Fin (m + 1)) (fun i => [(6, .int .i64 (64 * (i.1 : Int))), (3, .sli (.tok 16) .u8 (refPadded b)), (4, .sli .full .u32 kList), (5, .sli .no .u32 (refBlocks kList (refPadded b) i.1 h0)), (2, .bp 0 0)]) (fun _ => ⟨[(0, .arr .u8 32 (List.replicate 32 0))], [(16, ((refPadded b).length, 1))], 68⟩) (fun i => m - i.1) 0 (fun _ => rfl) ?_ ?_
  · exact ⟨⟨wkD_eq rfl, rfl, wkD_eq rfl, rfl, wkD_eq rfl, rfl, .inr ⟨_, rfl⟩, rfl, wkD_eq rfl, rfl, trivial⟩, ⟨rfl, Nat.le_of_ble_eq_true rfl, rfl, trivial⟩, ⟨rfl, Nat.le_of_ble_eq_true rfl, trivial⟩⟩
  rintro ⟨i, hi⟩
  simp (config := {dsimp := false}) only [↓vp0, vz, vn, nq, tys, cellD, wideIR, if_true, if_false, implies_true, forall_const, ne_eq, reduceIte, reduceCtorEq, Nat.reduceEqDiff, Nat.reduceAdd, Nat.reduceMul, Nat.reduceLT, Nat.reduceSub, Nat.reduceLeDiff, Nat.reduceBNe, Nat.reduceBEq, Nat.reduceBeqDiff, List.range, List.range.loop, gl0, Tryd.ntmps44, Tryd.results44, PF.toR, gives, givesIf, spec_refChange, sp_refChange, c_refChange, b_refChange]
  have hbl := refBlocks_len kList (refPadded b) h0 rfl i
  refine ⟨fun h => ?_, fun h => ?_⟩
  · have h := of_decide_eq_true h
    have e1 : IntKind.wrap .i64 (64 * (i : Int) + 64) = 64 * i + 64 := IntWalk.i64_in _ (by omega)
    have e2 : (64 * (i : Int) + 64).toNat = 64 * i + 64 := by omega
    have e3 : (64 * (i : Int)).toNat = 64 * i := by omega
    rw [e1, e2, e3]
    have hd : 64 ≤ (List.drop (64 * i) (List.take (64 * i + 64) (refPadded b))).length := by simp; omega
    refine ⟨by omega, by omega, by omega, Int.le_refl _, hbl, hd, rfl, ⟨i + 1, by omega⟩, ⟨⟨wkD_eq ?_, rfl, wkD_eq rfl, rfl, wkD_eq rfl, rfl, wkD_eq rfl, rfl, wkD_eq rfl, rfl, trivial⟩, ⟨rfl, Nat.le_of_ble_eq_true rfl, rfl, trivial⟩, ⟨rfl, Nat.le_of_ble_eq_true rfl, trivial⟩⟩, by (try simp only); omega⟩
    exact some_int (by simp only; omega)
  · have h := of_decide_eq_false h
    obtain rfl : i = m := by omega
    generalize hst : refBlocks kList (refPadded b) i h0 = st at hbl ⊢
    refine loopI (Fin 33) (fun j => [(8, .int .i64 (j.1 : Int)), (7, .bp 84 0), (5, .sli .no .u32 st), (2, .bp 0 0)]) (fun j => ⟨[(0, .arr .u8 32 (List.replicate 32 0)), (84, .arr .u8 32 ((outBytes st).take j.1 ++ List.replicate (32 - j.1) 0))], [], 92⟩) (fun j => 32 - j.1) 0 (fun _ => rfl) ?_ ?_
    · exact ⟨⟨wkD_eq rfl, rfl, wkD_eq rfl, rfl, wkD_eq rfl, rfl, wkD_eq rfl, rfl, trivial⟩, ⟨rfl, Nat.le_of_ble_eq_true rfl, rfl, rfl, Nat.le_of_ble_eq_true rfl, rfl, trivial⟩, trivial⟩
    rintro ⟨j, hj⟩
    simp (config := {dsimp := false}) only [↓vp0, vz, vn, nq, tys, cellD, wideIR, if_true, if_false, implies_true, forall_const, ne_eq, reduceIte, reduceCtorEq, Nat.reduceEqDiff, Nat.reduceAdd, Nat.reduceMul, Nat.reduceLT, Nat.reduceSub, Nat.reduceLeDiff, Nat.reduceBNe, Nat.reduceBEq, Nat.reduceBeqDiff, List.range, List.range.loop, gl0, Tryd.ntmps44, Tryd.results44]
    refine ⟨fun h => ?_, fun h => ?_⟩
    · have h := of_decide_eq_true h
      have e4 : IntKind.wrap .i64 ((j : Int).tdiv 4) = j / 4 := by rw [Int.tdiv_eq_ediv_of_nonneg (by omega), IntWalk.i64_in _ (by omega)]
      have e5 : (j : Int).tmod 4 = ((j % 4 : Nat) : Int) := by rw [Int.tmod_eq_emod_of_nonneg (by omega)]; omega
      have e6 : ((j : Int) / 4).toNat = j / 4 := by omega
      rw [e4, e5, e6]
      refine ⟨by decide, by omega, by omega, by decide, ?_⟩
      refine loopI (Fin (4 - j % 4)) (fun k => [(10, .int .i64 (j % 4 + (k.1 : Int))), (9, .int .u32 (iterI (fun x => IntKind.wrap .u32 (x.tdiv 256)) k.1 (st.getD (j / 4) 0))), (8, .int .i64 (j : Int)), (7, .bp 84 0), (5, .sli .no .u32 st), (2, .bp 0 0)]) (fun _ => ⟨[(0, .arr .u8 32 (List.replicate 32 0)), (84, .arr .u8 32 ((outBytes st).take j ++ List.replicate (32 - j) 0))], [], 136⟩) (fun k => 4 - k.1) ⟨0, by omega⟩ (fun _ => rfl) ?_ ?_
      · refine ⟨⟨wkD_eq ?_, rfl, wkD_eq rfl, rfl, wkD_eq rfl, rfl, wkD_eq rfl, rfl, wkD_eq rfl, rfl, wkD_eq rfl, rfl, trivial⟩, ⟨rfl, Nat.le_of_ble_eq_true rfl, rfl, rfl, Nat.le_of_ble_eq_true rfl, rfl, trivial⟩, trivial⟩
        exact some_int (by simp)
      rintro ⟨k, hk⟩
      simp (config := {dsimp := false}) only [↓vp0, vz, vn, nq, tys, cellD, wideIR, if_true, if_false, implies_true, forall_const, ne_eq, reduceIte, reduceCtorEq, Nat.reduceEqDiff, Nat.reduceAdd, Nat.reduceMul, Nat.reduceLT, Nat.reduceSub, Nat.reduceLeDiff, Nat.reduceBNe, Nat.reduceBEq, Nat.reduceBeqDiff, List.range, List.range.loop, gl0, Tryd.ntmps44, Tryd.results44]
      refine ⟨fun h => ?_, fun h => ?_⟩
      · have h := of_decide_eq_true h
        refine ⟨by decide, ⟨k + 1, by omega⟩, ⟨⟨wkD_eq ?_, rfl, wkD_eq rfl, rfl, wkD_eq rfl, rfl, wkD_eq rfl, rfl, wkD_eq rfl, rfl, wkD_eq rfl, rfl, trivial⟩, ⟨rfl, Nat.le_of_ble_eq_true rfl, rfl, rfl, Nat.le_of_ble_eq_true rfl, rfl, trivial⟩, trivial⟩, by (try simp only); omega⟩
        exact some_i64 (by (try simp only); omega)
      · have h := of_decide_eq_false h
        obtain rfl : k = 3 - j % 4 := by omega
        refine ⟨by decide, by omega, by omega, ⟨j + 1, by omega⟩, ⟨⟨wkD_eq ?_, rfl, wkD_eq rfl, rfl, wkD_eq rfl, rfl, wkD_eq rfl, rfl, trivial⟩, ⟨rfl, Nat.le_of_ble_eq_true rfl, rfl, ?_, Nat.le_of_ble_eq_true rfl, rfl, trivial⟩, trivial⟩, by (try simp only); omega⟩
        · exact some_i64 (by (try simp only); omega)
        · refine some_arr ?_
          have hol := outBytes_len st
          have hj' : j < 32 := by omega
          have ht : ((outBytes st).take j).length = j := by simp; omega
          rw [show ((j : Int)).toNat = j from rfl, List.set_append_right _ _ (by omega), ht, Nat.sub_self, show 32 - j = (32 - (j + 1)) + 1 by omega, List.replicate_succ, List.set_cons_zero, List.take_add_one, List.getElem?_eq_getElem (by omega)]
          simp [outBytes]
    · have h := of_decide_eq_false h
      obtain rfl : j = 32 := by omega
      have hol := outBytes_len st
      rw [List.take_of_length_le (by omega)]
      subst hst
      have : (refPadded b).length / 64 = i := by omega
      simp [refSumI, this]
theorem c_refTwice : Contract E 29 := by
  refine contract_seeT hE hgl (show E.P.funcs[29]? = some Tryd.f29 from Tryd.func29) rfl (p := sp_refTwice) (fun _ _ _ => rfl) ?_
  intro args hv
  unfold sp_refTwice at hv ⊢
  split at hv
  case h_2 => exact hv.elim
  rename_i b
  refine ⟨by simp, Nat.le_of_ble_eq_true rfl, ?_⟩
  simp only [givesIf] at hv
  simp (config := {dsimp := false}) only [↓vp0, vz, vn, nq, tys, cellD, wideIR, if_true, if_false, implies_true, forall_const, ne_eq, reduceIte, reduceCtorEq, Nat.reduceEqDiff, Nat.reduceAdd, Nat.reduceMul, Nat.reduceLT, Nat.reduceSub, Nat.reduceLeDiff, Nat.reduceBNe, Nat.reduceBEq, Nat.reduceBeqDiff, List.range, List.range.loop, gl0, Tryd.ntmps29, Tryd.results29, PF.toR, gives, givesIf, spec_refSum, sp_refSum, c_refSum, b_refSum]
  refine ⟨hv, ?_⟩
  have hl : (refSumI b).length = 32 := outBytes_len _
  refine loopA [(4, some .u8, 0)] ?_
  simp only [adopt, look, reduceIte, Nat.reduceEqDiff, if_false, setL, Nat.reduceAdd]
  refine ⟨Fin 33, fun i => [(4, .sli (.tok 28) .u8 ((refSumI b).take i.1)), (5, .int .i64 (i.1 : Int)), (3, .bp 12 0), (2, .bp 0 0)], fun i => ⟨[(0, .arr .u8 32 (List.replicate 32 0)), (12, .arr .u8 32 (refSumI b))], [(28, (i.1, 1))], 32⟩, fun i => 32 - i.1, 0, fun _ => rfl, ⟨⟨wkD_eq rfl, rfl, wkD_eq rfl, rfl, wkD_eq rfl, rfl, wkD_eq rfl, rfl, trivial⟩, ⟨rfl, Nat.le_of_ble_eq_true rfl, rfl, rfl, Nat.le_of_ble_eq_true rfl, rfl, trivial⟩, ⟨rfl, Nat.le_of_ble_eq_true rfl, trivial⟩⟩, ?_⟩
  rintro ⟨i, hi⟩
  simp (config := {dsimp := false}) only [↓vp0, vz, vn, nq, tys, cellD, wideIR, if_true, if_false, implies_true, forall_const, ne_eq, reduceIte, reduceCtorEq, Nat.reduceEqDiff, Nat.reduceAdd, Nat.reduceMul, Nat.reduceLT, Nat.reduceSub, Nat.reduceLeDiff, Nat.reduceBNe, Nat.reduceBEq, Nat.reduceBeqDiff, List.range, List.range.loop, gl0, Tryd.ntmps29, Tryd.results29, PF.toR, gives, givesIf, spec_refSum, sp_refSum, c_refSum, b_refSum]
  have hti : ((refSumI b).take i).length = i := by simp; omega
  refine ⟨fun hh => ?_, fun hh => ?_⟩
  · have hh := of_decide_eq_true hh
    rw [hti]
    refine ⟨by omega, by omega, rfl, by omega, ⟨i + 1, by omega⟩, ⟨⟨wkD_eq ?_, rfl, wkD_eq ?_, rfl, wkD_eq rfl, rfl, wkD_eq rfl, rfl, trivial⟩, ⟨rfl, Nat.le_of_ble_eq_true rfl, rfl, rfl, Nat.le_of_ble_eq_true rfl, rfl, trivial⟩, ⟨?_, Nat.le_of_ble_eq_true rfl, trivial⟩⟩, by (try simp only); omega⟩
    · refine some_sli ?_
      rw [List.take_add_one, List.getElem?_eq_getElem (by omega)]
      simp [List.getD, List.getElem?_eq_getElem (show i < (refSumI b).length by omega)]
    · exact some_i64 (by (try simp only); omega)
    · rfl
  · have hh := of_decide_eq_false hh
    obtain rfl : i = 32 := by omega
    rw [List.take_of_length_le (by omega)]
    first | exact ⟨by omega, rfl⟩ | (rw [outBytes_len]; omega) | trace_state
theorem refTextI_len (h : List Int) : (refTextI h).length = 64 := by simp [refTextI]
theorem refTextI_at (h : List Int) (i : Nat) (hi : i < 64) : (refTextI h)[i]? = some (hexOf (if i % 2 = 1 then (h.getD (i / 2) 0).tmod 16 else IntKind.wrap .u8 ((h.getD (i / 2) 0).tdiv 16))) := by
  simp only [refTextI, List.getElem?_map, List.getElem?_range hi, Option.map_some]
theorem byteAt_range (s : ByteArray) (k : Int) : 0 ≤ byteAt s k ∧ byteAt s k < 256 := by
  unfold byteAt
  split
  · rename_i b _
    have := b.toNat_lt
    omega
  · omega
theorem refOf_none {s : ByteArray} {i : Nat} (h : refOfP s i = none) : ∀ j, i ≤ j → refOfP s j = none := by
  intro j hj
  induction j with
  | zero => obtain rfl : i = 0 := by omega
            exact h
  | succ j ih =>
    by_cases e : i = j + 1
    · subst e; exact h
    · simp only [refOfP, ih (by omega)]
theorem hexVal_le (c : Int) : hexVal c ≤ 15 ∧ -1 ≤ hexVal c := by
  unfold hexVal
  split
  · omega
  · split <;> omega
theorem of_none {s : ByteArray} {i : Nat} (h : ofP s i = none) : ∀ j, i ≤ j → ofP s j = none := by
  intro j hj
  induction j with
  | zero => obtain rfl : i = 0 := by omega
            exact h
  | succ j ih =>
    by_cases e : i = j + 1
    · subst e; exact h
    · simp only [ofP, ih (by omega)]
end Go.Vi.TP
end

section
set_option linter.unusedVariables false
set_option linter.unusedSimpArgs false
set_option maxHeartbeats 0
set_option maxRecDepth 20000
namespace Go.Vi.TP
open Go.Proofs

theorem c_rput : Contract E 7 := by
  refine contract_seeT hE hgl (show E.P.funcs[7]? = some Tryd.f7 from Tryd.func7) rfl (p := sp_rput) (fun _ _ _ => rfl) ?_
  intro args hv
  unfold sp_rput at hv ⊢
  split at hv
  case h_2 => exact hv.elim
  rename_i v is os l
  refine ⟨by simp, Nat.le_of_ble_eq_true rfl, ?_⟩
  simp only [givesIf] at hv
  have hok := hv
  obtain ⟨t, rfl, rfl, rfl, rfl, ht, -⟩ := okT_tx hok
  have eta : (⟨t.ver, t.ins, t.outs, t.lock⟩ : TxP) = t := rfl
  obtain ⟨W, hW⟩ : ∃ W, witnessedP t = W := ⟨_, rfl⟩
  have hW' : t.ins.any hasWit = W := hW
  by_cases h : checkP t = 0
  · have hlen := lay_len ht h W
    have hd : decide (checkP t = 0) = true := decide_eq_true h
    simp (config := {dsimp := false}) only [↓vp0, vz, vn, nq, tys, cellD, wideIR, if_true, if_false, implies_true, forall_const, ne_eq, reduceIte, reduceCtorEq, Nat.reduceEqDiff, Nat.reduceAdd, Nat.reduceMul, Nat.reduceLT, Nat.reduceSub, Nat.reduceLeDiff, Nat.reduceBNe, Nat.reduceBEq, Nat.reduceBeqDiff, List.range, List.range.loop, gl0, Tryd.ntmps7, Tryd.results7, PF.toR, givesIf, eta, hd, hW, put_0 h, spec_rcheck, sp_tcheck, c_rcheck, b_rcheck]
    refine ⟨hok, ?_⟩
    refine drawI [1] (by kernel_rfl) ?_
    simp (config := {dsimp := false}) only [↓vp0, vz, vn, nq, tys, cellD, wideIR, if_true, if_false, implies_true, forall_const, ne_eq, reduceIte, reduceCtorEq, Nat.reduceEqDiff, Nat.reduceAdd, Nat.reduceMul, Nat.reduceLT, Nat.reduceSub, Nat.reduceLeDiff, Nat.reduceBNe, Nat.reduceBEq, Nat.reduceBeqDiff, List.range, List.range.loop, gl0, Tryd.ntmps7, Tryd.results7, PF.toR, givesIf, eta, hW', spec_rwitnessed, sp_twitnessed, c_rwitnessed, b_rwitnessed, spec_rlay, sp_rlay, c_rlay, b_rlay]
    refine ⟨hok, hok, by omega, ?_⟩
    rw [hW, put_0 h]; rfl
  · have hd : decide (checkP t = 0) = false := decide_eq_false h
    simp (config := {dsimp := false}) only [↓vp0, vz, vn, nq, tys, cellD, wideIR, if_true, if_false, implies_true, forall_const, ne_eq, reduceIte, reduceCtorEq, Nat.reduceEqDiff, Nat.reduceAdd, Nat.reduceMul, Nat.reduceLT, Nat.reduceSub, Nat.reduceLeDiff, Nat.reduceBNe, Nat.reduceBEq, Nat.reduceBeqDiff, List.range, List.range.loop, gl0, Tryd.ntmps7, Tryd.results7, PF.toR, givesIf, eta, hd, put_e h, spec_rcheck, sp_tcheck, c_rcheck, b_rcheck]
    exact hok
theorem c_rfull : Contract E 17 := by
  refine contract_seeT hE hgl (show E.P.funcs[17]? = some Tryd.f17 from Tryd.func17) rfl (p := sp_tfull) (fun _ _ _ => rfl) ?_
  intro args hv
  unfold sp_tfull at hv ⊢
  split at hv
  case h_2 => exact hv.elim
  rename_i v is os l
  refine ⟨by simp, Nat.le_of_ble_eq_true rfl, ?_⟩
  simp only [givesIf] at hv
  have hok := hv
  obtain ⟨t, rfl, rfl, rfl, rfl, ht, -⟩ := okT_tx hok
  have eta : (⟨t.ver, t.ins, t.outs, t.lock⟩ : TxP) = t := rfl
  by_cases h : checkP t = 0
  · have hlen := lay_len ht h (witnessedP t)
    have hby := lay_bytes ht (witnessedP t)
    have hf : fullP t = sumP (sumP (layI t (witnessedP t))) := if_pos h
    simp (config := {dsimp := false}) only [↓vp0, vz, vn, nq, tys, cellD, wideIR, if_true, if_false, implies_true, forall_const, ne_eq, reduceIte, reduceCtorEq, Nat.reduceEqDiff, Nat.reduceAdd, Nat.reduceMul, Nat.reduceLT, Nat.reduceSub, Nat.reduceLeDiff, Nat.reduceBNe, Nat.reduceBEq, Nat.reduceBeqDiff, List.range, List.range.loop, gl0, Tryd.ntmps17, Tryd.results17, PF.toR, givesIf, eta, put_0 h, hf, eq_self, decide_true, List.nil_append, spec_rput, sp_rput, c_rput, b_rput, spec_refTwice, sp_refTwice, c_refTwice, b_refTwice]
    exact ⟨hok, by omega, by rw [twice_eq _ hby (by omega)]⟩
  · have hf : fullP t = List.replicate 32 0 := if_neg h
    simp (config := {dsimp := false}) only [↓vp0, vz, vn, nq, tys, cellD, wideIR, if_true, if_false, implies_true, forall_const, ne_eq, reduceIte, reduceCtorEq, Nat.reduceEqDiff, Nat.reduceAdd, Nat.reduceMul, Nat.reduceLT, Nat.reduceSub, Nat.reduceLeDiff, Nat.reduceBNe, Nat.reduceBEq, Nat.reduceBeqDiff, List.range, List.range.loop, gl0, Tryd.ntmps17, Tryd.results17, PF.toR, givesIf, eta, put_e h, hf, h, decide_false, spec_rput, sp_rput, c_rput, b_rput, spec_refTwice, sp_refTwice, c_refTwice, b_refTwice]
    exact hok
end Go.Vi.TP
end
