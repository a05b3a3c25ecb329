/- Lemmas for the law proved in the text whose name ends with Law. -/
import Derived.Test.YtckeppediepakaaS14
import Derived.Test.YtckeppediepakaaRows
import Derived.SevenTiedAt

section
set_option linter.unusedVariables false
set_option linter.unusedSimpArgs false
set_option maxHeartbeats 0
set_option maxRecDepth 20000
namespace Go.Vi.T5
open Go.Proofs

theorem c_eqS : Contract E 13 := by
  refine contract_seeT hE hgl (show E.P.funcs[13]? = some Try.f13 from Try.func13) rfl (p := sp_eqS) (fun _ _ _ => rfl) ?_
  intro args hv
  unfold sp_eqS at hv ⊢
  split at hv
  case h_2 => exact hv.elim
  rename_i a b
  refine ⟨by simp, Nat.le_of_ble_eq_true rfl, ?_⟩
  simp only [givesIf] at hv
  obtain ⟨ha, hb⟩ := hv
  have hla := ha.2
  have hlb := hb.2
  by_cases hl : a.length = b.length
  case neg =>
    have d0 : decide (((a.length : Nat) : Int) = ((b.length : Nat) : Int)) = false := decide_eq_false (by omega)
    have hs : eqS a b = false := sameL_len hl
    simp (config := {dsimp := false}) only [↓vp0, vz, vn, nq, tys, cellD, wideIR, if_true, if_false, implies_true, forall_const, ne_eq, reduceIte, reduceCtorEq, Nat.reduceEqDiff, Nat.reduceAdd, Nat.reduceMul, Nat.reduceLT, Nat.reduceSub, Nat.reduceLeDiff, Nat.reduceBNe, Nat.reduceBEq, Nat.reduceBeqDiff, List.range, List.range.loop, Try.ntmps13, Try.results13, d0, hs, givesIf]
    all_goals rfl
  have d0 : decide (((a.length : Nat) : Int) = ((b.length : Nat) : Int)) = true := decide_eq_true (by omega)
  simp (config := {dsimp := false}) only [↓vp0, vz, vn, nq, tys, cellD, wideIR, if_true, if_false, implies_true, forall_const, ne_eq, reduceIte, reduceCtorEq, Nat.reduceEqDiff, Nat.reduceAdd, Nat.reduceMul, Nat.reduceLT, Nat.reduceSub, Nat.reduceLeDiff, Nat.reduceBNe, Nat.reduceBEq, Nat.reduceBeqDiff, List.range, List.range.loop, Try.ntmps13, Try.results13, d0]
  refine loopI {k : Nat // k ≤ a.length ∧ ∀ j, j < k → eqI (a.getD j default) (b.getD j default) = true} (fun k => [(13, .int .i64 (k.1 : Nat)), (12, .int .i64 (a.length : Nat)), (0, .sli .no .u8 a), (1, .sli .no .u8 b)]) (fun _ => ⟨[], [], 36⟩) (fun k => a.length - k.1) ⟨0, by simp⟩ (fun _ => rfl) ?_ ?_
  · exact ⟨⟨wkD_eq rfl, rfl, wkD_eq rfl, rfl, wkD_eq rfl, rfl, wkD_eq rfl, rfl, trivial⟩, trivial, trivial⟩
  rintro ⟨k, hk, hbk⟩
  simp (config := {dsimp := false}) only [↓vp0, vz, vn, nq, tys, cellD, wideIR, if_true, if_false, implies_true, forall_const, ne_eq, reduceIte, reduceCtorEq, Nat.reduceEqDiff, Nat.reduceAdd, Nat.reduceMul, Nat.reduceLT, Nat.reduceSub, Nat.reduceLeDiff, Nat.reduceBNe, Nat.reduceBEq, Nat.reduceBeqDiff, List.range, List.range.loop, Try.ntmps13, Try.results13]
  refine ⟨fun hh => ?_, fun hh => ?_⟩
  · have hh := of_decide_eq_true hh
    have hk' : k < a.length := by omega
    refine drawI [0, 1, 5, 13, 12] (by kernel_rfl) ?_
    cases hp : eqI (a.getD k default) (b.getD k default)
    · have hq : decide (a.getD k 0 = b.getD k 0) = false := hp
      have hs : eqS a b = false := sameL_no hk' hp
      simp (config := {dsimp := false}) only [↓vp0, vz, vn, nq, tys, cellD, wideIR, if_true, if_false, implies_true, forall_const, ne_eq, reduceIte, reduceCtorEq, Nat.reduceEqDiff, Nat.reduceAdd, Nat.reduceMul, Nat.reduceLT, Nat.reduceSub, Nat.reduceLeDiff, Nat.reduceBNe, Nat.reduceBEq, Nat.reduceBeqDiff, List.range, List.range.loop, Try.ntmps13, Try.results13, Int.toNat_natCast, hq, hs, givesIf]
      exact ⟨by omega, by omega, by omega, by omega⟩
    · have hq : decide (a.getD k 0 = b.getD k 0) = true := hp
      simp (config := {dsimp := false}) only [↓vp0, vz, vn, nq, tys, cellD, wideIR, if_true, if_false, implies_true, forall_const, ne_eq, reduceIte, reduceCtorEq, Nat.reduceEqDiff, Nat.reduceAdd, Nat.reduceMul, Nat.reduceLT, Nat.reduceSub, Nat.reduceLeDiff, Nat.reduceBNe, Nat.reduceBEq, Nat.reduceBeqDiff, List.range, List.range.loop, Try.ntmps13, Try.results13, Int.toNat_natCast, hq]
      refine ⟨by omega, by omega, by omega, by omega, ⟨k + 1, by omega, fun j hj => ?_⟩, ⟨⟨wkD_eq ?_, rfl, wkD_eq rfl, rfl, wkD_eq rfl, rfl, wkD_eq rfl, rfl, trivial⟩, trivial, trivial⟩, by (try simp only); omega⟩
      · rcases Nat.lt_or_ge j k with h7 | h7
        · exact hbk j h7
        · obtain rfl : j = k := by omega
          exact hp
      · exact some_i64 (by (try simp only); omega)
  · have hh := of_decide_eq_false hh
    obtain rfl : k = a.length := by omega
    have hs : eqS a b = true := sameL_yes hl hbk
    simp (config := {dsimp := false}) only [↓vp0, vz, vn, nq, tys, cellD, wideIR, if_true, if_false, implies_true, forall_const, ne_eq, reduceIte, reduceCtorEq, Nat.reduceEqDiff, Nat.reduceAdd, Nat.reduceMul, Nat.reduceLT, Nat.reduceSub, Nat.reduceLeDiff, Nat.reduceBNe, Nat.reduceBEq, Nat.reduceBeqDiff, List.range, List.range.loop, Try.ntmps13, Try.results13, hs, givesIf]
    all_goals rfl
theorem c_eqB : Contract E 14 := by
  refine contract_seeT hE hgl (show E.P.funcs[14]? = some Try.f14 from Try.func14) rfl (p := (sp_eqB 13)) (fun _ _ _ => rfl) ?_
  intro args hv
  unfold sp_eqB at hv ⊢
  split at hv
  case h_2 => exact hv.elim
  rename_i a b h
  refine ⟨by simp, Nat.le_of_ble_eq_true rfl, ?_⟩
  simp only [givesIf] at hv
  obtain ⟨rfl, ⟨a, rfl, ha, hla⟩, ⟨b, rfl, hb, hlb⟩⟩ := hv
  by_cases hl : a.length = b.length
  case neg =>
    have d0 : decide (((a.length : Nat) : Int) = ((b.length : Nat) : Int)) = false := decide_eq_false (by omega)
    have hs : sameL eqS a b = false := sameL_len hl
    simp (config := {dsimp := false}) only [↓vp0, vz, vn, nq, tys, cellD, wideIR, if_true, if_false, implies_true, forall_const, ne_eq, reduceIte, reduceCtorEq, Nat.reduceEqDiff, Nat.reduceAdd, Nat.reduceMul, Nat.reduceLT, Nat.reduceSub, Nat.reduceLeDiff, Nat.reduceBNe, Nat.reduceBEq, Nat.reduceBeqDiff, List.range, List.range.loop, Try.ntmps14, Try.results14, ts_slis, d0, hs, givesIf]
    all_goals rfl
  have d0 : decide (((a.length : Nat) : Int) = ((b.length : Nat) : Int)) = true := decide_eq_true (by omega)
  simp (config := {dsimp := false}) only [↓vp0, vz, vn, nq, tys, cellD, wideIR, if_true, if_false, implies_true, forall_const, ne_eq, reduceIte, reduceCtorEq, Nat.reduceEqDiff, Nat.reduceAdd, Nat.reduceMul, Nat.reduceLT, Nat.reduceSub, Nat.reduceLeDiff, Nat.reduceBNe, Nat.reduceBEq, Nat.reduceBeqDiff, List.range, List.range.loop, Try.ntmps14, Try.results14, d0]
  refine loopI {k : Nat // k ≤ a.length ∧ ∀ j, j < k → eqS (a.getD j default) (b.getD j default) = true} (fun k => [(17, .int .i64 (k.1 : Nat)), (16, .int .i64 (a.length : Nat)), (15, .sl .no 1 (slis a)), (0, .sl .no 1 (slis a)), (1, .sl .no 1 (slis b)), (2, .fn 13 [])]) (fun _ => ⟨[], [], 36⟩) (fun k => a.length - k.1) ⟨0, by simp⟩ (fun _ => rfl) ?_ ?_
  · exact ⟨⟨wkD_eq rfl, rfl, wkD_eq rfl, rfl, wkD_eq rfl, rfl, wkD_eq rfl, rfl, wkD_eq rfl, rfl, wkD_eq rfl, rfl, trivial⟩, trivial, trivial⟩
  rintro ⟨k, hk, hbk⟩
  simp (config := {dsimp := false}) only [↓vp0, vz, vn, nq, tys, cellD, wideIR, if_true, if_false, implies_true, forall_const, ne_eq, reduceIte, reduceCtorEq, Nat.reduceEqDiff, Nat.reduceAdd, Nat.reduceMul, Nat.reduceLT, Nat.reduceSub, Nat.reduceLeDiff, Nat.reduceBNe, Nat.reduceBEq, Nat.reduceBeqDiff, List.range, List.range.loop, Try.ntmps14, Try.results14]
  refine ⟨fun hh => ?_, fun hh => ?_⟩
  · have hh := of_decide_eq_true hh
    have hk' : k < a.length := by omega
    have hk2 : k < b.length := by omega
    have g1 := (slis_get a k hk' : (slis a).getD k .any = .sli .no .u8 (a.getD k default))
    have g2 := (slis_get b k hk2 : (slis b).getD k .any = .sli .no .u8 (b.getD k default))
    have hx := ha _ (getD_memI hk')
    have hy := hb _ (getD_memI hk2)
    cases hp : eqS (a.getD k default) (b.getD k default)
    · have hq : eqS (a.getD k []) (b.getD k []) = false := hp
      have hs : sameL eqS a b = false := sameL_no hk' hp
      simp (config := {dsimp := false}) only [↓vp0, vz, vn, nq, tys, cellD, wideIR, if_true, if_false, implies_true, forall_const, ne_eq, reduceIte, reduceCtorEq, Nat.reduceEqDiff, Nat.reduceAdd, Nat.reduceMul, Nat.reduceLT, Nat.reduceSub, Nat.reduceLeDiff, Nat.reduceBNe, Nat.reduceBEq, Nat.reduceBeqDiff, List.range, List.range.loop, Try.ntmps14, Try.results14, PF.toR, givesIf, Int.toNat_natCast, g1, g2, hs, hp, hq, ts_slis, spec_eqS, sp_eqS, c_eqS, b_eqS]
      exact ⟨by omega, by omega, by omega, by omega, hx, hy⟩
    · have hq : eqS (a.getD k []) (b.getD k []) = true := hp
      simp (config := {dsimp := false}) only [↓vp0, vz, vn, nq, tys, cellD, wideIR, if_true, if_false, implies_true, forall_const, ne_eq, reduceIte, reduceCtorEq, Nat.reduceEqDiff, Nat.reduceAdd, Nat.reduceMul, Nat.reduceLT, Nat.reduceSub, Nat.reduceLeDiff, Nat.reduceBNe, Nat.reduceBEq, Nat.reduceBeqDiff, List.range, List.range.loop, Try.ntmps14, Try.results14, PF.toR, givesIf, Int.toNat_natCast, g1, g2, hp, hq, spec_eqS, sp_eqS, c_eqS, b_eqS]
      refine ⟨by omega, by omega, by omega, by omega, hx, hy, ⟨k + 1, by omega, fun j hj => ?_⟩, ⟨⟨wkD_eq ?_, rfl, wkD_eq rfl, rfl, wkD_eq rfl, rfl, wkD_eq rfl, rfl, wkD_eq rfl, rfl, wkD_eq rfl, rfl, trivial⟩, trivial, trivial⟩, by (try simp only); omega⟩
      · rcases Nat.lt_or_ge j k with h7 | h7
        · exact hbk j h7
        · obtain rfl : j = k := by omega
          exact hp
      · exact some_i64 (by (try simp only); omega)
  · have hh := of_decide_eq_false hh
    obtain rfl : k = a.length := by omega
    have hs : sameL eqS a b = true := sameL_yes hl hbk
    simp (config := {dsimp := false}) only [↓vp0, vz, vn, nq, tys, cellD, wideIR, if_true, if_false, implies_true, forall_const, ne_eq, reduceIte, reduceCtorEq, Nat.reduceEqDiff, Nat.reduceAdd, Nat.reduceMul, Nat.reduceLT, Nat.reduceSub, Nat.reduceLeDiff, Nat.reduceBNe, Nat.reduceBEq, Nat.reduceBeqDiff, List.range, List.range.loop, Try.ntmps14, Try.results14, ts_slis, hs, givesIf]
    all_goals rfl
theorem c_same2 : Contract E 16 := by
  refine contract_seeT hE hgl (show E.P.funcs[16]? = some Try.f16 from Try.func16) rfl (p := sp_same2) (fun _ _ _ => rfl) ?_
  intro args hv
  unfold sp_same2 at hv ⊢
  split at hv
  case h_2 => exact hv.elim
  rename_i v s v' s'
  refine ⟨by simp, Nat.le_of_ble_eq_true rfl, ?_⟩
  simp only [givesIf] at hv
  obtain ⟨hs, hs'⟩ := hv
  cases h1 : decide (v = v')
  · have hr : sameOut ⟨v, s⟩ ⟨v', s'⟩ = false := by unfold sameOut; rw [h1, Bool.false_and]
    simp (config := {dsimp := false}) only [↓vp0, vz, vn, nq, tys, cellD, wideIR, if_true, if_false, implies_true, forall_const, ne_eq, reduceIte, reduceCtorEq, Nat.reduceEqDiff, Nat.reduceAdd, Nat.reduceMul, Nat.reduceLT, Nat.reduceSub, Nat.reduceLeDiff, Nat.reduceBNe, Nat.reduceBEq, Nat.reduceBeqDiff, List.range, List.range.loop, Try.ntmps16, Try.results16, h1, hr, givesIf]
    all_goals rfl
  · have hr : sameOut ⟨v, s⟩ ⟨v', s'⟩ = eqS s s' := by unfold sameOut; rw [h1, Bool.true_and]
    simp (config := {dsimp := false}) only [↓vp0, vz, vn, nq, tys, cellD, wideIR, if_true, if_false, implies_true, forall_const, ne_eq, reduceIte, reduceCtorEq, Nat.reduceEqDiff, Nat.reduceAdd, Nat.reduceMul, Nat.reduceLT, Nat.reduceSub, Nat.reduceLeDiff, Nat.reduceBNe, Nat.reduceBEq, Nat.reduceBeqDiff, List.range, List.range.loop, Try.ntmps16, Try.results16, PF.toR, h1, hr, givesIf, spec_eqS, sp_eqS, c_eqS, b_eqS]
    exact ⟨hs, hs'⟩
theorem c_same1 : Contract E 12 := by
  refine contract_seeT hE hgl (show E.P.funcs[12]? = some Try.f12 from Try.func12) rfl (p := sp_same1) (fun _ _ _ => rfl) ?_
  intro args hv
  unfold sp_same1 at hv ⊢
  split at hv
  case h_2 => exact hv.elim
  rename_i p i s q w p' i' s' q' w'
  refine ⟨by simp, Nat.le_of_ble_eq_true rfl, ?_⟩
  simp only [givesIf] at hv
  obtain ⟨⟨hp, hp'⟩, ⟨hs, hs'⟩, ⟨w, rfl, hw, hwl⟩, ⟨w', rfl, hw', hwl'⟩⟩ := hv
  simp only [ts_slis]
  have hr : sameIn ⟨p, i, s, q, w⟩ ⟨p', i', s', q', w'⟩ = ((decide (p = p') && decide (i = i')) && (decide (q = q') && (eqS s s' && sameL eqS w w'))) := rfl
  cases h1 : decide (p = p') <;> cases h2 : decide (i = i') <;> cases h3 : decide (q = q') <;> cases h4 : eqS s s'
  all_goals rw [h1, h2, h3, h4] at hr
  all_goals simp only [Bool.false_and, Bool.true_and, Bool.and_false, Bool.and_true] at hr
  all_goals have he : eqFs E (eqB E 7) 0 [(0, 31), (32, 22)] [D.arr IntKind.u8 32 p, D.int IntKind.u32 i] [D.arr IntKind.u8 32 p', D.int IntKind.u32 i'] = some (decide (p = p') && decide (i = i')) := (by simp [eqFs, eqB, D.size, tsize, known, E, tyC])
  all_goals rw [h1, h2] at he
  all_goals simp (config := {dsimp := false}) only [↓vp0, vz, vn, nq, tys, cellD, wideIR, if_true, if_false, implies_true, forall_const, ne_eq, reduceIte, reduceCtorEq, Nat.reduceEqDiff, Nat.reduceAdd, Nat.reduceMul, Nat.reduceLT, Nat.reduceSub, Nat.reduceLeDiff, Nat.reduceBNe, Nat.reduceBEq, Nat.reduceBeqDiff, List.range, List.range.loop, Try.ntmps12, Try.results12, PF.toR, he, h1, h2, h3, h4, hr, givesIf, ts_slis, spec_eqS, sp_eqS, c_eqS, b_eqS, spec_eqB, sp_eqB, c_eqB, b_eqB]
  · exact ⟨hs, hs'⟩
  · exact ⟨hs, hs', ⟨_, rfl, hw, hwl⟩, ⟨_, rfl, hw', hwl'⟩⟩
theorem c_eqI : Contract E 11 := by
  refine contract_seeT hE hgl (show E.P.funcs[11]? = some Try.f11 from Try.func11) rfl (p := (sp_eqI 12)) (fun _ _ _ => rfl) ?_
  intro args hv
  unfold sp_eqI at hv ⊢
  split at hv
  case h_2 => exact hv.elim
  rename_i a b h
  refine ⟨by simp, Nat.le_of_ble_eq_true rfl, ?_⟩
  simp only [givesIf] at hv
  obtain ⟨rfl, ⟨a, rfl, ha, hla⟩, ⟨b, rfl, hb, hlb⟩⟩ := hv
  by_cases hl : a.length = b.length
  case neg =>
    have d0 : decide (((a.length : Nat) : Int) = ((b.length : Nat) : Int)) = false := decide_eq_false (by omega)
    have hs : sameL sameIn a b = false := sameL_len hl
    simp (config := {dsimp := false}) only [↓vp0, vz, vn, nq, tys, cellD, wideIR, if_true, if_false, implies_true, forall_const, ne_eq, reduceIte, reduceCtorEq, Nat.reduceEqDiff, Nat.reduceAdd, Nat.reduceMul, Nat.reduceLT, Nat.reduceSub, Nat.reduceLeDiff, Nat.reduceBNe, Nat.reduceBEq, Nat.reduceBeqDiff, List.range, List.range.loop, Try.ntmps11, Try.results11, ins_D, d0, hs, givesIf]
    all_goals rfl
  have d0 : decide (((a.length : Nat) : Int) = ((b.length : Nat) : Int)) = true := decide_eq_true (by omega)
  simp (config := {dsimp := false}) only [↓vp0, vz, vn, nq, tys, cellD, wideIR, if_true, if_false, implies_true, forall_const, ne_eq, reduceIte, reduceCtorEq, Nat.reduceEqDiff, Nat.reduceAdd, Nat.reduceMul, Nat.reduceLT, Nat.reduceSub, Nat.reduceLeDiff, Nat.reduceBNe, Nat.reduceBEq, Nat.reduceBeqDiff, List.range, List.range.loop, Try.ntmps11, Try.results11, d0]
  refine loopI {k : Nat // k ≤ a.length ∧ ∀ j, j < k → sameIn (a.getD j default) (b.getD j default) = true} (fun k => [(17, .int .i64 (k.1 : Nat)), (16, .int .i64 (a.length : Nat)), (15, .sl .no 36 (insD a)), (0, .sl .no 36 (insD a)), (1, .sl .no 36 (insD b)), (2, .fn 12 [])]) (fun _ => ⟨[], [], 36⟩) (fun k => a.length - k.1) ⟨0, by simp⟩ (fun _ => rfl) ?_ ?_
  · exact ⟨⟨wkD_eq rfl, rfl, wkD_eq rfl, rfl, wkD_eq rfl, rfl, wkD_eq rfl, rfl, wkD_eq rfl, rfl, wkD_eq rfl, rfl, trivial⟩, trivial, trivial⟩
  rintro ⟨k, hk, hbk⟩
  simp (config := {dsimp := false}) only [↓vp0, vz, vn, nq, tys, cellD, wideIR, if_true, if_false, implies_true, forall_const, ne_eq, reduceIte, reduceCtorEq, Nat.reduceEqDiff, Nat.reduceAdd, Nat.reduceMul, Nat.reduceLT, Nat.reduceSub, Nat.reduceLeDiff, Nat.reduceBNe, Nat.reduceBEq, Nat.reduceBeqDiff, List.range, List.range.loop, Try.ntmps11, Try.results11]
  refine ⟨fun hh => ?_, fun hh => ?_⟩
  · have hh := of_decide_eq_true hh
    have hk' : k < a.length := by omega
    have hk2 : k < b.length := by omega
    have g1 := insD_get a k hk'
    have g2 := insD_get b k hk2
    have hx := ha _ (getD_memI hk')
    have hy := hb _ (getD_memI hk2)
    cases hp : sameIn (a.getD k default) (b.getD k default)
    · have hq := hp
      have hs : sameL sameIn a b = false := sameL_no hk' hp
      simp (config := {dsimp := false}) only [↓vp0, vz, vn, nq, tys, cellD, wideIR, if_true, if_false, implies_true, forall_const, ne_eq, reduceIte, reduceCtorEq, Nat.reduceEqDiff, Nat.reduceAdd, Nat.reduceMul, Nat.reduceLT, Nat.reduceSub, Nat.reduceLeDiff, Nat.reduceBNe, Nat.reduceBEq, Nat.reduceBeqDiff, List.range, List.range.loop, Try.ntmps11, Try.results11, PF.toR, givesIf, Int.toNat_natCast, g1, g2, inD, hs, hp, ins_D, spec_same1, sp_same1, c_same1, b_same1]
      exact ⟨by omega, by omega, by omega, by omega, hx.prev, hy.prev, hx.script, hy.script, ⟨_, rfl, hx.wit, hx.many⟩, ⟨_, rfl, hy.wit, hy.many⟩⟩
    · simp (config := {dsimp := false}) only [↓vp0, vz, vn, nq, tys, cellD, wideIR, if_true, if_false, implies_true, forall_const, ne_eq, reduceIte, reduceCtorEq, Nat.reduceEqDiff, Nat.reduceAdd, Nat.reduceMul, Nat.reduceLT, Nat.reduceSub, Nat.reduceLeDiff, Nat.reduceBNe, Nat.reduceBEq, Nat.reduceBeqDiff, List.range, List.range.loop, Try.ntmps11, Try.results11, PF.toR, givesIf, Int.toNat_natCast, g1, g2, inD, hp, spec_same1, sp_same1, c_same1, b_same1]
      refine ⟨by omega, by omega, by omega, by omega, hx.prev, hy.prev, hx.script, hy.script, ⟨_, rfl, hx.wit, hx.many⟩, ⟨_, rfl, hy.wit, hy.many⟩, ⟨k + 1, by omega, fun j hj => ?_⟩, ⟨⟨wkD_eq ?_, rfl, wkD_eq rfl, rfl, wkD_eq rfl, rfl, wkD_eq rfl, rfl, wkD_eq rfl, rfl, wkD_eq rfl, rfl, trivial⟩, trivial, trivial⟩, by (try simp only); omega⟩
      · rcases Nat.lt_or_ge j k with h7 | h7
        · exact hbk j h7
        · obtain rfl : j = k := by omega
          exact hp
      · exact some_i64 (by (try simp only); omega)
  · have hh := of_decide_eq_false hh
    obtain rfl : k = a.length := by omega
    have hs : sameL sameIn a b = true := sameL_yes hl hbk
    simp (config := {dsimp := false}) only [↓vp0, vz, vn, nq, tys, cellD, wideIR, if_true, if_false, implies_true, forall_const, ne_eq, reduceIte, reduceCtorEq, Nat.reduceEqDiff, Nat.reduceAdd, Nat.reduceMul, Nat.reduceLT, Nat.reduceSub, Nat.reduceLeDiff, Nat.reduceBNe, Nat.reduceBEq, Nat.reduceBeqDiff, List.range, List.range.loop, Try.ntmps11, Try.results11, ins_D, hs, givesIf]
    all_goals rfl
theorem c_eqO : Contract E 15 := by
  refine contract_seeT hE hgl (show E.P.funcs[15]? = some Try.f15 from Try.func15) rfl (p := (sp_eqO 16)) (fun _ _ _ => rfl) ?_
  intro args hv
  unfold sp_eqO at hv ⊢
  split at hv
  case h_2 => exact hv.elim
  rename_i a b h
  refine ⟨by simp, Nat.le_of_ble_eq_true rfl, ?_⟩
  simp only [givesIf] at hv
  obtain ⟨rfl, ⟨a, rfl, ha, hla⟩, ⟨b, rfl, hb, hlb⟩⟩ := hv
  by_cases hl : a.length = b.length
  case neg =>
    have d0 : decide (((a.length : Nat) : Int) = ((b.length : Nat) : Int)) = false := decide_eq_false (by omega)
    have hs : sameL sameOut a b = false := sameL_len hl
    simp (config := {dsimp := false}) only [↓vp0, vz, vn, nq, tys, cellD, wideIR, if_true, if_false, implies_true, forall_const, ne_eq, reduceIte, reduceCtorEq, Nat.reduceEqDiff, Nat.reduceAdd, Nat.reduceMul, Nat.reduceLT, Nat.reduceSub, Nat.reduceLeDiff, Nat.reduceBNe, Nat.reduceBEq, Nat.reduceBeqDiff, List.range, List.range.loop, Try.ntmps15, Try.results15, outs_D, d0, hs, givesIf]
    all_goals rfl
  have d0 : decide (((a.length : Nat) : Int) = ((b.length : Nat) : Int)) = true := decide_eq_true (by omega)
  simp (config := {dsimp := false}) only [↓vp0, vz, vn, nq, tys, cellD, wideIR, if_true, if_false, implies_true, forall_const, ne_eq, reduceIte, reduceCtorEq, Nat.reduceEqDiff, Nat.reduceAdd, Nat.reduceMul, Nat.reduceLT, Nat.reduceSub, Nat.reduceLeDiff, Nat.reduceBNe, Nat.reduceBEq, Nat.reduceBeqDiff, List.range, List.range.loop, Try.ntmps15, Try.results15, d0]
  refine loopI {k : Nat // k ≤ a.length ∧ ∀ j, j < k → sameOut (a.getD j default) (b.getD j default) = true} (fun k => [(17, .int .i64 (k.1 : Nat)), (16, .int .i64 (a.length : Nat)), (15, .sl .no 2 (outsD a)), (0, .sl .no 2 (outsD a)), (1, .sl .no 2 (outsD b)), (2, .fn 16 [])]) (fun _ => ⟨[], [], 36⟩) (fun k => a.length - k.1) ⟨0, by simp⟩ (fun _ => rfl) ?_ ?_
  · exact ⟨⟨wkD_eq rfl, rfl, wkD_eq rfl, rfl, wkD_eq rfl, rfl, wkD_eq rfl, rfl, wkD_eq rfl, rfl, wkD_eq rfl, rfl, trivial⟩, trivial, trivial⟩
  rintro ⟨k, hk, hbk⟩
  simp (config := {dsimp := false}) only [↓vp0, vz, vn, nq, tys, cellD, wideIR, if_true, if_false, implies_true, forall_const, ne_eq, reduceIte, reduceCtorEq, Nat.reduceEqDiff, Nat.reduceAdd, Nat.reduceMul, Nat.reduceLT, Nat.reduceSub, Nat.reduceLeDiff, Nat.reduceBNe, Nat.reduceBEq, Nat.reduceBeqDiff, List.range, List.range.loop, Try.ntmps15, Try.results15]
  refine ⟨fun hh => ?_, fun hh => ?_⟩
  · have hh := of_decide_eq_true hh
    have hk' : k < a.length := by omega
    have hk2 : k < b.length := by omega
    have g1 := outsD_get a k hk'
    have g2 := outsD_get b k hk2
    have hx := ha _ (getD_memI hk')
    have hy := hb _ (getD_memI hk2)
    cases hp : sameOut (a.getD k default) (b.getD k default)
    · have hq := hp
      have hs : sameL sameOut a b = false := sameL_no hk' hp
      simp (config := {dsimp := false}) only [↓vp0, vz, vn, nq, tys, cellD, wideIR, if_true, if_false, implies_true, forall_const, ne_eq, reduceIte, reduceCtorEq, Nat.reduceEqDiff, Nat.reduceAdd, Nat.reduceMul, Nat.reduceLT, Nat.reduceSub, Nat.reduceLeDiff, Nat.reduceBNe, Nat.reduceBEq, Nat.reduceBeqDiff, List.range, List.range.loop, Try.ntmps15, Try.results15, PF.toR, givesIf, Int.toNat_natCast, g1, g2, outD, hs, hp, outs_D, spec_same2, sp_same2, c_same2, b_same2]
      exact ⟨by omega, by omega, by omega, by omega, hx.script, hy.script⟩
    · simp (config := {dsimp := false}) only [↓vp0, vz, vn, nq, tys, cellD, wideIR, if_true, if_false, implies_true, forall_const, ne_eq, reduceIte, reduceCtorEq, Nat.reduceEqDiff, Nat.reduceAdd, Nat.reduceMul, Nat.reduceLT, Nat.reduceSub, Nat.reduceLeDiff, Nat.reduceBNe, Nat.reduceBEq, Nat.reduceBeqDiff, List.range, List.range.loop, Try.ntmps15, Try.results15, PF.toR, givesIf, Int.toNat_natCast, g1, g2, outD, hp, spec_same2, sp_same2, c_same2, b_same2]
      refine ⟨by omega, by omega, by omega, by omega, hx.script, hy.script, ⟨k + 1, by omega, fun j hj => ?_⟩, ⟨⟨wkD_eq ?_, rfl, wkD_eq rfl, rfl, wkD_eq rfl, rfl, wkD_eq rfl, rfl, wkD_eq rfl, rfl, wkD_eq rfl, rfl, trivial⟩, trivial, trivial⟩, by (try simp only); omega⟩
      · rcases Nat.lt_or_ge j k with h7 | h7
        · exact hbk j h7
        · obtain rfl : j = k := by omega
          exact hp
      · exact some_i64 (by (try simp only); omega)
  · have hh := of_decide_eq_false hh
    obtain rfl : k = a.length := by omega
    have hs : sameL sameOut a b = true := sameL_yes hl hbk
    simp (config := {dsimp := false}) only [↓vp0, vz, vn, nq, tys, cellD, wideIR, if_true, if_false, implies_true, forall_const, ne_eq, reduceIte, reduceCtorEq, Nat.reduceEqDiff, Nat.reduceAdd, Nat.reduceMul, Nat.reduceLT, Nat.reduceSub, Nat.reduceLeDiff, Nat.reduceBNe, Nat.reduceBEq, Nat.reduceBeqDiff, List.range, List.range.loop, Try.ntmps15, Try.results15, outs_D, hs, givesIf]
    all_goals rfl
end Go.Vi.T5
end

section
set_option linter.unusedVariables false
set_option linter.unusedSimpArgs false
set_option maxHeartbeats 0
set_option maxRecDepth 20000
namespace Go.Vi.T5
open Go.Proofs

theorem c_rsame : Contract E 17 := by
  refine contract_seeT hE hgl (show E.P.funcs[17]? = some Try.f17 from Try.func17) rfl (p := sp_eqS) (fun _ _ _ => rfl) ?_
  intro args hv
  unfold sp_eqS at hv ⊢
  split at hv
  case h_2 => exact hv.elim
  rename_i a b
  refine ⟨by simp, Nat.le_of_ble_eq_true rfl, ?_⟩
  simp only [givesIf] at hv
  obtain ⟨ha, hb⟩ := hv
  have hd : decide (strOfNums a = strOfNums b) = decide (a = b) := decide_eq_decide.2 (strN_inj ha.1 hb.1)
  simp (config := {dsimp := false}) only [↓vp0, vz, vn, nq, tys, cellD, wideIR, if_true, if_false, implies_true, forall_const, ne_eq, reduceIte, reduceCtorEq, Nat.reduceEqDiff, Nat.reduceAdd, Nat.reduceMul, Nat.reduceLT, Nat.reduceSub, Nat.reduceLeDiff, Nat.reduceBNe, Nat.reduceBEq, Nat.reduceBeqDiff, List.range, List.range.loop, Try.ntmps17, Try.results17, eqS_dec, hd, givesIf]
  all_goals rfl
theorem c_given : Contract E 9 := by
  refine contract_seeT hE hgl (show E.P.funcs[9]? = some Try.f9 from Try.func9) rfl (p := sp_given) (fun _ _ _ => rfl) ?_
  intro args hv
  unfold sp_given at hv ⊢
  split at hv
  case h_2 => exact hv.elim
  refine ⟨by simp, Nat.le_of_ble_eq_true rfl, ?_⟩
  simp (config := {dsimp := false}) only [↓vp0, vz, vn, nq, tys, cellD, wideIR, if_true, if_false, implies_true, forall_const, ne_eq, reduceIte, reduceCtorEq, Nat.reduceEqDiff, Nat.reduceAdd, Nat.reduceMul, Nat.reduceLT, Nat.reduceSub, Nat.reduceLeDiff, Nat.reduceBNe, Nat.reduceBEq, Nat.reduceBeqDiff, List.range, List.range.loop, Try.ntmps9, Try.results9]
  simp only [gives, givenD, D.bare, bares, Own.bare, D.strip, D.strips, stripO, if_true]
theorem c_sameTx : Contract E 6 := by
  refine contract_seeT hE hgl (show E.P.funcs[6]? = some Try.f6 from Try.func6) rfl (p := sp_sameTx) (fun _ _ _ => rfl) ?_
  intro args hv
  unfold sp_sameTx at hv ⊢
  split at hv
  case h_2 => exact hv.elim
  rename_i v is os l v' is' os' l'
  refine ⟨by simp, Nat.le_of_ble_eq_true rfl, ?_⟩
  simp only [givesIf] at hv
  obtain ⟨hv1, hv2⟩ := hv
  obtain ⟨t, rfl, rfl, rfl, rfl, ht, e1⟩ := okT_tx hv1
  obtain ⟨u, rfl, rfl, rfl, rfl, hu, e2⟩ := okT_tx hv2
  rw [e1, e2]
  have hr : sameTx t u = ((decide (t.ver = u.ver) && decide (t.lock = u.lock)) && (sameL sameIn t.ins u.ins && sameL sameOut t.outs u.outs)) := rfl
  cases h1 : decide (t.ver = u.ver) <;> cases h2 : decide (t.lock = u.lock) <;> cases h3 : sameL sameIn t.ins u.ins
  all_goals rw [h1, h2, h3] at hr
  all_goals simp only [Bool.false_and, Bool.true_and, Bool.and_false, Bool.and_true] at hr
  all_goals simp (config := {dsimp := false}) only [↓vp0, vz, vn, nq, tys, cellD, wideIR, if_true, if_false, implies_true, forall_const, ne_eq, reduceIte, reduceCtorEq, Nat.reduceEqDiff, Nat.reduceAdd, Nat.reduceMul, Nat.reduceLT, Nat.reduceSub, Nat.reduceLeDiff, Nat.reduceBNe, Nat.reduceBEq, Nat.reduceBeqDiff, List.range, List.range.loop, Try.ntmps6, Try.results6, PF.toR, h1, h2, h3, hr, givesIf, ins_D, outs_D, spec_eqI, sp_eqI, c_eqI, b_eqI, spec_eqO, sp_eqO, c_eqO, b_eqO]
  · exact ⟨⟨_, rfl, ht.ins, ht.mi⟩, ⟨_, rfl, hu.ins, hu.mi⟩⟩
  · exact ⟨⟨_, rfl, ht.ins, ht.mi⟩, ⟨_, rfl, hu.ins, hu.mi⟩, ⟨_, rfl, ht.outs, ht.mo⟩, ⟨_, rfl, hu.outs, hu.mo⟩⟩
end Go.Vi.T5
end

section
set_option linter.unusedVariables false
set_option linter.unusedSimpArgs false
set_option maxHeartbeats 0
set_option maxRecDepth 20000
namespace Go.Vi.T5
open Go.Proofs

theorem c_clone : Contract E 40 := by
  refine contract_boxE hE hgl (show E.P.funcs[40]? = some Try.f40 from Try.func40) rfl (p := sp_cloneW) (p0 := sp_clone) (fun _ _ _ => rfl) (fun a c => rfl) ?_ ?_
  · intro args ds tv h
    unfold sp_clone
    split
    · rename_i rs o b
      match b, h with
      | [], h => exact absurd rfl (h o)
      | x :: b, _ => rfl
    · rfl
    · rename_i h2 h3
      unfold sp_cloneW
      split
      · exact (h2 _ _ rfl rfl).elim
      · exact (h3 _ _ rfl rfl rfl).elim
      · rfl
  intro args ds tv hv hdl htl
  unfold sp_cloneW at hv ⊢
  split at hv
  case h_3 => exact hv.elim
  · rename_i rs o x b
    refine ⟨by simp, Nat.le_of_ble_eq_true rfl, ?_⟩
    obtain ⟨hr, hl⟩ := hv
    simp only [List.length_cons] at hl
    rcases hr with ⟨rfl, rfl⟩ | ⟨rfl, rfl, _⟩
    · simp (config := {dsimp := false}) only [↓vp0, vz, vn, nq, tys, cellD, wideIR, if_true, if_false, implies_true, forall_const, ne_eq, reduceIte, reduceCtorEq, Nat.reduceEqDiff, Nat.reduceAdd, Nat.reduceMul, Nat.reduceLT, Nat.reduceSub, Nat.reduceLeDiff, Nat.reduceBNe, Nat.reduceBEq, Nat.reduceBeqDiff, List.range, List.range.loop, Try.ntmps40, Try.results40, retA, vb]
      refine ⟨by omega, [], ?_⟩
      simp (config := {dsimp := false}) only [↓vp0, vz, vn, nq, tys, cellD, wideIR, if_true, if_false, implies_true, forall_const, ne_eq, reduceIte, reduceCtorEq, Nat.reduceEqDiff, Nat.reduceAdd, Nat.reduceMul, Nat.reduceLT, Nat.reduceSub, Nat.reduceLeDiff, Nat.reduceBNe, Nat.reduceBEq, Nat.reduceBeqDiff, List.range, List.range.loop, Try.ntmps40, Try.results40, retA, adopt, retB, vb]
      refine ⟨[], [28], [], ⟨rfl, rfl⟩, ⟨rfl, rfl⟩, ⟨by simp, by simp⟩, by simp, rfl, by simp [getAll, S.tok, look], ⟨_, rfl, rfl⟩, ⟨_, rfl, rfl⟩, id rfl⟩
    · simp (config := {dsimp := false}) only [↓vp0, vz, vn, nq, tys, cellD, wideIR, if_true, if_false, implies_true, forall_const, ne_eq, reduceIte, reduceCtorEq, Nat.reduceEqDiff, Nat.reduceAdd, Nat.reduceMul, Nat.reduceLT, Nat.reduceSub, Nat.reduceLeDiff, Nat.reduceBNe, Nat.reduceBEq, Nat.reduceBeqDiff, List.range, List.range.loop, Try.ntmps40, Try.results40, retA, vb]
      refine ⟨by omega, [], ?_⟩
      simp (config := {dsimp := false}) only [↓vp0, vz, vn, nq, tys, cellD, wideIR, if_true, if_false, implies_true, forall_const, ne_eq, reduceIte, reduceCtorEq, Nat.reduceEqDiff, Nat.reduceAdd, Nat.reduceMul, Nat.reduceLT, Nat.reduceSub, Nat.reduceLeDiff, Nat.reduceBNe, Nat.reduceBEq, Nat.reduceBeqDiff, List.range, List.range.loop, Try.ntmps40, Try.results40, retA, adopt, retB, vb]
      refine ⟨[], [28], [], ⟨rfl, rfl⟩, ⟨rfl, rfl⟩, ⟨by simp, by simp⟩, by simp, rfl, by simp [getAll, S.tok, look], ⟨_, rfl, rfl⟩, ⟨_, rfl, rfl⟩, id rfl⟩
  · rename_i a c
    refine ⟨by simp, Nat.le_of_ble_eq_true rfl, ?_⟩
    simp (config := {dsimp := false}) only [↓vp0, vz, vn, nq, tys, cellD, wideIR, if_true, if_false, implies_true, forall_const, ne_eq, reduceIte, reduceCtorEq, Nat.reduceEqDiff, Nat.reduceAdd, Nat.reduceMul, Nat.reduceLT, Nat.reduceSub, Nat.reduceLeDiff, Nat.reduceBNe, Nat.reduceBEq, Nat.reduceBeqDiff, List.range, List.range.loop, Try.ntmps40, Try.results40, retA, vb]
    refine ⟨fun h => ⟨[(2, some .u8, 1)], ?_⟩, fun h => ⟨[], ?_⟩⟩
    · simp (config := {dsimp := false}) only [↓vp0, vz, vn, nq, tys, cellD, wideIR, if_true, if_false, implies_true, forall_const, ne_eq, reduceIte, reduceCtorEq, Nat.reduceEqDiff, Nat.reduceAdd, Nat.reduceMul, Nat.reduceLT, Nat.reduceSub, Nat.reduceLeDiff, Nat.reduceBNe, Nat.reduceBEq, Nat.reduceBeqDiff, List.range, List.range.loop, Try.ntmps40, Try.results40, retA, adopt, retB, vb]
      refine ⟨[], [24], [], ⟨rfl, rfl⟩, ⟨rfl, rfl⟩, ⟨by simp, by simp⟩, by simp, rfl, by simp [getAll, S.tok, look], ⟨_, rfl, rfl⟩, ⟨_, rfl, rfl⟩, id rfl⟩
    · simp (config := {dsimp := false}) only [↓vp0, vz, vn, nq, tys, cellD, wideIR, if_true, if_false, implies_true, forall_const, ne_eq, reduceIte, reduceCtorEq, Nat.reduceEqDiff, Nat.reduceAdd, Nat.reduceMul, Nat.reduceLT, Nat.reduceSub, Nat.reduceLeDiff, Nat.reduceBNe, Nat.reduceBEq, Nat.reduceBeqDiff, List.range, List.range.loop, Try.ntmps40, Try.results40, retA, adopt, retB, vb]
      refine ⟨[], [28], [], ⟨rfl, rfl⟩, ⟨rfl, rfl⟩, ⟨by simp, by simp⟩, by simp, rfl, by simp [getAll, S.tok, look], ⟨_, rfl, rfl⟩, ⟨_, rfl, rfl⟩, id rfl⟩
theorem c_bwidth : Contract E 39 := by
  refine contract_seeT hE hgl (show E.P.funcs[39]? = some Try.f39 from Try.func39) rfl (p := sp_bwidth) (fun _ _ _ => rfl) ?_
  intro args hv
  unfold sp_bwidth at hv ⊢
  split at hv
  case h_2 => exact hv.elim
  rename_i w
  refine ⟨by simp, Nat.le_of_ble_eq_true rfl, ?_⟩
  simp (config := {dsimp := false}) only [↓vp0, vz, vn, nq, tys, cellD, wideIR, if_true, if_false, implies_true, forall_const, ne_eq, reduceIte, reduceCtorEq, Nat.reduceEqDiff, Nat.reduceAdd, Nat.reduceMul, Nat.reduceLT, Nat.reduceSub, Nat.reduceLeDiff, Nat.reduceBNe, Nat.reduceBEq, Nat.reduceBeqDiff, List.range, List.range.loop, Try.ntmps39, Try.results39]
  simp only [gives]
  refine ⟨fun h1 => ⟨fun h2 => ⟨fun h3 => ?_, fun h3 => ?_⟩, fun h2 => ?_⟩, fun h1 => ?_⟩ <;> simp [*]
theorem c_csize : Contract E 41 := by
  refine contract_seeT hE hgl (show E.P.funcs[41]? = some Try.f41 from Try.func41) rfl (p := sp_csize) (fun _ _ _ => rfl) ?_
  intro args hv
  unfold sp_csize at hv ⊢
  split at hv
  case h_2 => exact hv.elim
  rename_i n
  refine ⟨by simp, Nat.le_of_ble_eq_true rfl, ?_⟩
  simp only [givesIf] at hv
  obtain ⟨h0, h1⟩ := hv
  simp (config := {dsimp := false}) only [↓vp0, vz, vn, nq, tys, cellD, wideIR, if_true, if_false, implies_true, forall_const, ne_eq, reduceIte, reduceCtorEq, Nat.reduceEqDiff, Nat.reduceAdd, Nat.reduceMul, Nat.reduceLT, Nat.reduceSub, Nat.reduceLeDiff, Nat.reduceBNe, Nat.reduceBEq, Nat.reduceBeqDiff, List.range, List.range.loop, Try.ntmps41, Try.results41]
  simp only [givesIf, countI, decide_eq_true_eq, decide_eq_false_iff_not]
  refine ⟨fun h => ?_, fun h => ⟨fun h2 => ?_, fun h2 => ⟨fun h3 => ?_, fun h3 => ?_⟩⟩⟩
  · rw [if_neg (by omega), if_neg (by omega), if_neg (by omega)]; rfl
  · rw [if_neg (by omega), if_neg (by omega), if_pos (by omega)]; rfl
  · rw [if_neg (by omega), if_pos (by omega)]; rfl
  · rw [if_pos (by omega)]; rfl
end Go.Vi.T5
end

section
set_option linter.unusedVariables false
set_option linter.unusedSimpArgs false
set_option maxHeartbeats 0
set_option maxRecDepth 20000
namespace Go.Vi.T5
open Go.Proofs

theorem byte_at {n : Int} {i : Nat} (h : u64ok n) (hi : i < 8) : IntKind.wrap .u8 (shrI .u64 n (IntKind.wrap .i64 (8 * (i : Int)))) = n / 256 ^ i % 256 := by
  have e1 : IntKind.wrap .i64 (8 * (i : Int)) = ((8 * i : Nat) : Int) := by rw [IntWalk.i64_in _ (by omega)]; omega
  have e2 : shrI .u64 n ((8 * i : Nat) : Int) = n / 256 ^ i := by
    unfold shrI
    rw [Int.toNat_natCast, Nat.min_eq_left (by show 8 * i ≤ 64; omega), Int.fdiv_eq_ediv_of_nonneg _ (Int.le_of_lt (Int.pow_pos (by decide)))]
    congr 1
    rw [Int.pow_mul]
    rfl
  rw [e1, e2]
  rfl
theorem shr_zero {n : Int} {w : Nat} (hw : w ≤ 8) (h : 0 ≤ n ∧ n < 256 ^ w) : shrI .u64 n (IntKind.wrap .i64 (8 * (w : Int))) = 0 := by
  have e1 : IntKind.wrap .i64 (8 * (w : Int)) = ((8 * w : Nat) : Int) := by rw [IntWalk.i64_in _ (by omega)]; omega
  rw [e1]
  unfold shrI
  rw [Int.toNat_natCast, Nat.min_eq_left (by show 8 * w ≤ 64; omega), Int.fdiv_eq_ediv_of_nonneg _ (Int.le_of_lt (Int.pow_pos (by decide)))]
  have : (2 : Int) ^ (8 * w) = 256 ^ w := by rw [Int.pow_mul]; rfl
  rw [this]
  exact Int.ediv_eq_zero_of_lt h.1 h.2
theorem le_succ (n : Int) (w : Nat) : leI (w + 1) n = leI w n ++ [n / 256 ^ w % 256] := by
  simp [leI, List.range_succ]
theorem le_zero (n : Int) : leI 0 n = [] := rfl
theorem c_bput : Contract E 35 := by
  refine contract_boxT hE hgl (show E.P.funcs[35]? = some Try.f35 from Try.func35) rfl (p := sp_bput) (fun _ _ _ => rfl) ?_
  intro args ds tv hv hdl htl
  unfold sp_bput at hv ⊢
  split at hv
  case h_2 => exact hv.elim
  rename_i rs o b w n
  refine ⟨by simp, Nat.le_of_ble_eq_true rfl, ?_⟩
  obtain ⟨hr, hw, hn, hb⟩ := hv
  obtain ⟨w, rfl, hw8⟩ : ∃ k : Nat, w = (k : Int) ∧ (k = 4 ∨ k = 8) := ⟨w.toNat, by omega, by omega⟩
  simp only [Int.toNat_natCast] at hn ⊢
  have hu : u64ok n := ⟨hn.1, by rcases hw8 with rfl | rfl <;> omega⟩
  have hz := shr_zero (n := n) (w := w) (by omega) hn
  have d8 : (decide ((w : Int) = 4) || decide ((w : Int) = 8)) = true := by rcases hw8 with rfl | rfl <;> rfl
  have d1 : (decide ((w : Int) = 1) || (decide ((w : Int) = 2) || (decide ((w : Int) = 4) || decide ((w : Int) = 8)))) = true := by rw [d8]; simp
  have hsh : (0 ≤ IntKind.wrap .i64 (8 * (w : Int))) = True := by rw [IntWalk.i64_in _ (by omega)]; simp; omega
  rcases hr with ⟨rfl, rfl⟩ | ⟨rfl, rfl, hne⟩
  · have hf := fe_no b
    cases hc : decide ((w : Int) < 8)
    all_goals simp (config := {dsimp := false}) only [↓vp0, vz, vn, nq, tys, cellD, wideIR, if_true, if_false, implies_true, forall_const, ne_eq, reduceIte, reduceCtorEq, Nat.reduceEqDiff, Nat.reduceAdd, Nat.reduceMul, Nat.reduceLT, Nat.reduceSub, Nat.reduceLeDiff, Nat.reduceBNe, Nat.reduceBEq, Nat.reduceBeqDiff, List.range, List.range.loop, Try.ntmps35, Try.results35, retB, vb, PF.toR, gives, d1, hc, hz, hf, hsh, decide_true, spec_bwidth, sp_bwidth, c_bwidth, b_bwidth, spec_clone, sp_clone, c_clone, b_clone]
    all_goals refine ⟨.inl ⟨rfl, rfl⟩, by omega, ?_⟩
    all_goals refine loopI (Fin (w + 1)) (fun k => [(27, .int .i64 (k.1 : Nat)), (26, .int .i64 (w : Nat)), (8, .sli (.tok 76) .u8 (b ++ leI k.1 n)), (2, .int .u64 n)]) (fun k => ⟨[], [(76, (b.length + k.1, 1))], 92⟩) (fun k => w - k.1) 0 (fun _ => rfl) ?_ ?_
    any_goals (refine ⟨⟨wkD_eq rfl, rfl, wkD_eq rfl, rfl, wkD_eq ?_, rfl, wkD_eq rfl, rfl, trivial⟩, trivial, ⟨rfl, Nat.le_of_ble_eq_true rfl, trivial⟩⟩; exact some_sli (List.append_nil _).symm)
    all_goals rintro ⟨k, hk⟩
    all_goals simp (config := {dsimp := false}) only [↓vp0, vz, vn, nq, tys, cellD, wideIR, if_true, if_false, implies_true, forall_const, ne_eq, reduceIte, reduceCtorEq, Nat.reduceEqDiff, Nat.reduceAdd, Nat.reduceMul, Nat.reduceLT, Nat.reduceSub, Nat.reduceLeDiff, Nat.reduceBNe, Nat.reduceBEq, Nat.reduceBeqDiff, List.range, List.range.loop, Try.ntmps35, Try.results35]
    all_goals refine ⟨fun h => ?_, fun h => ?_⟩
    any_goals (
      have h := of_decide_eq_true h
      refine ⟨by rw [IntWalk.i64_in _ (by omega)]; omega, some_tok (by simp [leI_len]), by simp [leI_len]; omega, ⟨k + 1, by omega⟩, ⟨⟨wkD_eq ?_, rfl, wkD_eq rfl, rfl, wkD_eq ?_, rfl, wkD_eq rfl, rfl, trivial⟩, trivial, ⟨?_, Nat.le_of_ble_eq_true rfl, trivial⟩⟩, by (try simp only); omega⟩
      · exact some_i64 (by (try simp only); omega)
      · exact some_sli (by rw [byte_at hu (by omega), List.append_assoc, ← le_succ])
      · exact some_tok (by simp [leI_len]; omega))
    all_goals have h := of_decide_eq_false h
    all_goals obtain rfl : k = w := by omega
    all_goals simp (config := {dsimp := false}) only [↓vp0, vz, vn, nq, tys, cellD, wideIR, if_true, if_false, implies_true, forall_const, ne_eq, reduceIte, reduceCtorEq, Nat.reduceEqDiff, Nat.reduceAdd, Nat.reduceMul, Nat.reduceLT, Nat.reduceSub, Nat.reduceLeDiff, Nat.reduceBNe, Nat.reduceBEq, Nat.reduceBeqDiff, List.range, List.range.loop, Try.ntmps35, Try.results35, retB, vb]
    all_goals exact ⟨[], [76], [], ⟨rfl, rfl⟩, ⟨rfl, rfl⟩, ⟨by simp, by simp⟩, by simp, by simp [getAll, S.tok, look], by simp [getAll, S.tok, look], ⟨_, rfl, rfl⟩, ⟨_, rfl, rfl⟩, id rfl⟩
  · have hf := fe_ne (.tok 0) hne
    cases hc : decide ((w : Int) < 8)
    all_goals simp (config := {dsimp := false}) only [↓vp0, vz, vn, nq, tys, cellD, wideIR, if_true, if_false, implies_true, forall_const, ne_eq, reduceIte, reduceCtorEq, Nat.reduceEqDiff, Nat.reduceAdd, Nat.reduceMul, Nat.reduceLT, Nat.reduceSub, Nat.reduceLeDiff, Nat.reduceBNe, Nat.reduceBEq, Nat.reduceBeqDiff, List.range, List.range.loop, Try.ntmps35, Try.results35, retB, vb, PF.toR, gives, d1, hc, hz, hf, hsh, decide_true, spec_bwidth, sp_bwidth, c_bwidth, b_bwidth, spec_clone, sp_clone, c_clone, b_clone]
    all_goals refine ⟨.inr ⟨rfl, rfl, hne⟩, by omega, ?_⟩
    all_goals refine loopI (Fin (w + 1)) (fun k => [(27, .int .i64 (k.1 : Nat)), (26, .int .i64 (w : Nat)), (8, .sli (.tok 76) .u8 (b ++ leI k.1 n)), (2, .int .u64 n)]) (fun k => ⟨[], [(0, (b.length, 1)), (76, (b.length + k.1, 1))], 92⟩) (fun k => w - k.1) 0 (fun _ => rfl) ?_ ?_
    any_goals (refine ⟨⟨wkD_eq rfl, rfl, wkD_eq rfl, rfl, wkD_eq ?_, rfl, wkD_eq rfl, rfl, trivial⟩, trivial, ⟨rfl, Nat.le_of_ble_eq_true rfl, rfl, Nat.le_of_ble_eq_true rfl, trivial⟩⟩; exact some_sli (List.append_nil _).symm)
    all_goals rintro ⟨k, hk⟩
    all_goals simp (config := {dsimp := false}) only [↓vp0, vz, vn, nq, tys, cellD, wideIR, if_true, if_false, implies_true, forall_const, ne_eq, reduceIte, reduceCtorEq, Nat.reduceEqDiff, Nat.reduceAdd, Nat.reduceMul, Nat.reduceLT, Nat.reduceSub, Nat.reduceLeDiff, Nat.reduceBNe, Nat.reduceBEq, Nat.reduceBeqDiff, List.range, List.range.loop, Try.ntmps35, Try.results35]
    all_goals refine ⟨fun h => ?_, fun h => ?_⟩
    any_goals (
      have h := of_decide_eq_true h
      refine ⟨by rw [IntWalk.i64_in _ (by omega)]; omega, some_tok (by simp [leI_len]), by simp [leI_len]; omega, ⟨k + 1, by omega⟩, ⟨⟨wkD_eq ?_, rfl, wkD_eq rfl, rfl, wkD_eq ?_, rfl, wkD_eq rfl, rfl, trivial⟩, trivial, ⟨rfl, Nat.le_of_ble_eq_true rfl, ?_, Nat.le_of_ble_eq_true rfl, trivial⟩⟩, by (try simp only); omega⟩
      · exact some_i64 (by (try simp only); omega)
      · exact some_sli (by rw [byte_at hu (by omega), List.append_assoc, ← le_succ])
      · exact some_tok (by simp [leI_len]; omega))
    all_goals have h := of_decide_eq_false h
    all_goals obtain rfl : k = w := by omega
    all_goals simp (config := {dsimp := false}) only [↓vp0, vz, vn, nq, tys, cellD, wideIR, if_true, if_false, implies_true, forall_const, ne_eq, reduceIte, reduceCtorEq, Nat.reduceEqDiff, Nat.reduceAdd, Nat.reduceMul, Nat.reduceLT, Nat.reduceSub, Nat.reduceLeDiff, Nat.reduceBNe, Nat.reduceBEq, Nat.reduceBeqDiff, List.range, List.range.loop, Try.ntmps35, Try.results35, retB, vb]
    all_goals exact ⟨[], [76], [], ⟨rfl, rfl⟩, ⟨rfl, rfl⟩, ⟨by simp, by simp⟩, by simp, by simp [getAll, S.tok, look], by simp [getAll, S.tok, look], ⟨_, rfl, rfl⟩, ⟨_, rfl, rfl⟩, id rfl⟩
theorem c_num : Contract E 24 := by
  refine contract_boxT hE hgl (show E.P.funcs[24]? = some Try.f24 from Try.func24) rfl (p := sp_num) (fun _ _ _ => rfl) ?_
  intro args ds tv hv hdl htl
  unfold sp_num at hv ⊢
  split at hv
  case h_2 => exact hv.elim
  rename_i rs o b w n
  refine ⟨by simp, Nat.le_of_ble_eq_true rfl, ?_⟩
  obtain ⟨hr, hw, hn, hb⟩ := hv
  rcases hr with ⟨rfl, rfl⟩ | ⟨rfl, rfl, hne⟩
  · simp (config := {dsimp := false}) only [↓vp0, vz, vn, nq, tys, cellD, wideIR, if_true, if_false, implies_true, forall_const, ne_eq, reduceIte, reduceCtorEq, Nat.reduceEqDiff, Nat.reduceAdd, Nat.reduceMul, Nat.reduceLT, Nat.reduceSub, Nat.reduceLeDiff, Nat.reduceBNe, Nat.reduceBEq, Nat.reduceBeqDiff, List.range, List.range.loop, Try.ntmps24, Try.results24, retB, vb, spec_bput, sp_bput, c_bput, b_bput]
    exact ⟨.inl ⟨rfl, rfl⟩, hw, hn.1, hn.2, hb, [], [24], [], ⟨rfl, rfl⟩, ⟨rfl, rfl⟩, ⟨by simp, by simp⟩, by simp, by simp [getAll, S.tok, look], by simp [getAll, S.tok, look], ⟨_, rfl, rfl⟩, ⟨_, rfl, rfl⟩, id rfl⟩
  · simp (config := {dsimp := false}) only [↓vp0, vz, vn, nq, tys, cellD, wideIR, if_true, if_false, implies_true, forall_const, ne_eq, reduceIte, reduceCtorEq, Nat.reduceEqDiff, Nat.reduceAdd, Nat.reduceMul, Nat.reduceLT, Nat.reduceSub, Nat.reduceLeDiff, Nat.reduceBNe, Nat.reduceBEq, Nat.reduceBeqDiff, List.range, List.range.loop, Try.ntmps24, Try.results24, retB, vb, spec_bput, sp_bput, c_bput, b_bput]
    exact ⟨.inr ⟨rfl, rfl, hne⟩, hw, hn.1, hn.2, hb, [], [24], [], ⟨rfl, rfl⟩, ⟨rfl, rfl⟩, ⟨by simp, by simp⟩, by simp, by simp [getAll, S.tok, look], by simp [getAll, S.tok, look], ⟨_, rfl, rfl⟩, ⟨_, rfl, rfl⟩, id rfl⟩
theorem count_of {n : Int} (h : 0 ≤ n) : (countI n = [n] ∧ n < 253) ∨ (253 ≤ n ∧ ∃ m w, countI n = m :: leI w n ∧ ((m = 253 ∧ w = 2) ∨ (m = 254 ∧ w = 4) ∨ (m = 255 ∧ w = 8))) := by
  unfold countI
  by_cases h1 : n < 253
  · rw [if_pos h1]; exact .inl ⟨rfl, h1⟩
  · right
    refine ⟨by omega, ?_⟩
    rw [if_neg h1]
    by_cases h2 : n < 65536
    · rw [if_pos h2]; exact ⟨_, _, rfl, .inl ⟨rfl, rfl⟩⟩
    · rw [if_neg h2]
      by_cases h3 : n < 4294967296
      · rw [if_pos h3]; exact ⟨_, _, rfl, .inr (.inl ⟨rfl, rfl⟩)⟩
      · rw [if_neg h3]; exact ⟨_, _, rfl, .inr (.inr ⟨rfl, rfl⟩)⟩
theorem c_cput : Contract E 36 := by
  refine contract_boxT hE hgl (show E.P.funcs[36]? = some Try.f36 from Try.func36) rfl (p := sp_cput) (fun _ _ _ => rfl) ?_
  intro args ds tv hv hdl htl
  unfold sp_cput at hv ⊢
  split at hv
  case h_2 => exact hv.elim
  rename_i rs o b n
  refine ⟨by simp, Nat.le_of_ble_eq_true rfl, ?_⟩
  obtain ⟨hr, hn, hb⟩ := hv
  rcases hr with ⟨rfl, rfl⟩ | ⟨rfl, rfl, hne⟩
  · have hf := fe_no b
    rcases count_of hn.1 with ⟨hc, h253⟩ | ⟨h253, m, w, hc, hm⟩
    · have e1 : decide (IntKind.wrap .i64 (((1 : Nat) : Int) - 1) = 0) = true := rfl
      have e2 : IntKind.wrap .u8 n = n := IntWalk.u8_in n ⟨hn.1, by omega⟩
      simp (config := {dsimp := false}) only [↓vp0, vz, vn, nq, tys, cellD, wideIR, if_true, if_false, implies_true, forall_const, ne_eq, reduceIte, reduceCtorEq, Nat.reduceEqDiff, Nat.reduceAdd, Nat.reduceMul, Nat.reduceLT, Nat.reduceSub, Nat.reduceLeDiff, Nat.reduceBNe, Nat.reduceBEq, Nat.reduceBeqDiff, List.range, List.range.loop, Try.ntmps36, Try.results36, retB, vb, PF.toR, givesIf, hf, hc, e1, e2, eq_self, decide_true, spec_clone, sp_clone, c_clone, b_clone, spec_csize, sp_csize, c_csize, b_csize]
      exact ⟨.inl ⟨rfl, rfl⟩, by omega, hn, by omega, [], [16], [], ⟨rfl, rfl⟩, ⟨rfl, rfl⟩, ⟨by simp, by simp⟩, by simp, by simp [getAll, S.tok, look], by simp [getAll, S.tok, look], ⟨_, rfl, rfl⟩, ⟨_, rfl, rfl⟩, id rfl⟩
    · have e1 : IntKind.wrap .i64 ((((leI w n).length + 1 : Nat) : Int) - 1) = (w : Int) := by rw [leI_len, IntWalk.i64_in _ (by omega)]; omega
      rcases hm with ⟨rfl, rfl⟩ | ⟨rfl, rfl⟩ | ⟨rfl, rfl⟩
      all_goals simp (config := {dsimp := false}) only [↓vp0, vz, vn, nq, tys, cellD, wideIR, if_true, if_false, implies_true, forall_const, ne_eq, reduceIte, reduceCtorEq, Nat.reduceEqDiff, Nat.reduceAdd, Nat.reduceMul, Nat.reduceLT, Nat.reduceSub, Nat.reduceLeDiff, Nat.reduceBNe, Nat.reduceBEq, Nat.reduceBeqDiff, List.range, List.range.loop, Try.ntmps36, Try.results36, retB, vb, PF.toR, givesIf, hf, hc, e1, eq_self, decide_true, show decide (((2 : Nat) : Int) = 0) = false from rfl, show decide (((4 : Nat) : Int) = 0) = false from rfl, show decide (((8 : Nat) : Int) = 0) = false from rfl, show decide (((2 : Nat) : Int) = 2) = true from rfl, show decide (((4 : Nat) : Int) = 2) = false from rfl, show decide (((8 : Nat) : Int) = 2) = false from rfl, show decide (((4 : Nat) : Int) = 4) = true from rfl, show decide (((8 : Nat) : Int) = 4) = false from rfl, spec_clone, sp_clone, c_clone, b_clone, spec_csize, sp_csize, c_csize, b_csize]
      all_goals refine ⟨.inl ⟨rfl, rfl⟩, by omega, hn, by omega, ?_⟩
      · refine loopI (Fin (2 + 1)) (fun k => [(35, .int .i64 (k.1 : Nat)), (34, .int .i64 ((2 : Nat) : Int)), (5, .sli (.tok 16) .u8 (b ++ 253 :: leI k.1 n)), (1, .int .u64 n)]) (fun k => ⟨[], [(16, (b.length + 1 + k.1, 1))], 84⟩) (fun k => 2 - k.1) 0 (fun _ => rfl) ?_ ?_
        · exact ⟨⟨wkD_eq rfl, rfl, wkD_eq rfl, rfl, wkD_eq rfl, rfl, wkD_eq rfl, rfl, trivial⟩, trivial, ⟨rfl, Nat.le_of_ble_eq_true rfl, trivial⟩⟩
        rintro ⟨k, hk⟩
        simp (config := {dsimp := false}) only [↓vp0, vz, vn, nq, tys, cellD, wideIR, if_true, if_false, implies_true, forall_const, ne_eq, reduceIte, reduceCtorEq, Nat.reduceEqDiff, Nat.reduceAdd, Nat.reduceMul, Nat.reduceLT, Nat.reduceSub, Nat.reduceLeDiff, Nat.reduceBNe, Nat.reduceBEq, Nat.reduceBeqDiff, List.range, List.range.loop, Try.ntmps36, Try.results36]
        refine ⟨fun h => ?_, fun h => ?_⟩
        · have h := of_decide_eq_true h
          refine ⟨by rw [IntWalk.i64_in _ (by omega)]; omega, some_tok (by simp [leI_len]; omega), by simp [leI_len]; omega, ⟨k + 1, by omega⟩, ⟨⟨wkD_eq ?_, rfl, wkD_eq rfl, rfl, wkD_eq ?_, rfl, wkD_eq rfl, rfl, trivial⟩, trivial, ⟨?_, Nat.le_of_ble_eq_true rfl, trivial⟩⟩, by (try simp only); omega⟩
          · exact some_i64 (by (try simp only); omega)
          · exact some_sli (by rw [byte_at hn (by omega), List.append_assoc, List.cons_append, ← le_succ])
          · exact some_tok (by simp [leI_len]; omega)
        · have h := of_decide_eq_false h
          obtain rfl : k = 2 := by omega
          simp (config := {dsimp := false}) only [↓vp0, vz, vn, nq, tys, cellD, wideIR, if_true, if_false, implies_true, forall_const, ne_eq, reduceIte, reduceCtorEq, Nat.reduceEqDiff, Nat.reduceAdd, Nat.reduceMul, Nat.reduceLT, Nat.reduceSub, Nat.reduceLeDiff, Nat.reduceBNe, Nat.reduceBEq, Nat.reduceBeqDiff, List.range, List.range.loop, Try.ntmps36, Try.results36, retB, vb, hc]
          exact ⟨[], [16], [], ⟨rfl, rfl⟩, ⟨rfl, rfl⟩, ⟨by simp, by simp⟩, by simp, by simp [getAll, S.tok, look], by simp [getAll, S.tok, look, leI_len]; try omega, ⟨_, rfl, rfl⟩, ⟨_, rfl, rfl⟩, id rfl⟩
      · refine loopI (Fin (4 + 1)) (fun k => [(35, .int .i64 (k.1 : Nat)), (34, .int .i64 ((4 : Nat) : Int)), (5, .sli (.tok 16) .u8 (b ++ 254 :: leI k.1 n)), (1, .int .u64 n)]) (fun k => ⟨[], [(16, (b.length + 1 + k.1, 1))], 92⟩) (fun k => 4 - k.1) 0 (fun _ => rfl) ?_ ?_
        · exact ⟨⟨wkD_eq rfl, rfl, wkD_eq rfl, rfl, wkD_eq rfl, rfl, wkD_eq rfl, rfl, trivial⟩, trivial, ⟨rfl, Nat.le_of_ble_eq_true rfl, trivial⟩⟩
        rintro ⟨k, hk⟩
        simp (config := {dsimp := false}) only [↓vp0, vz, vn, nq, tys, cellD, wideIR, if_true, if_false, implies_true, forall_const, ne_eq, reduceIte, reduceCtorEq, Nat.reduceEqDiff, Nat.reduceAdd, Nat.reduceMul, Nat.reduceLT, Nat.reduceSub, Nat.reduceLeDiff, Nat.reduceBNe, Nat.reduceBEq, Nat.reduceBeqDiff, List.range, List.range.loop, Try.ntmps36, Try.results36]
        refine ⟨fun h => ?_, fun h => ?_⟩
        · have h := of_decide_eq_true h
          refine ⟨by rw [IntWalk.i64_in _ (by omega)]; omega, some_tok (by simp [leI_len]; omega), by simp [leI_len]; omega, ⟨k + 1, by omega⟩, ⟨⟨wkD_eq ?_, rfl, wkD_eq rfl, rfl, wkD_eq ?_, rfl, wkD_eq rfl, rfl, trivial⟩, trivial, ⟨?_, Nat.le_of_ble_eq_true rfl, trivial⟩⟩, by (try simp only); omega⟩
          · exact some_i64 (by (try simp only); omega)
          · exact some_sli (by rw [byte_at hn (by omega), List.append_assoc, List.cons_append, ← le_succ])
          · exact some_tok (by simp [leI_len]; omega)
        · have h := of_decide_eq_false h
          obtain rfl : k = 4 := by omega
          simp (config := {dsimp := false}) only [↓vp0, vz, vn, nq, tys, cellD, wideIR, if_true, if_false, implies_true, forall_const, ne_eq, reduceIte, reduceCtorEq, Nat.reduceEqDiff, Nat.reduceAdd, Nat.reduceMul, Nat.reduceLT, Nat.reduceSub, Nat.reduceLeDiff, Nat.reduceBNe, Nat.reduceBEq, Nat.reduceBeqDiff, List.range, List.range.loop, Try.ntmps36, Try.results36, retB, vb, hc]
          exact ⟨[], [16], [], ⟨rfl, rfl⟩, ⟨rfl, rfl⟩, ⟨by simp, by simp⟩, by simp, by simp [getAll, S.tok, look], by simp [getAll, S.tok, look, leI_len]; try omega, ⟨_, rfl, rfl⟩, ⟨_, rfl, rfl⟩, id rfl⟩
      · refine loopI (Fin (8 + 1)) (fun k => [(35, .int .i64 (k.1 : Nat)), (34, .int .i64 ((8 : Nat) : Int)), (5, .sli (.tok 16) .u8 (b ++ 255 :: leI k.1 n)), (1, .int .u64 n)]) (fun k => ⟨[], [(16, (b.length + 1 + k.1, 1))], 92⟩) (fun k => 8 - k.1) 0 (fun _ => rfl) ?_ ?_
        · exact ⟨⟨wkD_eq rfl, rfl, wkD_eq rfl, rfl, wkD_eq rfl, rfl, wkD_eq rfl, rfl, trivial⟩, trivial, ⟨rfl, Nat.le_of_ble_eq_true rfl, trivial⟩⟩
        rintro ⟨k, hk⟩
        simp (config := {dsimp := false}) only [↓vp0, vz, vn, nq, tys, cellD, wideIR, if_true, if_false, implies_true, forall_const, ne_eq, reduceIte, reduceCtorEq, Nat.reduceEqDiff, Nat.reduceAdd, Nat.reduceMul, Nat.reduceLT, Nat.reduceSub, Nat.reduceLeDiff, Nat.reduceBNe, Nat.reduceBEq, Nat.reduceBeqDiff, List.range, List.range.loop, Try.ntmps36, Try.results36]
        refine ⟨fun h => ?_, fun h => ?_⟩
        · have h := of_decide_eq_true h
          refine ⟨by rw [IntWalk.i64_in _ (by omega)]; omega, some_tok (by simp [leI_len]; omega), by simp [leI_len]; omega, ⟨k + 1, by omega⟩, ⟨⟨wkD_eq ?_, rfl, wkD_eq rfl, rfl, wkD_eq ?_, rfl, wkD_eq rfl, rfl, trivial⟩, trivial, ⟨?_, Nat.le_of_ble_eq_true rfl, trivial⟩⟩, by (try simp only); omega⟩
          · exact some_i64 (by (try simp only); omega)
          · exact some_sli (by rw [byte_at hn (by omega), List.append_assoc, List.cons_append, ← le_succ])
          · exact some_tok (by simp [leI_len]; omega)
        · have h := of_decide_eq_false h
          obtain rfl : k = 8 := by omega
          simp (config := {dsimp := false}) only [↓vp0, vz, vn, nq, tys, cellD, wideIR, if_true, if_false, implies_true, forall_const, ne_eq, reduceIte, reduceCtorEq, Nat.reduceEqDiff, Nat.reduceAdd, Nat.reduceMul, Nat.reduceLT, Nat.reduceSub, Nat.reduceLeDiff, Nat.reduceBNe, Nat.reduceBEq, Nat.reduceBeqDiff, List.range, List.range.loop, Try.ntmps36, Try.results36, retB, vb, hc]
          exact ⟨[], [16], [], ⟨rfl, rfl⟩, ⟨rfl, rfl⟩, ⟨by simp, by simp⟩, by simp, by simp [getAll, S.tok, look], by simp [getAll, S.tok, look, leI_len]; try omega, ⟨_, rfl, rfl⟩, ⟨_, rfl, rfl⟩, id rfl⟩
  · have hf := fe_ne (.tok 0) hne
    rcases count_of hn.1 with ⟨hc, h253⟩ | ⟨h253, m, w, hc, hm⟩
    · have e1 : decide (IntKind.wrap .i64 (((1 : Nat) : Int) - 1) = 0) = true := rfl
      have e2 : IntKind.wrap .u8 n = n := IntWalk.u8_in n ⟨hn.1, by omega⟩
      simp (config := {dsimp := false}) only [↓vp0, vz, vn, nq, tys, cellD, wideIR, if_true, if_false, implies_true, forall_const, ne_eq, reduceIte, reduceCtorEq, Nat.reduceEqDiff, Nat.reduceAdd, Nat.reduceMul, Nat.reduceLT, Nat.reduceSub, Nat.reduceLeDiff, Nat.reduceBNe, Nat.reduceBEq, Nat.reduceBeqDiff, List.range, List.range.loop, Try.ntmps36, Try.results36, retB, vb, PF.toR, givesIf, hf, hc, e1, e2, eq_self, decide_true, spec_clone, sp_clone, c_clone, b_clone, spec_csize, sp_csize, c_csize, b_csize]
      exact ⟨.inr ⟨rfl, rfl, hne⟩, by omega, hn, by omega, [], [16], [], ⟨rfl, rfl⟩, ⟨rfl, rfl⟩, ⟨by simp, by simp⟩, by simp, by simp [getAll, S.tok, look], by simp [getAll, S.tok, look], ⟨_, rfl, rfl⟩, ⟨_, rfl, rfl⟩, id rfl⟩
    · have e1 : IntKind.wrap .i64 ((((leI w n).length + 1 : Nat) : Int) - 1) = (w : Int) := by rw [leI_len, IntWalk.i64_in _ (by omega)]; omega
      rcases hm with ⟨rfl, rfl⟩ | ⟨rfl, rfl⟩ | ⟨rfl, rfl⟩
      all_goals simp (config := {dsimp := false}) only [↓vp0, vz, vn, nq, tys, cellD, wideIR, if_true, if_false, implies_true, forall_const, ne_eq, reduceIte, reduceCtorEq, Nat.reduceEqDiff, Nat.reduceAdd, Nat.reduceMul, Nat.reduceLT, Nat.reduceSub, Nat.reduceLeDiff, Nat.reduceBNe, Nat.reduceBEq, Nat.reduceBeqDiff, List.range, List.range.loop, Try.ntmps36, Try.results36, retB, vb, PF.toR, givesIf, hf, hc, e1, eq_self, decide_true, show decide (((2 : Nat) : Int) = 0) = false from rfl, show decide (((4 : Nat) : Int) = 0) = false from rfl, show decide (((8 : Nat) : Int) = 0) = false from rfl, show decide (((2 : Nat) : Int) = 2) = true from rfl, show decide (((4 : Nat) : Int) = 2) = false from rfl, show decide (((8 : Nat) : Int) = 2) = false from rfl, show decide (((4 : Nat) : Int) = 4) = true from rfl, show decide (((8 : Nat) : Int) = 4) = false from rfl, spec_clone, sp_clone, c_clone, b_clone, spec_csize, sp_csize, c_csize, b_csize]
      all_goals refine ⟨.inr ⟨rfl, rfl, hne⟩, by omega, hn, by omega, ?_⟩
      · refine loopI (Fin (2 + 1)) (fun k => [(35, .int .i64 (k.1 : Nat)), (34, .int .i64 ((2 : Nat) : Int)), (5, .sli (.tok 16) .u8 (b ++ 253 :: leI k.1 n)), (1, .int .u64 n)]) (fun k => ⟨[], [(0, (b.length, 1)), (16, (b.length + 1 + k.1, 1))], 84⟩) (fun k => 2 - k.1) 0 (fun _ => rfl) ?_ ?_
        · exact ⟨⟨wkD_eq rfl, rfl, wkD_eq rfl, rfl, wkD_eq rfl, rfl, wkD_eq rfl, rfl, trivial⟩, trivial, ⟨rfl, Nat.le_of_ble_eq_true rfl, rfl, Nat.le_of_ble_eq_true rfl, trivial⟩⟩
        rintro ⟨k, hk⟩
        simp (config := {dsimp := false}) only [↓vp0, vz, vn, nq, tys, cellD, wideIR, if_true, if_false, implies_true, forall_const, ne_eq, reduceIte, reduceCtorEq, Nat.reduceEqDiff, Nat.reduceAdd, Nat.reduceMul, Nat.reduceLT, Nat.reduceSub, Nat.reduceLeDiff, Nat.reduceBNe, Nat.reduceBEq, Nat.reduceBeqDiff, List.range, List.range.loop, Try.ntmps36, Try.results36]
        refine ⟨fun h => ?_, fun h => ?_⟩
        · have h := of_decide_eq_true h
          refine ⟨by rw [IntWalk.i64_in _ (by omega)]; omega, some_tok (by simp [leI_len]; omega), by simp [leI_len]; omega, ⟨k + 1, by omega⟩, ⟨⟨wkD_eq ?_, rfl, wkD_eq rfl, rfl, wkD_eq ?_, rfl, wkD_eq rfl, rfl, trivial⟩, trivial, ⟨rfl, Nat.le_of_ble_eq_true rfl, ?_, Nat.le_of_ble_eq_true rfl, trivial⟩⟩, by (try simp only); omega⟩
          · exact some_i64 (by (try simp only); omega)
          · exact some_sli (by rw [byte_at hn (by omega), List.append_assoc, List.cons_append, ← le_succ])
          · exact some_tok (by simp [leI_len]; omega)
        · have h := of_decide_eq_false h
          obtain rfl : k = 2 := by omega
          simp (config := {dsimp := false}) only [↓vp0, vz, vn, nq, tys, cellD, wideIR, if_true, if_false, implies_true, forall_const, ne_eq, reduceIte, reduceCtorEq, Nat.reduceEqDiff, Nat.reduceAdd, Nat.reduceMul, Nat.reduceLT, Nat.reduceSub, Nat.reduceLeDiff, Nat.reduceBNe, Nat.reduceBEq, Nat.reduceBeqDiff, List.range, List.range.loop, Try.ntmps36, Try.results36, retB, vb, hc]
          exact ⟨[], [16], [], ⟨rfl, rfl⟩, ⟨rfl, rfl⟩, ⟨by simp, by simp⟩, by simp, by simp [getAll, S.tok, look], by simp [getAll, S.tok, look, leI_len]; try omega, ⟨_, rfl, rfl⟩, ⟨_, rfl, rfl⟩, id rfl⟩
      · refine loopI (Fin (4 + 1)) (fun k => [(35, .int .i64 (k.1 : Nat)), (34, .int .i64 ((4 : Nat) : Int)), (5, .sli (.tok 16) .u8 (b ++ 254 :: leI k.1 n)), (1, .int .u64 n)]) (fun k => ⟨[], [(0, (b.length, 1)), (16, (b.length + 1 + k.1, 1))], 92⟩) (fun k => 4 - k.1) 0 (fun _ => rfl) ?_ ?_
        · exact ⟨⟨wkD_eq rfl, rfl, wkD_eq rfl, rfl, wkD_eq rfl, rfl, wkD_eq rfl, rfl, trivial⟩, trivial, ⟨rfl, Nat.le_of_ble_eq_true rfl, rfl, Nat.le_of_ble_eq_true rfl, trivial⟩⟩
        rintro ⟨k, hk⟩
        simp (config := {dsimp := false}) only [↓vp0, vz, vn, nq, tys, cellD, wideIR, if_true, if_false, implies_true, forall_const, ne_eq, reduceIte, reduceCtorEq, Nat.reduceEqDiff, Nat.reduceAdd, Nat.reduceMul, Nat.reduceLT, Nat.reduceSub, Nat.reduceLeDiff, Nat.reduceBNe, Nat.reduceBEq, Nat.reduceBeqDiff, List.range, List.range.loop, Try.ntmps36, Try.results36]
        refine ⟨fun h => ?_, fun h => ?_⟩
        · have h := of_decide_eq_true h
          refine ⟨by rw [IntWalk.i64_in _ (by omega)]; omega, some_tok (by simp [leI_len]; omega), by simp [leI_len]; omega, ⟨k + 1, by omega⟩, ⟨⟨wkD_eq ?_, rfl, wkD_eq rfl, rfl, wkD_eq ?_, rfl, wkD_eq rfl, rfl, trivial⟩, trivial, ⟨rfl, Nat.le_of_ble_eq_true rfl, ?_, Nat.le_of_ble_eq_true rfl, trivial⟩⟩, by (try simp only); omega⟩
          · exact some_i64 (by (try simp only); omega)
          · exact some_sli (by rw [byte_at hn (by omega), List.append_assoc, List.cons_append, ← le_succ])
          · exact some_tok (by simp [leI_len]; omega)
        · have h := of_decide_eq_false h
          obtain rfl : k = 4 := by omega
          simp (config := {dsimp := false}) only [↓vp0, vz, vn, nq, tys, cellD, wideIR, if_true, if_false, implies_true, forall_const, ne_eq, reduceIte, reduceCtorEq, Nat.reduceEqDiff, Nat.reduceAdd, Nat.reduceMul, Nat.reduceLT, Nat.reduceSub, Nat.reduceLeDiff, Nat.reduceBNe, Nat.reduceBEq, Nat.reduceBeqDiff, List.range, List.range.loop, Try.ntmps36, Try.results36, retB, vb, hc]
          exact ⟨[], [16], [], ⟨rfl, rfl⟩, ⟨rfl, rfl⟩, ⟨by simp, by simp⟩, by simp, by simp [getAll, S.tok, look], by simp [getAll, S.tok, look, leI_len]; try omega, ⟨_, rfl, rfl⟩, ⟨_, rfl, rfl⟩, id rfl⟩
      · refine loopI (Fin (8 + 1)) (fun k => [(35, .int .i64 (k.1 : Nat)), (34, .int .i64 ((8 : Nat) : Int)), (5, .sli (.tok 16) .u8 (b ++ 255 :: leI k.1 n)), (1, .int .u64 n)]) (fun k => ⟨[], [(0, (b.length, 1)), (16, (b.length + 1 + k.1, 1))], 92⟩) (fun k => 8 - k.1) 0 (fun _ => rfl) ?_ ?_
        · exact ⟨⟨wkD_eq rfl, rfl, wkD_eq rfl, rfl, wkD_eq rfl, rfl, wkD_eq rfl, rfl, trivial⟩, trivial, ⟨rfl, Nat.le_of_ble_eq_true rfl, rfl, Nat.le_of_ble_eq_true rfl, trivial⟩⟩
        rintro ⟨k, hk⟩
        simp (config := {dsimp := false}) only [↓vp0, vz, vn, nq, tys, cellD, wideIR, if_true, if_false, implies_true, forall_const, ne_eq, reduceIte, reduceCtorEq, Nat.reduceEqDiff, Nat.reduceAdd, Nat.reduceMul, Nat.reduceLT, Nat.reduceSub, Nat.reduceLeDiff, Nat.reduceBNe, Nat.reduceBEq, Nat.reduceBeqDiff, List.range, List.range.loop, Try.ntmps36, Try.results36]
        refine ⟨fun h => ?_, fun h => ?_⟩
        · have h := of_decide_eq_true h
          refine ⟨by rw [IntWalk.i64_in _ (by omega)]; omega, some_tok (by simp [leI_len]; omega), by simp [leI_len]; omega, ⟨k + 1, by omega⟩, ⟨⟨wkD_eq ?_, rfl, wkD_eq rfl, rfl, wkD_eq ?_, rfl, wkD_eq rfl, rfl, trivial⟩, trivial, ⟨rfl, Nat.le_of_ble_eq_true rfl, ?_, Nat.le_of_ble_eq_true rfl, trivial⟩⟩, by (try simp only); omega⟩
          · exact some_i64 (by (try simp only); omega)
          · exact some_sli (by rw [byte_at hn (by omega), List.append_assoc, List.cons_append, ← le_succ])
          · exact some_tok (by simp [leI_len]; omega)
        · have h := of_decide_eq_false h
          obtain rfl : k = 8 := by omega
          simp (config := {dsimp := false}) only [↓vp0, vz, vn, nq, tys, cellD, wideIR, if_true, if_false, implies_true, forall_const, ne_eq, reduceIte, reduceCtorEq, Nat.reduceEqDiff, Nat.reduceAdd, Nat.reduceMul, Nat.reduceLT, Nat.reduceSub, Nat.reduceLeDiff, Nat.reduceBNe, Nat.reduceBEq, Nat.reduceBeqDiff, List.range, List.range.loop, Try.ntmps36, Try.results36, retB, vb, hc]
          exact ⟨[], [16], [], ⟨rfl, rfl⟩, ⟨rfl, rfl⟩, ⟨by simp, by simp⟩, by simp, by simp [getAll, S.tok, look], by simp [getAll, S.tok, look, leI_len]; try omega, ⟨_, rfl, rfl⟩, ⟨_, rfl, rfl⟩, id rfl⟩
end Go.Vi.T5
end

section
set_option linter.unusedVariables false
set_option linter.unusedSimpArgs false
set_option maxHeartbeats 0
set_option maxRecDepth 20000
namespace Go.Vi.T5
open Go.Proofs

theorem take32 {p : List Int} (h : p.length = 32) : List.take (((32 : Nat) : Int) - 0).toNat (List.drop (Int.toNat 0) p) = p := by
  rw [show Int.toNat 0 = 0 from rfl, List.drop_zero]
  exact List.take_of_length_le (by rw [h]; decide)
theorem c_putText : Contract E 30 := by
  refine contract_boxR hE hgl (show E.P.funcs[30]? = some Try.f30 from Try.func30) rfl (p := sp_putText) (fun _ _ _ => rfl) ?_
  intro args ds tv hv hdl htl
  unfold sp_putText at hv ⊢
  split at hv
  case h_2 => exact hv.elim
  rename_i b s n
  refine ⟨by simp, Nat.le_of_ble_eq_true rfl, ?_⟩
  obtain ⟨rfl, hne, hb, hs⟩ := hv
  have e1 : IntKind.wrap .u64 (s.length : Int) = (s.length : Int) := IntWalk.u64_in _ (by omega)
  have hc := count_len (s.length : Int)
  simp (config := {dsimp := false}) only [↓vp0, vz, vn, nq, tys, cellD, wideIR, if_true, if_false, implies_true, forall_const, ne_eq, reduceIte, reduceCtorEq, Nat.reduceEqDiff, Nat.reduceAdd, Nat.reduceMul, Nat.reduceLT, Nat.reduceSub, Nat.reduceLeDiff, Nat.reduceBNe, Nat.reduceBEq, Nat.reduceBeqDiff, List.range, List.range.loop, Try.ntmps30, Try.results30, retR, vb, e1, spec_cput, sp_cput, c_cput, b_cput]
  refine ⟨.inr ⟨rfl, rfl, hne⟩, ⟨by omega, by omega⟩, by omega, some_tok (by simp), by simp; omega, ?_⟩
  refine ⟨0, 28, 4, _, _, ⟨rfl, ⟨by decide, by decide⟩, rfl, ⟨_, _, rfl, ?_⟩, rfl, [], [], [], ⟨rfl, rfl⟩, ⟨rfl, rfl⟩, ⟨by simp, by simp⟩, by simp, ?_, rfl, ⟨_, rfl, rfl⟩, ⟨_, rfl, rfl⟩, ?_⟩⟩
  · simp only [List.length_append]; omega
  · simp [getAll, S.tok, look, reT, textI]; omega
  · rfl
theorem c_putIn : Contract E 26 := by
  refine contract_boxR hE hgl (show E.P.funcs[26]? = some Try.f26 from Try.func26) rfl (p := sp_putIn) (fun _ _ _ => rfl) ?_
  intro args ds tv hv hdl htl
  unfold sp_putIn at hv ⊢
  split at hv
  case h_2 => exact hv.elim
  rename_i b p i s q w n
  refine ⟨by simp, Nat.le_of_ble_eq_true rfl, ?_⟩
  obtain ⟨rfl, hne, ⟨hp, hi, hq⟩, hb, hs⟩ := hv
  have u1 : IntKind.wrap .u64 i = i := IntWalk.u64_in _ (by have := hi.1; have := hi.2; omega)
  have u2 : IntKind.wrap .u64 q = q := IntWalk.u64_in _ (by have := hq.1; have := hq.2; omega)
  have tp := take32 hp
  have ht := text_len s
  simp (config := {dsimp := false}) only [↓vp0, vz, vn, nq, tys, cellD, wideIR, if_true, if_false, implies_true, forall_const, ne_eq, reduceIte, reduceCtorEq, Nat.reduceEqDiff, Nat.reduceAdd, Nat.reduceMul, Nat.reduceLT, Nat.reduceSub, Nat.reduceLeDiff, Nat.reduceBNe, Nat.reduceBEq, Nat.reduceBeqDiff, List.range, List.range.loop, Try.ntmps26, Try.results26, retR, vb]
  refine drawX [0, 3] [(4, [5, 6, 7, 8])] [(4, [0])] (by kernel_rfl) (wild_of rfl) ?_
  simp (config := {dsimp := false}) only [↓vp0, vz, vn, nq, tys, cellD, wideIR, if_true, if_false, implies_true, forall_const, ne_eq, reduceIte, reduceCtorEq, Nat.reduceEqDiff, Nat.reduceAdd, Nat.reduceMul, Nat.reduceLT, Nat.reduceSub, Nat.reduceLeDiff, Nat.reduceBNe, Nat.reduceBEq, Nat.reduceBeqDiff, List.range, List.range.loop, Try.ntmps26, Try.results26, retR, vb, ↓vy0, vx0, u1, tp, hp, spec_num, sp_num, c_num, b_num]
  refine ⟨by decide, by decide, by decide, by omega, okUps_of (by kernel_rfl) rfl, .inr ⟨rfl, by simp [hp], by simp [hp]⟩, .inl trivial, hi.1, hi.2, by simp [hp]; omega, okUps_all rfl (by kernel_rfl), ?_⟩
  refine drawX [0, 3] [(3, [4, 5, 6])] [(3, [52])] (by kernel_rfl) (wild_of rfl) ?_
  simp (config := {dsimp := false}) only [↓vp0, vz, vn, nq, tys, cellD, wideIR, if_true, if_false, implies_true, forall_const, ne_eq, reduceIte, reduceCtorEq, Nat.reduceEqDiff, Nat.reduceAdd, Nat.reduceMul, Nat.reduceLT, Nat.reduceSub, Nat.reduceLeDiff, Nat.reduceBNe, Nat.reduceBEq, Nat.reduceBeqDiff, List.range, List.range.loop, Try.ntmps26, Try.results26, retR, vb, ↓vy0, vx0, u2, spec_num, sp_num, c_num, b_num, spec_putText, sp_putText, c_putText, b_putText]
  have l4 : ∀ x : Int, (leI (Int.toNat 4) x).length = 4 := fun x => leI_len _ _
  have t4 : Int.toNat 4 = 4 := rfl
  refine ⟨by simp [leI_len] <;> omega, by simp [leI_len] <;> omega, by simp [leI_len, hp] <;> omega, by omega, okUps_of (by kernel_rfl) rfl, .inr ⟨rfl, by simp [leI_len] <;> omega, by simp [leI_len] <;> omega⟩, .inl trivial, hq.1, hq.2, by simp [leI_len, hp] <;> omega, okUps_all rfl (by kernel_rfl), ?_⟩
  refine ⟨0, 88, 4, _, _, ⟨rfl, ⟨by decide, by decide⟩, rfl, ⟨_, _, rfl, ?_⟩, rfl, [], [], [], ⟨rfl, rfl⟩, ⟨rfl, rfl⟩, ⟨by simp, by simp⟩, by simp, ?_, rfl, ⟨_, rfl, rfl⟩, ⟨_, rfl, rfl⟩, ?_⟩⟩
  · simp [hp, leI_len] <;> omega
  · simp [getAll, S.tok, look, reT, inI, hp, leI_len] <;> omega
  · simp only [inI, List.append_assoc]; rfl
theorem c_putOut : Contract E 28 := by
  refine contract_boxR hE hgl (show E.P.funcs[28]? = some Try.f28 from Try.func28) rfl (p := sp_putOut) (fun _ _ _ => rfl) ?_
  intro args ds tv hv hdl htl
  unfold sp_putOut at hv ⊢
  split at hv
  case h_2 => exact hv.elim
  rename_i b v s n
  refine ⟨by simp, Nat.le_of_ble_eq_true rfl, ?_⟩
  obtain ⟨rfl, hne, hv1, hb, hs⟩ := hv
  have u1 : IntKind.wrap .u64 v = v % 18446744073709551616 := rfl
  have ht := text_len s
  have m1 := Int.emod_nonneg v (show (18446744073709551616 : Int) ≠ 0 by decide)
  have m2 := Int.emod_lt_of_pos v (show (0 : Int) < 18446744073709551616 by decide)
  simp (config := {dsimp := false}) only [↓vp0, vz, vn, nq, tys, cellD, wideIR, if_true, if_false, implies_true, forall_const, ne_eq, reduceIte, reduceCtorEq, Nat.reduceEqDiff, Nat.reduceAdd, Nat.reduceMul, Nat.reduceLT, Nat.reduceSub, Nat.reduceLeDiff, Nat.reduceBNe, Nat.reduceBEq, Nat.reduceBeqDiff, List.range, List.range.loop, Try.ntmps28, Try.results28, retR, vb]
  refine drawX [0, 3] [(4, [5, 6])] [(4, [0])] (by kernel_rfl) (wild_of rfl) ?_
  simp (config := {dsimp := false}) only [↓vp0, vz, vn, nq, tys, cellD, wideIR, if_true, if_false, implies_true, forall_const, ne_eq, reduceIte, reduceCtorEq, Nat.reduceEqDiff, Nat.reduceAdd, Nat.reduceMul, Nat.reduceLT, Nat.reduceSub, Nat.reduceLeDiff, Nat.reduceBNe, Nat.reduceBEq, Nat.reduceBeqDiff, List.range, List.range.loop, Try.ntmps28, Try.results28, retR, vb, ↓vy0, vx0, u1, spec_num, sp_num, c_num, b_num, spec_putText, sp_putText, c_putText, b_putText]
  refine ⟨.inr ⟨rfl, rfl, hne⟩, .inr trivial, m1, m2, by omega, okUps_of (by kernel_rfl) rfl, by simp [leI_len], by simp [leI_len] <;> omega, by simp [leI_len] <;> omega, by omega, okUps_all rfl (by kernel_rfl), ?_⟩
  refine ⟨0, 32, 4, _, _, ⟨rfl, ⟨by decide, by decide⟩, rfl, ⟨_, _, rfl, ?_⟩, rfl, [], [], [], ⟨rfl, rfl⟩, ⟨rfl, rfl⟩, ⟨by simp, by simp⟩, by simp, ?_, rfl, ⟨_, rfl, rfl⟩, ⟨_, rfl, rfl⟩, ?_⟩⟩
  · simp [leI_len] <;> omega
  · simp [getAll, S.tok, look, reT, outI, leI_len] <;> omega
  · simp only [outI, List.append_assoc]; rfl
end Go.Vi.T5
end

section
set_option linter.unusedVariables false
set_option linter.unusedSimpArgs false
set_option maxHeartbeats 0
set_option maxRecDepth 20000
namespace Go.Vi.T5
open Go.Proofs

theorem flat_snoc {α : Type} [Inhabited α] (f : α → List Int) (l : List α) (k : Nat) (h : k < l.length) : (l.take (k + 1)).flatMap f = (l.take k).flatMap f ++ f (l.getD k default) := by
  rw [List.take_add_one, List.flatMap_append]
  simp [List.getD, h]
theorem flat_le {α : Type} [Inhabited α] (f : α → List Int) (l : List α) (k : Nat) (h : k < l.length) : ((l.take k).flatMap f).length + (f (l.getD k default)).length ≤ (l.flatMap f).length := by
  have e : l.flatMap f = (l.take (k + 1)).flatMap f ++ (l.drop (k + 1)).flatMap f := by rw [← List.flatMap_append, List.take_append_drop]
  rw [e, flat_snoc f l k h]
  simp only [List.length_append]
  omega
theorem c_layIn : Contract E 25 := by
  refine contract_boxR hE hgl (show E.P.funcs[25]? = some Try.f25 from Try.func25) rfl (p := (sp_layIn 26)) (fun _ _ _ => rfl) ?_
  intro args ds tv hv hdl htl
  unfold sp_layIn at hv ⊢
  split at hv
  case h_2 => exact hv.elim
  rename_i b es h n
  refine ⟨by simp, Nat.le_of_ble_eq_true rfl, ?_⟩
  obtain ⟨rfl, rfl, hne, ⟨l, rfl, hok, hl⟩, hlen⟩ := hv
  simp only [ins_D] at hlen ⊢
  have e1 : IntKind.wrap .u64 (l.length : Int) = (l.length : Int) := IntWalk.u64_in _ (by omega)
  have hc := count_len (l.length : Int)
  simp only [List.length_append] at hlen
  simp (config := {dsimp := false}) only [↓vp0, vz, vn, nq, tys, cellD, wideIR, if_true, if_false, implies_true, forall_const, ne_eq, reduceIte, reduceCtorEq, Nat.reduceEqDiff, Nat.reduceAdd, Nat.reduceMul, Nat.reduceLT, Nat.reduceSub, Nat.reduceLeDiff, Nat.reduceBNe, Nat.reduceBEq, Nat.reduceBeqDiff, List.range, List.range.loop, Try.ntmps25, Try.results25, retR, vb, e1, spec_cput, sp_cput, c_cput, b_cput]
  refine ⟨.inr ⟨rfl, rfl, hne⟩, ⟨by omega, by omega⟩, by omega, ?_⟩
  refine loopI (Fin (l.length + 1)) (fun k => [(16, .int .i64 (k.1 : Nat)), (15, .int .i64 (l.length : Nat)), (14, .sl .no 36 (insD l)), (0, .sli (.tok 28) .u8 (b ++ (countI l.length ++ (l.take k.1).flatMap inI))), (2, .fn 26 [])]) (fun k => ⟨[], [(0, (b.length, 1)), (28, ((b ++ (countI l.length ++ (l.take k.1).flatMap inI)).length, 1))], 48⟩) (fun k => l.length - k.1) 0 (fun _ => rfl) ?_ ?_
  · refine ⟨⟨wkD_eq rfl, rfl, wkD_eq rfl, rfl, wkD_eq rfl, rfl, wkD_eq ?_, rfl, wkD_eq rfl, rfl, trivial⟩, trivial, ⟨rfl, Nat.le_of_ble_eq_true rfl, ?_, Nat.le_of_ble_eq_true rfl, trivial⟩⟩
    · exact some_sli (by simp)
    · exact some_tok (by simp)
  rintro ⟨k, hk⟩
  simp (config := {dsimp := false}) only [↓vp0, vz, vn, nq, tys, cellD, wideIR, if_true, if_false, implies_true, forall_const, ne_eq, reduceIte, reduceCtorEq, Nat.reduceEqDiff, Nat.reduceAdd, Nat.reduceMul, Nat.reduceLT, Nat.reduceSub, Nat.reduceLeDiff, Nat.reduceBNe, Nat.reduceBEq, Nat.reduceBeqDiff, List.range, List.range.loop, Try.ntmps25, Try.results25]
  refine ⟨fun h => ?_, fun h => ?_⟩
  · have h := of_decide_eq_true h
    have hk' : k < l.length := by omega
    have g1 := insD_get l k hk'
    have hx := hok _ (getD_memI hk')
    have hfl := flat_le inI l k hk'
    have hsn := flat_snoc inI l k hk'
    have hs : (l.getD k default).script.length ≤ (inI (l.getD k default)).length := by simp only [inI, textI, List.length_append]; omega
    simp (config := {dsimp := false}) only [↓vp0, vz, vn, nq, tys, cellD, wideIR, if_true, if_false, implies_true, forall_const, ne_eq, reduceIte, reduceCtorEq, Nat.reduceEqDiff, Nat.reduceAdd, Nat.reduceMul, Nat.reduceLT, Nat.reduceSub, Nat.reduceLeDiff, Nat.reduceBNe, Nat.reduceBEq, Nat.reduceBeqDiff, List.range, List.range.loop, Try.ntmps25, Try.results25, vb, Int.toNat_natCast, g1, inD, spec_putIn, sp_putIn, c_putIn, b_putIn]
    refine ⟨by omega, by omega, by simp only [List.length_append]; omega, hx.prev, hx.ix, hx.seq, by simp only [List.length_append]; omega, by omega, ⟨k + 1, by omega⟩, ⟨⟨wkD_eq ?_, rfl, wkD_eq rfl, rfl, wkD_eq rfl, rfl, wkD_eq ?_, rfl, wkD_eq rfl, rfl, trivial⟩, trivial, ⟨rfl, Nat.le_of_ble_eq_true rfl, ?_, Nat.le_of_ble_eq_true rfl, trivial⟩⟩, by (try simp only); omega⟩
    · exact some_i64 (by (try simp only); omega)
    · exact some_sli (by rw [hsn]; first | done | rfl | (simp only [List.append_assoc]; done) | (simp only [List.append_assoc]; rfl))
    · exact some_tok (by rw [hsn]; simp only [List.length_append, Nat.add_assoc]; try rfl)

  · have h := of_decide_eq_false h
    obtain rfl : k = l.length := by omega
    simp (config := {dsimp := false}) only [↓vp0, vz, vn, nq, tys, cellD, wideIR, if_true, if_false, implies_true, forall_const, ne_eq, reduceIte, reduceCtorEq, Nat.reduceEqDiff, Nat.reduceAdd, Nat.reduceMul, Nat.reduceLT, Nat.reduceSub, Nat.reduceLeDiff, Nat.reduceBNe, Nat.reduceBEq, Nat.reduceBeqDiff, List.range, List.range.loop, Try.ntmps25, Try.results25, retR, vb, List.take_length]
    refine ⟨0, 28, 6, _, _, ⟨rfl, ⟨by decide, by decide⟩, rfl, ⟨_, _, rfl, ?_⟩, rfl, [], [], [], ⟨rfl, rfl⟩, ⟨rfl, rfl⟩, ⟨by simp, by simp⟩, by simp, by simp [getAll, S.tok, look, reT], rfl, ⟨_, rfl, rfl⟩, ⟨_, rfl, rfl⟩, id rfl⟩⟩
    simp only [List.length_append]; omega
theorem c_layOut : Contract E 27 := by
  refine contract_boxR hE hgl (show E.P.funcs[27]? = some Try.f27 from Try.func27) rfl (p := (sp_layOut 28)) (fun _ _ _ => rfl) ?_
  intro args ds tv hv hdl htl
  unfold sp_layOut at hv ⊢
  split at hv
  case h_2 => exact hv.elim
  rename_i b es h n
  refine ⟨by simp, Nat.le_of_ble_eq_true rfl, ?_⟩
  obtain ⟨rfl, rfl, hne, ⟨l, rfl, hok, hl⟩, hlen⟩ := hv
  simp only [outs_D] at hlen ⊢
  have e1 : IntKind.wrap .u64 (l.length : Int) = (l.length : Int) := IntWalk.u64_in _ (by omega)
  have hc := count_len (l.length : Int)
  simp only [List.length_append] at hlen
  simp (config := {dsimp := false}) only [↓vp0, vz, vn, nq, tys, cellD, wideIR, if_true, if_false, implies_true, forall_const, ne_eq, reduceIte, reduceCtorEq, Nat.reduceEqDiff, Nat.reduceAdd, Nat.reduceMul, Nat.reduceLT, Nat.reduceSub, Nat.reduceLeDiff, Nat.reduceBNe, Nat.reduceBEq, Nat.reduceBeqDiff, List.range, List.range.loop, Try.ntmps27, Try.results27, retR, vb, e1, spec_cput, sp_cput, c_cput, b_cput]
  refine ⟨.inr ⟨rfl, rfl, hne⟩, ⟨by omega, by omega⟩, by omega, ?_⟩
  refine loopI (Fin (l.length + 1)) (fun k => [(16, .int .i64 (k.1 : Nat)), (15, .int .i64 (l.length : Nat)), (14, .sl .no 2 (outsD l)), (0, .sli (.tok 28) .u8 (b ++ (countI l.length ++ (l.take k.1).flatMap outI))), (2, .fn 28 [])]) (fun k => ⟨[], [(0, (b.length, 1)), (28, ((b ++ (countI l.length ++ (l.take k.1).flatMap outI)).length, 1))], 48⟩) (fun k => l.length - k.1) 0 (fun _ => rfl) ?_ ?_
  · refine ⟨⟨wkD_eq rfl, rfl, wkD_eq rfl, rfl, wkD_eq rfl, rfl, wkD_eq ?_, rfl, wkD_eq rfl, rfl, trivial⟩, trivial, ⟨rfl, Nat.le_of_ble_eq_true rfl, ?_, Nat.le_of_ble_eq_true rfl, trivial⟩⟩
    · exact some_sli (by simp)
    · exact some_tok (by simp)
  rintro ⟨k, hk⟩
  simp (config := {dsimp := false}) only [↓vp0, vz, vn, nq, tys, cellD, wideIR, if_true, if_false, implies_true, forall_const, ne_eq, reduceIte, reduceCtorEq, Nat.reduceEqDiff, Nat.reduceAdd, Nat.reduceMul, Nat.reduceLT, Nat.reduceSub, Nat.reduceLeDiff, Nat.reduceBNe, Nat.reduceBEq, Nat.reduceBeqDiff, List.range, List.range.loop, Try.ntmps27, Try.results27]
  refine ⟨fun h => ?_, fun h => ?_⟩
  · have h := of_decide_eq_true h
    have hk' : k < l.length := by omega
    have g1 := outsD_get l k hk'
    have hx := hok _ (getD_memI hk')
    have hfl := flat_le outI l k hk'
    have hsn := flat_snoc outI l k hk'
    have hs : (l.getD k default).script.length ≤ (outI (l.getD k default)).length := by simp only [outI, textI, List.length_append]; omega
    simp (config := {dsimp := false}) only [↓vp0, vz, vn, nq, tys, cellD, wideIR, if_true, if_false, implies_true, forall_const, ne_eq, reduceIte, reduceCtorEq, Nat.reduceEqDiff, Nat.reduceAdd, Nat.reduceMul, Nat.reduceLT, Nat.reduceSub, Nat.reduceLeDiff, Nat.reduceBNe, Nat.reduceBEq, Nat.reduceBeqDiff, List.range, List.range.loop, Try.ntmps27, Try.results27, vb, Int.toNat_natCast, g1, outD, spec_putOut, sp_putOut, c_putOut, b_putOut]
    refine ⟨by omega, by omega, by simp only [List.length_append]; omega, hx.value, by simp only [List.length_append]; omega, by omega, ⟨k + 1, by omega⟩, ⟨⟨wkD_eq ?_, rfl, wkD_eq rfl, rfl, wkD_eq rfl, rfl, wkD_eq ?_, rfl, wkD_eq rfl, rfl, trivial⟩, trivial, ⟨rfl, Nat.le_of_ble_eq_true rfl, ?_, Nat.le_of_ble_eq_true rfl, trivial⟩⟩, by (try simp only); omega⟩
    · exact some_i64 (by (try simp only); omega)
    · exact some_sli (by rw [hsn]; first | done | rfl | (simp only [List.append_assoc]; done) | (simp only [List.append_assoc]; rfl))
    · exact some_tok (by rw [hsn]; simp only [List.length_append, Nat.add_assoc]; try rfl)

  · have h := of_decide_eq_false h
    obtain rfl : k = l.length := by omega
    simp (config := {dsimp := false}) only [↓vp0, vz, vn, nq, tys, cellD, wideIR, if_true, if_false, implies_true, forall_const, ne_eq, reduceIte, reduceCtorEq, Nat.reduceEqDiff, Nat.reduceAdd, Nat.reduceMul, Nat.reduceLT, Nat.reduceSub, Nat.reduceLeDiff, Nat.reduceBNe, Nat.reduceBEq, Nat.reduceBeqDiff, List.range, List.range.loop, Try.ntmps27, Try.results27, retR, vb, List.take_length]
    refine ⟨0, 28, 6, _, _, ⟨rfl, ⟨by decide, by decide⟩, rfl, ⟨_, _, rfl, ?_⟩, rfl, [], [], [], ⟨rfl, rfl⟩, ⟨rfl, rfl⟩, ⟨by simp, by simp⟩, by simp, by simp [getAll, S.tok, look, reT], rfl, ⟨_, rfl, rfl⟩, ⟨_, rfl, rfl⟩, id rfl⟩⟩
    simp only [List.length_append]; omega
theorem c_layWit : Contract E 29 := by
  refine contract_boxR hE hgl (show E.P.funcs[29]? = some Try.f29 from Try.func29) rfl (p := (sp_layWit 30)) (fun _ _ _ => rfl) ?_
  intro args ds tv hv hdl htl
  unfold sp_layWit at hv ⊢
  split at hv
  case h_2 => exact hv.elim
  rename_i b es h n
  refine ⟨by simp, Nat.le_of_ble_eq_true rfl, ?_⟩
  obtain ⟨rfl, rfl, hne, ⟨l, rfl, hok, hl⟩, hlen⟩ := hv
  simp only [ts_slis] at hlen ⊢
  have e1 : IntKind.wrap .u64 (l.length : Int) = (l.length : Int) := IntWalk.u64_in _ (by omega)
  have hc := count_len (l.length : Int)
  simp only [List.length_append] at hlen
  simp (config := {dsimp := false}) only [↓vp0, vz, vn, nq, tys, cellD, wideIR, if_true, if_false, implies_true, forall_const, ne_eq, reduceIte, reduceCtorEq, Nat.reduceEqDiff, Nat.reduceAdd, Nat.reduceMul, Nat.reduceLT, Nat.reduceSub, Nat.reduceLeDiff, Nat.reduceBNe, Nat.reduceBEq, Nat.reduceBeqDiff, List.range, List.range.loop, Try.ntmps29, Try.results29, retR, vb, e1, spec_cput, sp_cput, c_cput, b_cput]
  refine ⟨.inr ⟨rfl, rfl, hne⟩, ⟨by omega, by omega⟩, by omega, ?_⟩
  refine loopI (Fin (l.length + 1)) (fun k => [(16, .int .i64 (k.1 : Nat)), (15, .int .i64 (l.length : Nat)), (14, .sl .no 1 (slis l)), (0, .sli (.tok 28) .u8 (b ++ (countI l.length ++ (l.take k.1).flatMap textI))), (2, .fn 30 [])]) (fun k => ⟨[], [(0, (b.length, 1)), (28, ((b ++ (countI l.length ++ (l.take k.1).flatMap textI)).length, 1))], 48⟩) (fun k => l.length - k.1) 0 (fun _ => rfl) ?_ ?_
  · refine ⟨⟨wkD_eq rfl, rfl, wkD_eq rfl, rfl, wkD_eq rfl, rfl, wkD_eq ?_, rfl, wkD_eq rfl, rfl, trivial⟩, trivial, ⟨rfl, Nat.le_of_ble_eq_true rfl, ?_, Nat.le_of_ble_eq_true rfl, trivial⟩⟩
    · exact some_sli (by simp)
    · exact some_tok (by simp)
  rintro ⟨k, hk⟩
  simp (config := {dsimp := false}) only [↓vp0, vz, vn, nq, tys, cellD, wideIR, if_true, if_false, implies_true, forall_const, ne_eq, reduceIte, reduceCtorEq, Nat.reduceEqDiff, Nat.reduceAdd, Nat.reduceMul, Nat.reduceLT, Nat.reduceSub, Nat.reduceLeDiff, Nat.reduceBNe, Nat.reduceBEq, Nat.reduceBeqDiff, List.range, List.range.loop, Try.ntmps29, Try.results29]
  refine ⟨fun h => ?_, fun h => ?_⟩
  · have h := of_decide_eq_true h
    have hk' : k < l.length := by omega
    have g1 := slis_get l k hk'
    have hx := hok _ (getD_mem hk')
    have hfl := flat_le textI l k hk'
    have hsn := flat_snoc textI l k hk'
    have hfl : ((l.take k).flatMap textI).length + (textI (l.getD k [])).length ≤ (l.flatMap textI).length := hfl
    have hsn : (l.take (k + 1)).flatMap textI = (l.take k).flatMap textI ++ textI (l.getD k []) := hsn
    have hs : (l.getD k []).length ≤ (textI (l.getD k [])).length := by simp only [textI, List.length_append]; omega
    simp (config := {dsimp := false}) only [↓vp0, vz, vn, nq, tys, cellD, wideIR, if_true, if_false, implies_true, forall_const, ne_eq, reduceIte, reduceCtorEq, Nat.reduceEqDiff, Nat.reduceAdd, Nat.reduceMul, Nat.reduceLT, Nat.reduceSub, Nat.reduceLeDiff, Nat.reduceBNe, Nat.reduceBEq, Nat.reduceBeqDiff, List.range, List.range.loop, Try.ntmps29, Try.results29, vb, Int.toNat_natCast, g1, spec_putText, sp_putText, c_putText, b_putText]
    refine ⟨by omega, by omega, by simp only [List.length_append]; omega, by simp only [List.length_append]; omega, by omega, ⟨k + 1, by omega⟩, ⟨⟨wkD_eq ?_, rfl, wkD_eq rfl, rfl, wkD_eq rfl, rfl, wkD_eq ?_, rfl, wkD_eq rfl, rfl, trivial⟩, trivial, ⟨rfl, Nat.le_of_ble_eq_true rfl, ?_, Nat.le_of_ble_eq_true rfl, trivial⟩⟩, by (try simp only); omega⟩
    · exact some_i64 (by (try simp only); omega)
    · exact some_sli (by rw [hsn]; first | done | rfl | (simp only [List.append_assoc]; done) | (simp only [List.append_assoc]; rfl))
    · exact some_tok (by rw [hsn]; simp only [List.length_append, Nat.add_assoc]; try rfl)

  · have h := of_decide_eq_false h
    obtain rfl : k = l.length := by omega
    simp (config := {dsimp := false}) only [↓vp0, vz, vn, nq, tys, cellD, wideIR, if_true, if_false, implies_true, forall_const, ne_eq, reduceIte, reduceCtorEq, Nat.reduceEqDiff, Nat.reduceAdd, Nat.reduceMul, Nat.reduceLT, Nat.reduceSub, Nat.reduceLeDiff, Nat.reduceBNe, Nat.reduceBEq, Nat.reduceBeqDiff, List.range, List.range.loop, Try.ntmps29, Try.results29, retR, vb, List.take_length]
    refine ⟨0, 28, 6, _, _, ⟨rfl, ⟨by decide, by decide⟩, rfl, ⟨_, _, rfl, ?_⟩, rfl, [], [], [], ⟨rfl, rfl⟩, ⟨rfl, rfl⟩, ⟨by simp, by simp⟩, by simp, by simp [getAll, S.tok, look, reT], rfl, ⟨_, rfl, rfl⟩, ⟨_, rfl, rfl⟩, id rfl⟩⟩
    simp only [List.length_append]; omega
end Go.Vi.T5
end

section
set_option linter.unusedVariables false
set_option linter.unusedSimpArgs false
set_option maxHeartbeats 0
set_option maxRecDepth 20000
namespace Go.Vi.T5
open Go.Proofs

theorem c_laid : Contract E 19 := by
  refine contract_boxT hE hgl (show E.P.funcs[19]? = some Try.f19 from Try.func19) rfl (p := sp_laid) (fun _ _ _ => rfl) ?_
  intro args ds tv hv hdl htl
  unfold sp_laid at hv ⊢
  split at hv
  case h_2 => exact hv.elim
  rename_i b v is os l full
  refine ⟨by simp, Nat.le_of_ble_eq_true rfl, ?_⟩
  obtain ⟨hok, hlen⟩ := hv
  obtain ⟨t, rfl, rfl, rfl, rfl, ht, -⟩ := okT_tx hok
  simp only [ins_D, outs_D] at hlen ⊢
  have hi : isInL (insD t.ins) := ⟨_, rfl, ht.ins, ht.mi⟩
  have ho : isOutL (outsD t.outs) := ⟨_, rfl, ht.outs, ht.mo⟩
  have u1 : IntKind.wrap .u64 t.ver = t.ver := IntWalk.u64_in _ (by have := ht.ver.1; have := ht.ver.2; omega)
  have u2 : IntKind.wrap .u64 t.lock = t.lock := IntWalk.u64_in _ (by have := ht.lock.1; have := ht.lock.2; omega)
  have hlay : layI ⟨t.ver, t.ins, t.outs, t.lock⟩ full = leI 4 t.ver ++ ((if full = true then [0, 1] else []) ++ ((countI t.ins.length ++ t.ins.flatMap inI) ++ ((countI t.outs.length ++ t.outs.flatMap outI) ++ ((if full = true then t.ins.flatMap witI else []) ++ leI 4 t.lock)))) := by
    simp only [layI, List.append_assoc]
  rw [hlay] at hlen ⊢
  simp only [List.length_append, leI_len] at hlen
  obtain ⟨X, hX⟩ : ∃ X : Bool → List Int, ∀ f, X f = leI 4 t.ver ++ ((if f = true then [0, 1] else []) ++ ((countI t.ins.length ++ t.ins.flatMap inI) ++ (countI t.outs.length ++ t.outs.flatMap outI))) := ⟨_, fun _ => rfl⟩
  have t4 : Int.toNat 4 = 4 := rfl
  cases full
  · have hf := hX false
    simp only [Bool.false_eq_true, if_false, List.nil_append, List.length_nil, List.length_cons] at hlen hf
    have hl2 := congrArg List.length hf
    simp only [List.length_append, leI_len, List.length_cons, List.length_nil] at hl2
    have hmi := ht.mi
    have hne : (b ++ X false).length ≠ 0 := by simp only [List.length_append]; omega
    simp (config := {dsimp := false}) only [↓vp0, vz, vn, nq, tys, cellD, wideIR, if_true, if_false, implies_true, forall_const, ne_eq, reduceIte, reduceCtorEq, Nat.reduceEqDiff, Nat.reduceAdd, Nat.reduceMul, Nat.reduceLT, Nat.reduceSub, Nat.reduceLeDiff, Nat.reduceBNe, Nat.reduceBEq, Nat.reduceBeqDiff, List.range, List.range.loop, Try.ntmps19, Try.results19, retB, vb, u1, spec_num, sp_num, c_num, b_num, spec_layIn, sp_layIn, c_layIn, b_layIn, spec_layOut, sp_layOut, c_layOut, b_layOut]
    refine ⟨.inl ⟨rfl, rfl⟩, .inl trivial, ht.ver.1, ht.ver.2, by omega, by simp [leI_len], by simp [leI_len], hi, by simp only [List.length_append, List.length_cons, List.length_nil, leI_len, t4]; omega, by simp [leI_len], ho, by simp only [List.length_append, List.length_cons, List.length_nil, leI_len, t4]; omega, ?_⟩
    refine loopI (Fin (t.ins.length + 1)) (fun k => [(29, .int .i64 (k.1 : Nat)), (28, .int .i64 (t.ins.length : Nat)), (27, .sl .no 36 (insD t.ins)), (0, .sli (.tok 32) .u8 (b ++ (X false ++ []))), (2, .bool false), (4, .bp 8 0)]) (fun k => ⟨[(8, .agg [.int .u32 t.ver, .sl .no 36 (insD t.ins), .sl .no 2 (outsD t.outs), .int .u32 t.lock])], [(32, ((b ++ (X false ++ [])).length, 1))], 100⟩) (fun k => t.ins.length - k.1) 0 (fun _ => rfl) ?_ ?_
    · refine ⟨⟨wkD_eq rfl, rfl, wkD_eq rfl, rfl, wkD_eq rfl, rfl, wkD_eq ?_, rfl, wkD_eq rfl, rfl, wkD_eq rfl, rfl, trivial⟩, ⟨rfl, Nat.le_of_ble_eq_true rfl, rfl, trivial⟩, ⟨?_, Nat.le_of_ble_eq_true rfl, trivial⟩⟩
      · exact some_sli (by rw [hf]; simp [t4])
      · exact some_tok (by rw [hf]; simp only [List.length_append, List.length_cons, List.length_nil, leI_len, t4, Fin.val_zero, List.take_zero, List.flatMap_nil]; omega)
    rintro ⟨k, hk⟩
    simp (config := {dsimp := false}) only [↓vp0, vz, vn, nq, tys, cellD, wideIR, if_true, if_false, implies_true, forall_const, ne_eq, reduceIte, reduceCtorEq, Nat.reduceEqDiff, Nat.reduceAdd, Nat.reduceMul, Nat.reduceLT, Nat.reduceSub, Nat.reduceLeDiff, Nat.reduceBNe, Nat.reduceBEq, Nat.reduceBeqDiff, List.range, List.range.loop, Try.ntmps19, Try.results19]
    refine ⟨fun h => ?_, fun h => ?_⟩
    · have h := of_decide_eq_true h
      have hk' : k < t.ins.length := by omega
      have g1 := insD_get t.ins k hk'
      simp (config := {dsimp := false}) only [↓vp0, vz, vn, nq, tys, cellD, wideIR, if_true, if_false, implies_true, forall_const, ne_eq, reduceIte, reduceCtorEq, Nat.reduceEqDiff, Nat.reduceAdd, Nat.reduceMul, Nat.reduceLT, Nat.reduceSub, Nat.reduceLeDiff, Nat.reduceBNe, Nat.reduceBEq, Nat.reduceBeqDiff, List.range, List.range.loop, Try.ntmps19, Try.results19, vb, Int.toNat_natCast, g1, inD]
      refine ⟨by omega, by omega, ⟨k + 1, by omega⟩, ⟨⟨wkD_eq ?_, rfl, wkD_eq rfl, rfl, wkD_eq rfl, rfl, wkD_eq rfl, rfl, wkD_eq rfl, rfl, wkD_eq rfl, rfl, trivial⟩, ⟨rfl, Nat.le_of_ble_eq_true rfl, rfl, trivial⟩, ⟨rfl, Nat.le_of_ble_eq_true rfl, trivial⟩⟩, by (try simp only); omega⟩
      · exact some_i64 (by (try simp only); omega)
    · have h := of_decide_eq_false h
      obtain rfl : k = t.ins.length := by omega
      simp (config := {dsimp := false}) only [↓vp0, vz, vn, nq, tys, cellD, wideIR, if_true, if_false, implies_true, forall_const, ne_eq, reduceIte, reduceCtorEq, Nat.reduceEqDiff, Nat.reduceAdd, Nat.reduceMul, Nat.reduceLT, Nat.reduceSub, Nat.reduceLeDiff, Nat.reduceBNe, Nat.reduceBEq, Nat.reduceBeqDiff, List.range, List.range.loop, Try.ntmps19, Try.results19, retB, vb, u2, List.take_length, spec_num, sp_num, c_num, b_num]
      refine ⟨.inr ⟨rfl, rfl, by simp only [List.length_append, List.length_nil] at hne ⊢; omega⟩, .inl trivial, ht.lock.1, ht.lock.2, by simp only [List.length_append, List.length_nil]; omega, ?_⟩
      exact ⟨[], [120], [], ⟨rfl, rfl⟩, ⟨rfl, rfl⟩, ⟨by simp, by simp⟩, by simp, rfl, (show some [(_, 1)] = some [(_, 1)] from congrArg (fun n => some [(n, 1)]) (by rw [hf]; simp only [List.length_append, List.length_cons, List.length_nil, leI_len, t4]; omega)), ⟨_, rfl, rfl⟩, ⟨_, rfl, rfl⟩, by rw [hf]; simp only [List.append_assoc, List.cons_append, List.nil_append]; rfl⟩
  · have hf := hX true
    simp only [if_true, List.nil_append, List.length_nil, List.length_cons] at hlen hf
    have hl2 := congrArg List.length hf
    simp only [List.length_append, leI_len, List.length_cons, List.length_nil] at hl2
    have hmi := ht.mi
    have hne : (b ++ X true).length ≠ 0 := by simp only [List.length_append]; omega
    simp (config := {dsimp := false}) only [↓vp0, vz, vn, nq, tys, cellD, wideIR, if_true, if_false, implies_true, forall_const, ne_eq, reduceIte, reduceCtorEq, Nat.reduceEqDiff, Nat.reduceAdd, Nat.reduceMul, Nat.reduceLT, Nat.reduceSub, Nat.reduceLeDiff, Nat.reduceBNe, Nat.reduceBEq, Nat.reduceBeqDiff, List.range, List.range.loop, Try.ntmps19, Try.results19, retB, vb, u1, spec_num, sp_num, c_num, b_num, spec_layIn, sp_layIn, c_layIn, b_layIn, spec_layOut, sp_layOut, c_layOut, b_layOut]
    refine ⟨.inl ⟨rfl, rfl⟩, .inl trivial, ht.ver.1, ht.ver.2, by omega, by simp [leI_len], by simp [leI_len] <;> omega, by simp [leI_len], by simp [leI_len], hi, by simp only [List.length_append, List.length_cons, List.length_nil, leI_len, t4]; omega, by simp [leI_len], ho, by simp only [List.length_append, List.length_cons, List.length_nil, leI_len, t4]; omega, ?_⟩
    refine loopI (Fin (t.ins.length + 1)) (fun k => [(29, .int .i64 (k.1 : Nat)), (28, .int .i64 (t.ins.length : Nat)), (27, .sl .no 36 (insD t.ins)), (0, .sli (.tok 32) .u8 (b ++ (X true ++ (t.ins.take k.1).flatMap witI))), (2, .bool true), (4, .bp 8 0)]) (fun k => ⟨[(8, .agg [.int .u32 t.ver, .sl .no 36 (insD t.ins), .sl .no 2 (outsD t.outs), .int .u32 t.lock])], [(32, ((b ++ (X true ++ (t.ins.take k.1).flatMap witI)).length, 1))], 116⟩) (fun k => t.ins.length - k.1) 0 (fun _ => rfl) ?_ ?_
    · refine ⟨⟨wkD_eq rfl, rfl, wkD_eq rfl, rfl, wkD_eq rfl, rfl, wkD_eq ?_, rfl, wkD_eq rfl, rfl, wkD_eq rfl, rfl, trivial⟩, ⟨rfl, Nat.le_of_ble_eq_true rfl, rfl, trivial⟩, ⟨?_, Nat.le_of_ble_eq_true rfl, trivial⟩⟩
      · exact some_sli (by rw [hf]; simp [t4])
      · exact some_tok (by rw [hf]; simp only [List.length_append, List.length_cons, List.length_nil, leI_len, t4, Fin.val_zero, List.take_zero, List.flatMap_nil]; omega)
    rintro ⟨k, hk⟩
    simp (config := {dsimp := false}) only [↓vp0, vz, vn, nq, tys, cellD, wideIR, if_true, if_false, implies_true, forall_const, ne_eq, reduceIte, reduceCtorEq, Nat.reduceEqDiff, Nat.reduceAdd, Nat.reduceMul, Nat.reduceLT, Nat.reduceSub, Nat.reduceLeDiff, Nat.reduceBNe, Nat.reduceBEq, Nat.reduceBeqDiff, List.range, List.range.loop, Try.ntmps19, Try.results19]
    refine ⟨fun h => ?_, fun h => ?_⟩
    · have h := of_decide_eq_true h
      have hk' : k < t.ins.length := by omega
      have g1 := insD_get t.ins k hk'
      have hx := ht.ins _ (getD_memI hk')
      have hw : isWitL (slis (t.ins.getD k default).wit) := ⟨_, rfl, hx.wit, hx.many⟩
      have hfl := flat_le witI t.ins k hk'
      have hsn := flat_snoc witI t.ins k hk'
      have hwl : (witI (t.ins.getD k default)).length = (countI (t.ins.getD k default).wit.length).length + ((t.ins.getD k default).wit.flatMap textI).length := by simp only [witI, List.length_append]
      have hwe : witI (t.ins.getD k default) = countI (t.ins.getD k default).wit.length ++ (t.ins.getD k default).wit.flatMap textI := rfl
      simp (config := {dsimp := false}) only [↓vp0, vz, vn, nq, tys, cellD, wideIR, if_true, if_false, implies_true, forall_const, ne_eq, reduceIte, reduceCtorEq, Nat.reduceEqDiff, Nat.reduceAdd, Nat.reduceMul, Nat.reduceLT, Nat.reduceSub, Nat.reduceLeDiff, Nat.reduceBNe, Nat.reduceBEq, Nat.reduceBeqDiff, List.range, List.range.loop, Try.ntmps19, Try.results19, vb, Int.toNat_natCast, g1, inD, spec_layWit, sp_layWit, c_layWit, b_layWit]
      refine ⟨by omega, by omega, by simp only [List.length_append] at hne ⊢; omega, hw, by simp only [List.length_append]; omega, ⟨k + 1, by omega⟩, ⟨⟨wkD_eq ?_, rfl, wkD_eq rfl, rfl, wkD_eq rfl, rfl, wkD_eq ?_, rfl, wkD_eq rfl, rfl, wkD_eq rfl, rfl, trivial⟩, ⟨rfl, Nat.le_of_ble_eq_true rfl, rfl, trivial⟩, ⟨?_, Nat.le_of_ble_eq_true rfl, trivial⟩⟩, by (try simp only); omega⟩
      · exact some_i64 (by (try simp only); omega)
      · exact some_sli (by rw [hsn, hwe])
      · exact some_tok (by rw [hsn, hwe])
    · have h := of_decide_eq_false h
      obtain rfl : k = t.ins.length := by omega
      simp (config := {dsimp := false}) only [↓vp0, vz, vn, nq, tys, cellD, wideIR, if_true, if_false, implies_true, forall_const, ne_eq, reduceIte, reduceCtorEq, Nat.reduceEqDiff, Nat.reduceAdd, Nat.reduceMul, Nat.reduceLT, Nat.reduceSub, Nat.reduceLeDiff, Nat.reduceBNe, Nat.reduceBEq, Nat.reduceBeqDiff, List.range, List.range.loop, Try.ntmps19, Try.results19, retB, vb, u2, List.take_length, spec_num, sp_num, c_num, b_num]
      refine ⟨.inr ⟨rfl, rfl, by simp only [List.length_append, List.length_nil] at hne ⊢; omega⟩, .inl trivial, ht.lock.1, ht.lock.2, by simp only [List.length_append, List.length_nil]; omega, ?_⟩
      exact ⟨[], [136], [], ⟨rfl, rfl⟩, ⟨rfl, rfl⟩, ⟨by simp, by simp⟩, by simp, rfl, (show some [(_, 1)] = some [(_, 1)] from congrArg (fun n => some [(n, 1)]) (by rw [hf]; simp only [List.length_append, List.length_cons, List.length_nil, leI_len, t4]; omega)), ⟨_, rfl, rfl⟩, ⟨_, rfl, rfl⟩, by rw [hf]; simp only [List.append_assoc, List.cons_append, List.nil_append]; rfl⟩
end Go.Vi.T5
end

section
set_option linter.unusedVariables false
set_option linter.unusedSimpArgs false
set_option maxHeartbeats 0
set_option maxRecDepth 20000
namespace Go.Vi.T5
open Go.Proofs

theorem c_w1 : Contract E 32 := by
  refine contract_seeT hE hgl (show E.P.funcs[32]? = some Try.f32 from Try.func32) rfl (p := sp_w1) (fun _ _ _ => rfl) ?_
  intro args hv
  unfold sp_w1 at hv ⊢
  split at hv
  case h_2 => exact hv.elim
  rename_i p i s q w
  refine ⟨by simp, Nat.le_of_ble_eq_true rfl, ?_⟩
  simp (config := {dsimp := false}) only [↓vp0, vz, vn, nq, tys, cellD, wideIR, if_true, if_false, implies_true, forall_const, ne_eq, reduceIte, reduceCtorEq, Nat.reduceEqDiff, Nat.reduceAdd, Nat.reduceMul, Nat.reduceLT, Nat.reduceSub, Nat.reduceLeDiff, Nat.reduceBNe, Nat.reduceBEq, Nat.reduceBeqDiff, List.range, List.range.loop, Try.ntmps32, Try.results32]
  simp only [givesIf]
  congr 2
  exact propext (by omega)
theorem c_in1 : Contract E 34 := by
  refine contract_seeT hE hgl (show E.P.funcs[34]? = some Try.f34 from Try.func34) rfl (p := sp_in1) (fun _ _ _ => rfl) ?_
  intro args hv
  unfold sp_in1 at hv ⊢
  split at hv
  case h_2 => exact hv.elim
  rename_i s
  refine ⟨by simp, Nat.le_of_ble_eq_true rfl, ?_⟩
  simp (config := {dsimp := false}) only [↓vp0, vz, vn, nq, tys, cellD, wideIR, if_true, if_false, implies_true, forall_const, ne_eq, reduceIte, reduceCtorEq, Nat.reduceEqDiff, Nat.reduceAdd, Nat.reduceMul, Nat.reduceLT, Nat.reduceSub, Nat.reduceLeDiff, Nat.reduceBNe, Nat.reduceBEq, Nat.reduceBeqDiff, List.range, List.range.loop, Try.ntmps34, Try.results34]
  simp only [givesIf, longW]
  congr 2
  exact propext (by omega)
theorem c_tmany : Contract E 21 := by
  refine contract_seeT hE hgl (show E.P.funcs[21]? = some Try.f21 from Try.func21) rfl (p := sp_tmany) (fun _ _ _ => rfl) ?_
  intro args hv
  unfold sp_tmany at hv ⊢
  split at hv
  case h_2 => exact hv.elim
  rename_i n m
  refine ⟨by simp, Nat.le_of_ble_eq_true rfl, ?_⟩
  simp (config := {dsimp := false}) only [↓vp0, vz, vn, nq, tys, cellD, wideIR, if_true, if_false, implies_true, forall_const, ne_eq, reduceIte, reduceCtorEq, Nat.reduceEqDiff, Nat.reduceAdd, Nat.reduceMul, Nat.reduceLT, Nat.reduceSub, Nat.reduceLeDiff, Nat.reduceBNe, Nat.reduceBEq, Nat.reduceBeqDiff, List.range, List.range.loop, Try.ntmps21, Try.results21]
  simp only [gives, manyP, decide_eq_true_eq, decide_eq_false_iff_not]
  refine ⟨fun h => by rw [if_pos h], fun h => ⟨fun h2 => by rw [if_neg h, if_pos h2], fun h2 => by rw [if_neg h, if_neg h2]⟩⟩
theorem c_tout : Contract E 23 := by
  refine contract_seeT hE hgl (show E.P.funcs[23]? = some Try.f23 from Try.func23) rfl (p := sp_tout) (fun _ _ _ => rfl) ?_
  intro args hv
  unfold sp_tout at hv ⊢
  split at hv
  case h_2 => exact hv.elim
  rename_i v s
  refine ⟨by simp, Nat.le_of_ble_eq_true rfl, ?_⟩
  simp (config := {dsimp := false}) only [↓vp0, vz, vn, nq, tys, cellD, wideIR, if_true, if_false, implies_true, forall_const, ne_eq, reduceIte, reduceCtorEq, Nat.reduceEqDiff, Nat.reduceAdd, Nat.reduceMul, Nat.reduceLT, Nat.reduceSub, Nat.reduceLeDiff, Nat.reduceBNe, Nat.reduceBEq, Nat.reduceBeqDiff, List.range, List.range.loop, Try.ntmps23, Try.results23]
  simp only [givesIf]
  congr 2
  exact propext (by omega)
theorem idx_go {α : Type} [Inhabited α] (p : α → Bool) (l : List α) : (∀ k, k < l.length → (∀ j, j < k → p (l.getD j default) = false) → p (l.getD k default) = true → idxP p l = (k : Int)) ∧ ((∀ j, j < l.length → p (l.getD j default) = false) → idxP p l = -1) := by
  have hg : ∀ (i : Nat) (h : i < l.length), l.getD i default = l[i] := fun i h => by simp [List.getD, h]
  refine ⟨fun k hk hb hp => ?_, fun hb => ?_⟩
  · have : l.findIdx? p = some k := by
      rw [List.findIdx?_eq_some_iff_getElem]
      refine ⟨hk, by rw [← hg k hk]; exact hp, fun j hj => ?_⟩
      rw [← hg j (by omega), hb j hj]; decide
    simp only [idxP, this]
  · have : l.findIdx? p = none := by
      rw [List.findIdx?_eq_none_iff]
      intro x hx
      obtain ⟨i, h1, rfl⟩ := List.getElem_of_mem hx
      rw [← hg i h1]
      exact hb i h1
    simp only [idxP, this]
theorem idx_any {α : Type} (p : α → Bool) (l : List α) : decide (0 ≤ idxP p l) = l.any p := by
  cases h : l.findIdx? p with
  | none =>
    have h2 := List.findIdx?_eq_none_iff.1 h
    simp only [idxP, h]
    have : l.any p = false := List.any_eq_false.2 fun x hx => by rw [h2 x hx]; decide
    rw [this]; rfl
  | some k =>
    obtain ⟨h1, h2, _⟩ := List.findIdx?_eq_some_iff_getElem.1 h
    simp only [idxP, h]
    have : l.any p = true := List.any_eq_true.2 ⟨_, List.getElem_mem h1, h2⟩
    rw [this]; simp
theorem c_indexIn : Contract E 37 := by
  refine contract_seeT hE hgl (show E.P.funcs[37]? = some Try.f37 from Try.func37) rfl (p := (sp_indexIn 32)) (fun _ _ _ => rfl) ?_
  intro args hv
  unfold sp_indexIn at hv ⊢
  split at hv
  case h_2 => exact hv.elim
  rename_i es h
  refine ⟨by simp, Nat.le_of_ble_eq_true rfl, ?_⟩
  simp only [givesIf] at hv
  obtain ⟨rfl, l, rfl, hok, hl⟩ := hv
  obtain ⟨hI1, hI2⟩ := idx_go hasWit l
  simp (config := {dsimp := false}) only [↓vp0, vz, vn, nq, tys, cellD, wideIR, if_true, if_false, implies_true, forall_const, ne_eq, reduceIte, reduceCtorEq, Nat.reduceEqDiff, Nat.reduceAdd, Nat.reduceMul, Nat.reduceLT, Nat.reduceSub, Nat.reduceLeDiff, Nat.reduceBNe, Nat.reduceBEq, Nat.reduceBeqDiff, List.range, List.range.loop, Try.ntmps37, Try.results37]
  refine loopI {k : Nat // k ≤ l.length ∧ ∀ j, j < k → hasWit (l.getD j default) = false} (fun k => [(8, .int .i64 (k.1 : Nat)), (7, .int .i64 (l.length : Nat)), (0, .sl .no 36 (insD l)), (1, .fn 32 [])]) (fun _ => ⟨[], [], 16⟩) (fun k => l.length - k.1) ⟨0, by simp⟩ (fun _ => rfl) ?_ ?_
  · exact ⟨⟨wkD_eq rfl, rfl, wkD_eq rfl, rfl, wkD_eq rfl, rfl, wkD_eq rfl, rfl, trivial⟩, trivial, trivial⟩
  rintro ⟨k, hk, hb⟩
  simp (config := {dsimp := false}) only [↓vp0, vz, vn, nq, tys, cellD, wideIR, if_true, if_false, implies_true, forall_const, ne_eq, reduceIte, reduceCtorEq, Nat.reduceEqDiff, Nat.reduceAdd, Nat.reduceMul, Nat.reduceLT, Nat.reduceSub, Nat.reduceLeDiff, Nat.reduceBNe, Nat.reduceBEq, Nat.reduceBeqDiff, List.range, List.range.loop, Try.ntmps37, Try.results37]
  refine ⟨fun hh => ?_, fun hh => ?_⟩
  · have hh := of_decide_eq_true hh
    have hk' : k < l.length := by omega
    have g1 := insD_get l k hk'
    have hx := hok _ (getD_memI hk')
    cases hp : hasWit (l.getD k default)
    · have hq : decide (0 < (l.getD k default).wit.length) = false := hp
      simp (config := {dsimp := false}) only [↓vp0, vz, vn, nq, tys, cellD, wideIR, if_true, if_false, implies_true, forall_const, ne_eq, reduceIte, reduceCtorEq, Nat.reduceEqDiff, Nat.reduceAdd, Nat.reduceMul, Nat.reduceLT, Nat.reduceSub, Nat.reduceLeDiff, Nat.reduceBNe, Nat.reduceBEq, Nat.reduceBeqDiff, List.range, List.range.loop, Try.ntmps37, Try.results37, PF.toR, givesIf, Int.toNat_natCast, g1, inD, hq, spec_w1, sp_w1, c_w1, b_w1]
      refine ⟨by omega, by omega, hx.many, ⟨k + 1, by omega, fun j hj => ?_⟩, ⟨⟨wkD_eq ?_, rfl, wkD_eq rfl, rfl, wkD_eq rfl, rfl, wkD_eq rfl, rfl, trivial⟩, trivial, trivial⟩, by (try simp only); omega⟩
      · rcases Nat.lt_or_ge j k with h7 | h7
        · exact hb j h7
        · obtain rfl : j = k := by omega
          exact hp
      · exact some_i64 (by (try simp only); omega)
    · have hq : decide (0 < (l.getD k default).wit.length) = true := hp
      simp (config := {dsimp := false}) only [↓vp0, vz, vn, nq, tys, cellD, wideIR, if_true, if_false, implies_true, forall_const, ne_eq, reduceIte, reduceCtorEq, Nat.reduceEqDiff, Nat.reduceAdd, Nat.reduceMul, Nat.reduceLT, Nat.reduceSub, Nat.reduceLeDiff, Nat.reduceBNe, Nat.reduceBEq, Nat.reduceBeqDiff, List.range, List.range.loop, Try.ntmps37, Try.results37, PF.toR, givesIf, Int.toNat_natCast, g1, inD, hq, ins_D, hI1 k hk' hb hp, spec_w1, sp_w1, c_w1, b_w1]
      exact ⟨by omega, by omega, hx.many⟩
  · have hh := of_decide_eq_false hh
    obtain rfl : k = l.length := by omega
    simp (config := {dsimp := false}) only [↓vp0, vz, vn, nq, tys, cellD, wideIR, if_true, if_false, implies_true, forall_const, ne_eq, reduceIte, reduceCtorEq, Nat.reduceEqDiff, Nat.reduceAdd, Nat.reduceMul, Nat.reduceLT, Nat.reduceSub, Nat.reduceLeDiff, Nat.reduceBNe, Nat.reduceBEq, Nat.reduceBeqDiff, List.range, List.range.loop, Try.ntmps37, Try.results37, givesIf, ins_D, hI2 hb]
    all_goals rfl
theorem c_containsIn : Contract E 31 := by
  refine contract_seeT hE hgl (show E.P.funcs[31]? = some Try.f31 from Try.func31) rfl (p := (sp_containsIn 32)) (fun _ _ _ => rfl) ?_
  intro args hv
  unfold sp_containsIn at hv ⊢
  split at hv
  case h_2 => exact hv.elim
  rename_i es h
  refine ⟨by simp, Nat.le_of_ble_eq_true rfl, ?_⟩
  simp only [givesIf] at hv
  obtain ⟨rfl, l, rfl, hok, hl⟩ := hv
  simp (config := {dsimp := false}) only [↓vp0, vz, vn, nq, tys, cellD, wideIR, if_true, if_false, implies_true, forall_const, ne_eq, reduceIte, reduceCtorEq, Nat.reduceEqDiff, Nat.reduceAdd, Nat.reduceMul, Nat.reduceLT, Nat.reduceSub, Nat.reduceLeDiff, Nat.reduceBNe, Nat.reduceBEq, Nat.reduceBeqDiff, List.range, List.range.loop, Try.ntmps31, Try.results31, PF.toR, givesIf, ins_D, idx_any, spec_indexIn, sp_indexIn, c_indexIn, b_indexIn]
  exact ⟨_, rfl, hok, hl⟩
theorem c_twitnessed : Contract E 20 := by
  refine contract_seeT hE hgl (show E.P.funcs[20]? = some Try.f20 from Try.func20) rfl (p := sp_twitnessed) (fun _ _ _ => rfl) ?_
  intro args hv
  unfold sp_twitnessed at hv ⊢
  split at hv
  case h_2 => exact hv.elim
  rename_i v is os l
  refine ⟨by simp, Nat.le_of_ble_eq_true rfl, ?_⟩
  simp only [givesIf] at hv
  obtain ⟨t, rfl, rfl, rfl, rfl, ht, -⟩ := okT_tx hv
  simp (config := {dsimp := false}) only [↓vp0, vz, vn, nq, tys, cellD, wideIR, if_true, if_false, implies_true, forall_const, ne_eq, reduceIte, reduceCtorEq, Nat.reduceEqDiff, Nat.reduceAdd, Nat.reduceMul, Nat.reduceLT, Nat.reduceSub, Nat.reduceLeDiff, Nat.reduceBNe, Nat.reduceBEq, Nat.reduceBeqDiff, List.range, List.range.loop, Try.ntmps20, Try.results20, PF.toR, givesIf, spec_containsIn, sp_containsIn, c_containsIn, b_containsIn]
  exact ⟨_, rfl, ht.ins, ht.mi⟩
theorem c_indexB : Contract E 38 := by
  refine contract_seeT hE hgl (show E.P.funcs[38]? = some Try.f38 from Try.func38) rfl (p := (sp_indexB 34)) (fun _ _ _ => rfl) ?_
  intro args hv
  unfold sp_indexB at hv ⊢
  split at hv
  case h_2 => exact hv.elim
  rename_i es h
  refine ⟨by simp, Nat.le_of_ble_eq_true rfl, ?_⟩
  simp only [givesIf] at hv
  obtain ⟨rfl, l, rfl, hok, hl⟩ := hv
  obtain ⟨hI1, hI2⟩ := idx_go longW l
  simp (config := {dsimp := false}) only [↓vp0, vz, vn, nq, tys, cellD, wideIR, if_true, if_false, implies_true, forall_const, ne_eq, reduceIte, reduceCtorEq, Nat.reduceEqDiff, Nat.reduceAdd, Nat.reduceMul, Nat.reduceLT, Nat.reduceSub, Nat.reduceLeDiff, Nat.reduceBNe, Nat.reduceBEq, Nat.reduceBeqDiff, List.range, List.range.loop, Try.ntmps38, Try.results38]
  refine loopI {k : Nat // k ≤ l.length ∧ ∀ j, j < k → longW (l.getD j default) = false} (fun k => [(8, .int .i64 (k.1 : Nat)), (7, .int .i64 (l.length : Nat)), (0, .sl .no 1 (slis l)), (1, .fn 34 [])]) (fun _ => ⟨[], [], 16⟩) (fun k => l.length - k.1) ⟨0, by simp⟩ (fun _ => rfl) ?_ ?_
  · exact ⟨⟨wkD_eq rfl, rfl, wkD_eq rfl, rfl, wkD_eq rfl, rfl, wkD_eq rfl, rfl, trivial⟩, trivial, trivial⟩
  rintro ⟨k, hk, hb⟩
  simp (config := {dsimp := false}) only [↓vp0, vz, vn, nq, tys, cellD, wideIR, if_true, if_false, implies_true, forall_const, ne_eq, reduceIte, reduceCtorEq, Nat.reduceEqDiff, Nat.reduceAdd, Nat.reduceMul, Nat.reduceLT, Nat.reduceSub, Nat.reduceLeDiff, Nat.reduceBNe, Nat.reduceBEq, Nat.reduceBeqDiff, List.range, List.range.loop, Try.ntmps38, Try.results38]
  refine ⟨fun hh => ?_, fun hh => ?_⟩
  · have hh := of_decide_eq_true hh
    have hk' : k < l.length := by omega
    have g1 : (slis l).getD k .any = .sli .no .u8 (l.getD k default) := slis_get l k hk'
    have hx := hok _ (getD_memI hk')
    cases hp : longW (l.getD k default)
    · have hq : longW (l.getD k default) = false := hp
      simp (config := {dsimp := false}) only [↓vp0, vz, vn, nq, tys, cellD, wideIR, if_true, if_false, implies_true, forall_const, ne_eq, reduceIte, reduceCtorEq, Nat.reduceEqDiff, Nat.reduceAdd, Nat.reduceMul, Nat.reduceLT, Nat.reduceSub, Nat.reduceLeDiff, Nat.reduceBNe, Nat.reduceBEq, Nat.reduceBeqDiff, List.range, List.range.loop, Try.ntmps38, Try.results38, PF.toR, givesIf, Int.toNat_natCast, g1, hq, spec_in1, sp_in1, c_in1, b_in1]
      refine ⟨by omega, by omega, hx.2, ⟨k + 1, by omega, fun j hj => ?_⟩, ⟨⟨wkD_eq ?_, rfl, wkD_eq rfl, rfl, wkD_eq rfl, rfl, wkD_eq rfl, rfl, trivial⟩, trivial, trivial⟩, by (try simp only); omega⟩
      · rcases Nat.lt_or_ge j k with h7 | h7
        · exact hb j h7
        · obtain rfl : j = k := by omega
          exact hp
      · exact some_i64 (by (try simp only); omega)
    · have hq : longW (l.getD k default) = true := hp
      simp (config := {dsimp := false}) only [↓vp0, vz, vn, nq, tys, cellD, wideIR, if_true, if_false, implies_true, forall_const, ne_eq, reduceIte, reduceCtorEq, Nat.reduceEqDiff, Nat.reduceAdd, Nat.reduceMul, Nat.reduceLT, Nat.reduceSub, Nat.reduceLeDiff, Nat.reduceBNe, Nat.reduceBEq, Nat.reduceBeqDiff, List.range, List.range.loop, Try.ntmps38, Try.results38, PF.toR, givesIf, Int.toNat_natCast, g1, hq, ts_slis, hI1 k hk' hb hp, spec_in1, sp_in1, c_in1, b_in1]
      exact ⟨by omega, by omega, hx.2⟩
  · have hh := of_decide_eq_false hh
    obtain rfl : k = l.length := by omega
    simp (config := {dsimp := false}) only [↓vp0, vz, vn, nq, tys, cellD, wideIR, if_true, if_false, implies_true, forall_const, ne_eq, reduceIte, reduceCtorEq, Nat.reduceEqDiff, Nat.reduceAdd, Nat.reduceMul, Nat.reduceLT, Nat.reduceSub, Nat.reduceLeDiff, Nat.reduceBNe, Nat.reduceBEq, Nat.reduceBeqDiff, List.range, List.range.loop, Try.ntmps38, Try.results38, givesIf, ts_slis, hI2 hb]
    all_goals rfl
theorem c_containsB : Contract E 33 := by
  refine contract_seeT hE hgl (show E.P.funcs[33]? = some Try.f33 from Try.func33) rfl (p := (sp_containsB 34)) (fun _ _ _ => rfl) ?_
  intro args hv
  unfold sp_containsB at hv ⊢
  split at hv
  case h_2 => exact hv.elim
  rename_i es h
  refine ⟨by simp, Nat.le_of_ble_eq_true rfl, ?_⟩
  simp only [givesIf] at hv
  obtain ⟨rfl, l, rfl, hok, hl⟩ := hv
  simp (config := {dsimp := false}) only [↓vp0, vz, vn, nq, tys, cellD, wideIR, if_true, if_false, implies_true, forall_const, ne_eq, reduceIte, reduceCtorEq, Nat.reduceEqDiff, Nat.reduceAdd, Nat.reduceMul, Nat.reduceLT, Nat.reduceSub, Nat.reduceLeDiff, Nat.reduceBNe, Nat.reduceBEq, Nat.reduceBeqDiff, List.range, List.range.loop, Try.ntmps33, Try.results33, PF.toR, givesIf, ts_slis, idx_any, spec_indexB, sp_indexB, c_indexB, b_indexB]
  exact ⟨_, rfl, hok, hl⟩
theorem c_tin : Contract E 22 := by
  refine contract_seeT hE hgl (show E.P.funcs[22]? = some Try.f22 from Try.func22) rfl (p := sp_tin) (fun _ _ _ => rfl) ?_
  intro args hv
  unfold sp_tin at hv ⊢
  split at hv
  case h_2 => exact hv.elim
  rename_i p i s q w
  refine ⟨by simp, Nat.le_of_ble_eq_true rfl, ?_⟩
  simp only [givesIf] at hv
  obtain ⟨⟨l, rfl, hok, hl⟩, hs⟩ := hv
  have d1 : decide ((s.length : Int) ≤ 128) = decide (s.length ≤ 128) := by congr 1; exact propext (by omega)
  have d2 : decide ((l.length : Int) ≤ 8) = decide (l.length ≤ 8) := by congr 1; exact propext (by omega)
  have hw : isWitL (slis l) := ⟨_, rfl, hok, hl⟩
  cases h1 : decide (s.length ≤ 128) <;> cases h2 : decide (l.length ≤ 8)
  all_goals simp (config := {dsimp := false}) only [↓vp0, vz, vn, nq, tys, cellD, wideIR, if_true, if_false, implies_true, forall_const, ne_eq, reduceIte, reduceCtorEq, Nat.reduceEqDiff, Nat.reduceAdd, Nat.reduceMul, Nat.reduceLT, Nat.reduceSub, Nat.reduceLeDiff, Nat.reduceBNe, Nat.reduceBEq, Nat.reduceBeqDiff, List.range, List.range.loop, Try.ntmps22, Try.results22, PF.toR, givesIf, d1, d2, h1, h2, spec_containsB, sp_containsB, c_containsB, b_containsB]
  exact hw
theorem check_1 {t : TxP} (h : ¬ manyP t.ins.length 16 = 0) : checkP t = manyP t.ins.length 16 := by unfold checkP; rw [if_pos h]
theorem check_2 {t : TxP} (h : manyP t.ins.length 16 = 0) (h2 : ¬ manyP t.outs.length 16 = 0) : checkP t = manyP t.outs.length 16 := by unfold checkP; rw [if_neg (by simp [h]), if_pos h2]
theorem check_3 {t : TxP} (h : manyP t.ins.length 16 = 0) (h2 : manyP t.outs.length 16 = 0) {x : InP} (hx : x ∈ t.ins) (hb : inOkP x = false) : checkP t = 3 := by
  unfold checkP
  rw [if_neg (by simp [h]), if_neg (by simp [h2]), if_pos (List.all_eq_false.2 ⟨x, hx, by rw [hb]; decide⟩)]
theorem check_4 {t : TxP} (h : manyP t.ins.length 16 = 0) (h2 : manyP t.outs.length 16 = 0) (hi : ∀ j, j < t.ins.length → inOkP (t.ins.getD j default) = true) {x : OutP} (hx : x ∈ t.outs) (hb : outOkP x = false) : checkP t = 3 := by
  unfold checkP
  rw [if_neg (by simp [h]), if_neg (by simp [h2]), if_neg, if_pos (List.all_eq_false.2 ⟨x, hx, by rw [hb]; decide⟩)]
  rw [List.all_eq_true.2 fun x hx => by
    obtain ⟨i, h1, rfl⟩ := List.getElem_of_mem hx
    have := hi i h1
    simpa [List.getD, h1] using this]
  decide
theorem check_5 {t : TxP} (h : manyP t.ins.length 16 = 0) (h2 : manyP t.outs.length 16 = 0) (hi : ∀ j, j < t.ins.length → inOkP (t.ins.getD j default) = true) (ho : ∀ j, j < t.outs.length → outOkP (t.outs.getD j default) = true) : checkP t = 0 := by
  unfold checkP
  rw [if_neg (by simp [h]), if_neg (by simp [h2]), if_neg, if_neg]
  · rw [List.all_eq_true.2 fun x hx => by
      obtain ⟨i, h1, rfl⟩ := List.getElem_of_mem hx
      have := ho i h1
      simpa [List.getD, h1] using this]
    decide
  · rw [List.all_eq_true.2 fun x hx => by
      obtain ⟨i, h1, rfl⟩ := List.getElem_of_mem hx
      have := hi i h1
      simpa [List.getD, h1] using this]
    decide
theorem c_tcheck : Contract E 18 := by
  refine contract_seeT hE hgl (show E.P.funcs[18]? = some Try.f18 from Try.func18) rfl (p := sp_tcheck) (fun _ _ _ => rfl) ?_
  intro args hv
  unfold sp_tcheck at hv ⊢
  split at hv
  case h_2 => exact hv.elim
  rename_i v is os l
  refine ⟨by simp, Nat.le_of_ble_eq_true rfl, ?_⟩
  simp only [givesIf] at hv
  obtain ⟨t, rfl, rfl, rfl, rfl, ht, he⟩ := okT_tx hv
  have hmi := ht.mi
  have hmo := ht.mo
  have eta : (⟨t.ver, t.ins, t.outs, t.lock⟩ : TxP) = t := rfl
  by_cases h1 : manyP t.ins.length 16 = 0
  case neg => simp (config := {dsimp := false}) only [↓vp0, vz, vn, nq, tys, cellD, wideIR, if_true, if_false, implies_true, forall_const, ne_eq, reduceIte, reduceCtorEq, Nat.reduceEqDiff, Nat.reduceAdd, Nat.reduceMul, Nat.reduceLT, Nat.reduceSub, Nat.reduceLeDiff, Nat.reduceBNe, Nat.reduceBEq, Nat.reduceBeqDiff, List.range, List.range.loop, Try.ntmps18, Try.results18, PF.toR, givesIf, gives, h1, decide_false, eta, check_1 h1, spec_tmany, sp_tmany, c_tmany, b_tmany]
  by_cases h2 : manyP t.outs.length 16 = 0
  case neg => simp (config := {dsimp := false}) only [↓vp0, vz, vn, nq, tys, cellD, wideIR, if_true, if_false, implies_true, forall_const, ne_eq, reduceIte, reduceCtorEq, Nat.reduceEqDiff, Nat.reduceAdd, Nat.reduceMul, Nat.reduceLT, Nat.reduceSub, Nat.reduceLeDiff, Nat.reduceBNe, Nat.reduceBEq, Nat.reduceBeqDiff, List.range, List.range.loop, Try.ntmps18, Try.results18, PF.toR, givesIf, gives, h1, h2, eq_self, decide_true, decide_false, eta, check_2 h1 h2, spec_tmany, sp_tmany, c_tmany, b_tmany]
  simp (config := {dsimp := false}) only [↓vp0, vz, vn, nq, tys, cellD, wideIR, if_true, if_false, implies_true, forall_const, ne_eq, reduceIte, reduceCtorEq, Nat.reduceEqDiff, Nat.reduceAdd, Nat.reduceMul, Nat.reduceLT, Nat.reduceSub, Nat.reduceLeDiff, Nat.reduceBNe, Nat.reduceBEq, Nat.reduceBeqDiff, List.range, List.range.loop, Try.ntmps18, Try.results18, PF.toR, givesIf, gives, h1, h2, eq_self, decide_true, eta, spec_tmany, sp_tmany, c_tmany, b_tmany]
  refine loopI {k : Nat // k ≤ t.ins.length ∧ ∀ j, j < k → inOkP (t.ins.getD j default) = true} (fun k => [(26, .int .i64 (k.1 : Nat)), (25, .int .i64 (t.ins.length : Nat)), (24, .sl .no 36 (insD t.ins)), (1, .bp 0 0)]) (fun _ => ⟨[(0, .agg [.int .u32 t.ver, .sl .no 36 (insD t.ins), .sl .no 2 (outsD t.outs), .int .u32 t.lock])], [], 80⟩) (fun k => t.ins.length - k.1) ⟨0, by simp⟩ (fun _ => rfl) ?_ ?_
  · exact ⟨⟨wkD_eq rfl, rfl, wkD_eq rfl, rfl, wkD_eq rfl, rfl, wkD_eq rfl, rfl, trivial⟩, ⟨rfl, Nat.le_of_ble_eq_true rfl, rfl, trivial⟩, trivial⟩
  rintro ⟨k, hk, hb⟩
  simp (config := {dsimp := false}) only [↓vp0, vz, vn, nq, tys, cellD, wideIR, if_true, if_false, implies_true, forall_const, ne_eq, reduceIte, reduceCtorEq, Nat.reduceEqDiff, Nat.reduceAdd, Nat.reduceMul, Nat.reduceLT, Nat.reduceSub, Nat.reduceLeDiff, Nat.reduceBNe, Nat.reduceBEq, Nat.reduceBeqDiff, List.range, List.range.loop, Try.ntmps18, Try.results18]
  refine ⟨fun hh => ?_, fun hh => ?_⟩
  · have hh := of_decide_eq_true hh
    have hk' : k < t.ins.length := by omega
    have g1 := insD_get t.ins k hk'
    have hx := ht.ins _ (getD_memI hk')
    have hw : isWitL (slis (t.ins.getD k default).wit) := ⟨_, rfl, hx.wit, hx.many⟩
    cases hp : inOkP (t.ins.getD k default)
    · have hq : (decide ((t.ins.getD k default).script.length ≤ 128) && (decide ((t.ins.getD k default).wit.length ≤ 8) && !(t.ins.getD k default).wit.any longW)) = false := hp
      simp (config := {dsimp := false}) only [↓vp0, vz, vn, nq, tys, cellD, wideIR, if_true, if_false, implies_true, forall_const, ne_eq, reduceIte, reduceCtorEq, Nat.reduceEqDiff, Nat.reduceAdd, Nat.reduceMul, Nat.reduceLT, Nat.reduceSub, Nat.reduceLeDiff, Nat.reduceBNe, Nat.reduceBEq, Nat.reduceBeqDiff, List.range, List.range.loop, Try.ntmps18, Try.results18, PF.toR, givesIf, Int.toNat_natCast, g1, inD, hq, check_3 h1 h2 (getD_memI hk') hp, spec_tin, sp_tin, c_tin, b_tin]
      exact ⟨by omega, by omega, hw, hx.script.2⟩
    · have hq : (decide ((t.ins.getD k default).script.length ≤ 128) && (decide ((t.ins.getD k default).wit.length ≤ 8) && !(t.ins.getD k default).wit.any longW)) = true := hp
      simp (config := {dsimp := false}) only [↓vp0, vz, vn, nq, tys, cellD, wideIR, if_true, if_false, implies_true, forall_const, ne_eq, reduceIte, reduceCtorEq, Nat.reduceEqDiff, Nat.reduceAdd, Nat.reduceMul, Nat.reduceLT, Nat.reduceSub, Nat.reduceLeDiff, Nat.reduceBNe, Nat.reduceBEq, Nat.reduceBeqDiff, List.range, List.range.loop, Try.ntmps18, Try.results18, PF.toR, givesIf, Int.toNat_natCast, g1, inD, hq, spec_tin, sp_tin, c_tin, b_tin]
      refine ⟨by omega, by omega, hw, hx.script.2, ⟨k + 1, by omega, fun j hj => ?_⟩, ⟨⟨wkD_eq ?_, rfl, wkD_eq rfl, rfl, wkD_eq rfl, rfl, wkD_eq rfl, rfl, trivial⟩, ⟨rfl, Nat.le_of_ble_eq_true rfl, rfl, trivial⟩, trivial⟩, by (try simp only); omega⟩
      · rcases Nat.lt_or_ge j k with h7 | h7
        · exact hb j h7
        · obtain rfl : j = k := by omega
          exact hp
      · exact some_i64 (by (try simp only); omega)
  have hh := of_decide_eq_false hh
  obtain rfl : k = t.ins.length := by omega
  have hbi := hb
  refine loopI {k : Nat // k ≤ t.outs.length ∧ ∀ j, j < k → outOkP (t.outs.getD j default) = true} (fun k => [(37, .int .i64 (k.1 : Nat)), (36, .int .i64 (t.outs.length : Nat)), (35, .sl .no 2 (outsD t.outs)), (1, .bp 0 0)]) (fun _ => ⟨[(0, .agg [.int .u32 t.ver, .sl .no 36 (insD t.ins), .sl .no 2 (outsD t.outs), .int .u32 t.lock])], [], 100⟩) (fun k => t.outs.length - k.1) ⟨0, by simp⟩ (fun _ => rfl) ?_ ?_
  · exact ⟨⟨wkD_eq rfl, rfl, wkD_eq rfl, rfl, wkD_eq rfl, rfl, wkD_eq rfl, rfl, trivial⟩, ⟨rfl, Nat.le_of_ble_eq_true rfl, rfl, trivial⟩, trivial⟩
  rintro ⟨k, hk, hb⟩
  simp (config := {dsimp := false}) only [↓vp0, vz, vn, nq, tys, cellD, wideIR, if_true, if_false, implies_true, forall_const, ne_eq, reduceIte, reduceCtorEq, Nat.reduceEqDiff, Nat.reduceAdd, Nat.reduceMul, Nat.reduceLT, Nat.reduceSub, Nat.reduceLeDiff, Nat.reduceBNe, Nat.reduceBEq, Nat.reduceBeqDiff, List.range, List.range.loop, Try.ntmps18, Try.results18]
  refine ⟨fun hh => ?_, fun hh => ?_⟩
  · have hh := of_decide_eq_true hh
    have hk' : k < t.outs.length := by omega
    have g1 := outsD_get t.outs k hk'
    have hx := ht.outs _ (getD_memI hk')
    skip
    cases hp : outOkP (t.outs.getD k default)
    · have hq : decide ((t.outs.getD k default).script.length ≤ 128) = false := hp
      simp (config := {dsimp := false}) only [↓vp0, vz, vn, nq, tys, cellD, wideIR, if_true, if_false, implies_true, forall_const, ne_eq, reduceIte, reduceCtorEq, Nat.reduceEqDiff, Nat.reduceAdd, Nat.reduceMul, Nat.reduceLT, Nat.reduceSub, Nat.reduceLeDiff, Nat.reduceBNe, Nat.reduceBEq, Nat.reduceBeqDiff, List.range, List.range.loop, Try.ntmps18, Try.results18, PF.toR, givesIf, Int.toNat_natCast, g1, outD, hq, check_4 h1 h2 hbi (getD_memI hk') hp, spec_tout, sp_tout, c_tout, b_tout]
      exact ⟨by omega, by omega, hx.script.2⟩
    · have hq : decide ((t.outs.getD k default).script.length ≤ 128) = true := hp
      simp (config := {dsimp := false}) only [↓vp0, vz, vn, nq, tys, cellD, wideIR, if_true, if_false, implies_true, forall_const, ne_eq, reduceIte, reduceCtorEq, Nat.reduceEqDiff, Nat.reduceAdd, Nat.reduceMul, Nat.reduceLT, Nat.reduceSub, Nat.reduceLeDiff, Nat.reduceBNe, Nat.reduceBEq, Nat.reduceBeqDiff, List.range, List.range.loop, Try.ntmps18, Try.results18, PF.toR, givesIf, Int.toNat_natCast, g1, outD, hq, spec_tout, sp_tout, c_tout, b_tout]
      refine ⟨by omega, by omega, hx.script.2, ⟨k + 1, by omega, fun j hj => ?_⟩, ⟨⟨wkD_eq ?_, rfl, wkD_eq rfl, rfl, wkD_eq rfl, rfl, wkD_eq rfl, rfl, trivial⟩, ⟨rfl, Nat.le_of_ble_eq_true rfl, rfl, trivial⟩, trivial⟩, by (try simp only); omega⟩
      · rcases Nat.lt_or_ge j k with h7 | h7
        · exact hb j h7
        · obtain rfl : j = k := by omega
          exact hp
      · exact some_i64 (by (try simp only); omega)
  have hh := of_decide_eq_false hh
  obtain rfl : k = t.outs.length := by omega
  simp (config := {dsimp := false}) only [↓vp0, vz, vn, nq, tys, cellD, wideIR, if_true, if_false, implies_true, forall_const, ne_eq, reduceIte, reduceCtorEq, Nat.reduceEqDiff, Nat.reduceAdd, Nat.reduceMul, Nat.reduceLT, Nat.reduceSub, Nat.reduceLeDiff, Nat.reduceBNe, Nat.reduceBEq, Nat.reduceBeqDiff, List.range, List.range.loop, Try.ntmps18, Try.results18, check_5 h1 h2 hbi hb]
  all_goals rfl
end Go.Vi.T5
end

section
set_option linter.unusedVariables false
set_option linter.unusedSimpArgs false
set_option maxHeartbeats 0
set_option maxRecDepth 20000
namespace Go.Vi.T5
open Go.Proofs

theorem put_0 {b : List Int} {t : TxP} {f : Bool} (h : checkP t = 0) : putV b t f = .tup [.sli .no .u8 (b ++ layI t f), .int .i64 0] := if_pos h
theorem put_e {b : List Int} {t : TxP} {f : Bool} (h : ¬ checkP t = 0) : putV b t f = .tup [.sl .full 0 [], .int .i64 (checkP t)] := if_neg h
theorem c_tput : Contract E 8 := by
  refine contract_seeT hE hgl (show E.P.funcs[8]? = some Try.f8 from Try.func8) rfl (p := sp_tput) (fun _ _ _ => rfl) ?_
  intro args hv
  unfold sp_tput at hv ⊢
  split at hv
  case h_2 => exact hv.elim
  rename_i b v is os l
  refine ⟨by simp, Nat.le_of_ble_eq_true rfl, ?_⟩
  simp only [givesIf] at hv
  obtain ⟨hok, hb⟩ := hv
  obtain ⟨t, rfl, rfl, rfl, rfl, ht, -⟩ := okT_tx hok
  have eta : (⟨t.ver, t.ins, t.outs, t.lock⟩ : TxP) = t := rfl
  have hc : okT t.ver (insD t.ins) (outsD t.outs) t.lock := hok
  obtain ⟨W, hW⟩ : ∃ W, witnessedP t = W := ⟨_, rfl⟩
  have hW' : t.ins.any hasWit = W := hW
  by_cases h : checkP t = 0
  · have hlen := lay_len ht h W
    have hd : decide (checkP t = 0) = true := decide_eq_true h
    simp (config := {dsimp := false}) only [↓vp0, vz, vn, nq, tys, cellD, wideIR, if_true, if_false, implies_true, forall_const, ne_eq, reduceIte, reduceCtorEq, Nat.reduceEqDiff, Nat.reduceAdd, Nat.reduceMul, Nat.reduceLT, Nat.reduceSub, Nat.reduceLeDiff, Nat.reduceBNe, Nat.reduceBEq, Nat.reduceBeqDiff, List.range, List.range.loop, Try.ntmps8, Try.results8, PF.toR, givesIf, eta, hd, hW, put_0 h, spec_tcheck, sp_tcheck, c_tcheck, b_tcheck]
    refine ⟨hc, ?_⟩
    refine drawX [0, 3] [] [] (by kernel_rfl) (wild_of rfl) ?_
    simp (config := {dsimp := false}) only [↓vp0, vz, vn, nq, tys, cellD, wideIR, if_true, if_false, implies_true, forall_const, ne_eq, reduceIte, reduceCtorEq, Nat.reduceEqDiff, Nat.reduceAdd, Nat.reduceMul, Nat.reduceLT, Nat.reduceSub, Nat.reduceLeDiff, Nat.reduceBNe, Nat.reduceBEq, Nat.reduceBeqDiff, List.range, List.range.loop, Try.ntmps8, Try.results8, vb, ↓vy0, vx0, PF.toR, givesIf, eta, hW', spec_twitnessed, sp_twitnessed, c_twitnessed, b_twitnessed, spec_laid, sp_laid, c_laid, b_laid]
    refine ⟨hc, hc, by simp only [List.length_append]; omega, okUps_all rfl (by kernel_rfl), ?_⟩
    rw [hW, put_0 h]
  · have hd : decide (checkP t = 0) = false := decide_eq_false h
    simp (config := {dsimp := false}) only [↓vp0, vz, vn, nq, tys, cellD, wideIR, if_true, if_false, implies_true, forall_const, ne_eq, reduceIte, reduceCtorEq, Nat.reduceEqDiff, Nat.reduceAdd, Nat.reduceMul, Nat.reduceLT, Nat.reduceSub, Nat.reduceLeDiff, Nat.reduceBNe, Nat.reduceBEq, Nat.reduceBeqDiff, List.range, List.range.loop, Try.ntmps8, Try.results8, PF.toR, givesIf, eta, hd, put_e h, spec_tcheck, sp_tcheck, c_tcheck, b_tcheck]
    exact hc
theorem hashes_get (f : Bool) (l : List TxP) (k : Nat) (h : k < l.length) : (hashesP f l).take (k + 1) = (hashesP f l).take k ++ [if f = true then (if k = 0 then List.replicate 32 0 else fullP (l.getD k default)) else idP (l.getD k default)] := by
  rw [List.take_add_one]
  simp [hashesP, h]
end Go.Vi.T5
end

section
set_option linter.unusedVariables false
set_option linter.unusedSimpArgs false
set_option maxHeartbeats 0
set_option maxRecDepth 20000
namespace Go.Vi.T5
open Go.Proofs

theorem c_tawake : Contract E 5 := by
  refine contract_seeT hE hgl (show E.P.funcs[5]? = some Try.f5 from Try.func5) rfl (p := sp_tawake) (fun _ _ _ => rfl) ?_
  intro args hv
  unfold sp_tawake at hv ⊢
  split at hv
  case h_2 => exact hv.elim
  refine ⟨by simp, Nat.le_of_ble_eq_true rfl, ?_⟩
  obtain ⟨L, hp, l1, s1, s2⟩ : ∃ L, putV [] ⟨1, ins [D.agg [D.agg [D.arr .u8 32 (List.replicate 32 0), D.int .u32 0], D.sli .no .u8 [], D.int .u32 5, D.sl .no 1 []]], outs [D.agg [D.int .i64 7, D.sli .no .u8 [81]]], 9⟩ (witnessedP ⟨1, ins [D.agg [D.agg [D.arr .u8 32 (List.replicate 32 0), D.int .u32 0], D.sli .no .u8 [], D.int .u32 5, D.sl .no 1 []]], outs [D.agg [D.int .i64 7, D.sli .no .u8 [81]]], 9⟩) = .tup [.sli .no .u8 L, .int .i64 0] ∧ L.length = 61 ∧ strOfNums (List.drop (Int.toNat 0) (List.take (Int.toNat 5) L)) = ⟨#[1, 0, 0, 0, 1]⟩ ∧ strOfNums (List.drop (Int.toNat 46) (List.take (Int.toNat 58) L)) = ⟨#[1, 7, 0, 0, 0, 0, 0, 0, 0, 1, 81, 9]⟩ :=
    ⟨layI givenP false, by kernel_rfl, by kernel_rfl, by kernel_rfl, by kernel_rfl⟩
  obtain ⟨M, hm, m1, s3⟩ : ∃ L, putV [] ⟨1, ins [D.agg [D.agg [D.arr .u8 32 (List.replicate 32 0), D.int .u32 0], D.sli .no .u8 [], D.int .u32 5, D.sl .no 1 [D.sli .no .u8 [170]]]], outs [D.agg [D.int .i64 7, D.sli .no .u8 [81]]], 9⟩ (witnessedP ⟨1, ins [D.agg [D.agg [D.arr .u8 32 (List.replicate 32 0), D.int .u32 0], D.sli .no .u8 [], D.int .u32 5, D.sl .no 1 [D.sli .no .u8 [170]]]], outs [D.agg [D.int .i64 7, D.sli .no .u8 [81]]], 9⟩) = .tup [.sli .no .u8 L, .int .i64 0] ∧ L.length = 66 ∧ strOfNums (List.drop (Int.toNat 4) (List.take (Int.toNat 7) L)) = ⟨#[0, 1, 1]⟩ :=
    ⟨layI witnP true, by kernel_rfl, by kernel_rfl, by kernel_rfl⟩
  simp (config := {dsimp := false}) only [↓vp0, vz, vn, nq, tys, cellD, wideIR, if_true, if_false, implies_true, forall_const, ne_eq, reduceIte, reduceCtorEq, Nat.reduceEqDiff, Nat.reduceAdd, Nat.reduceMul, Nat.reduceLT, Nat.reduceSub, Nat.reduceLeDiff, Nat.reduceBNe, Nat.reduceBEq, Nat.reduceBeqDiff, List.range, List.range.loop, Try.ntmps5, Try.results5, PF.toR, gives, givesIf, givenD, witnD, hp, hm, l1, m1, spec_given, sp_given, c_given, b_given, spec_witn, sp_witn, c_witn, b_witn, spec_tput, sp_tput, c_tput, b_tput]
  refine ⟨tx_okT given_ok, tx_okT witn_ok, ?_⟩
  replace s1 : strOfNums (List.take 5 L) = ⟨#[1, 0, 0, 0, 1]⟩ := s1
  replace s2 : strOfNums (List.drop 46 (List.take 58 L)) = ⟨#[1, 7, 0, 0, 0, 0, 0, 0, 0, 1, 81, 9]⟩ := s2
  replace s3 : strOfNums (List.drop 4 (List.take 7 M)) = ⟨#[0, 1, 1]⟩ := s3
  simp [s1, s2, s3]
end Go.Vi.T5
end

section
set_option linter.unusedVariables false
set_option linter.unusedSimpArgs false
set_option maxHeartbeats 0
set_option maxRecDepth 20000
namespace Go.Vi.T5
open Go.Proofs

theorem c_rSame : Contract E 7 := by
  refine contract_seeT hE hgl (show E.P.funcs[7]? = some Try.f7 from Try.func7) rfl (p := sp_sameTx) (fun _ _ _ => rfl) ?_
  intro args hv
  unfold sp_sameTx at hv ⊢
  split at hv
  case h_2 => exact hv.elim
  rename_i v is os l v' is' os' l'
  refine ⟨by simp, Nat.le_of_ble_eq_true rfl, ?_⟩
  simp only [givesIf] at hv
  obtain ⟨hv1, hv2⟩ := hv
  obtain ⟨t, rfl, rfl, rfl, rfl, ht, e1⟩ := okT_tx hv1
  obtain ⟨u, rfl, rfl, rfl, rfl, hu, e2⟩ := okT_tx hv2
  rw [e1, e2]
  have hti := ht.mi
  have hto := ht.mo
  have hui := hu.mi
  have huo := hu.mo
  have hr : sameTx t u = ((decide (t.ver = u.ver) && decide (t.lock = u.lock)) && (sameL sameIn t.ins u.ins && sameL sameOut t.outs u.outs)) := rfl
  by_cases h3 : t.ins.length = u.ins.length
  case neg =>
    have d3 : decide (((t.ins.length : Nat) : Int) = ((u.ins.length : Nat) : Int)) = false := decide_eq_false (by omega)
    have hs : sameTx t u = false := by rw [hr, sameL_len h3]; simp
    cases h1 : decide (t.ver = u.ver) <;> cases h2 : decide (t.lock = u.lock)
    all_goals simp (config := {dsimp := false}) only [↓vp0, vz, vn, nq, tys, cellD, wideIR, if_true, if_false, implies_true, forall_const, ne_eq, reduceIte, reduceCtorEq, Nat.reduceEqDiff, Nat.reduceAdd, Nat.reduceMul, Nat.reduceLT, Nat.reduceSub, Nat.reduceLeDiff, Nat.reduceBNe, Nat.reduceBEq, Nat.reduceBeqDiff, List.range, List.range.loop, Try.ntmps7, Try.results7, h1, h2, d3, hs, givesIf]
    all_goals rfl
  have d3 : decide (((t.ins.length : Nat) : Int) = ((u.ins.length : Nat) : Int)) = true := decide_eq_true (by omega)
  by_cases h4 : t.outs.length = u.outs.length
  case neg =>
    have d4 : decide (((t.outs.length : Nat) : Int) = ((u.outs.length : Nat) : Int)) = false := decide_eq_false (by omega)
    have hs : sameTx t u = false := by rw [hr, sameL_len h4]; simp
    cases h1 : decide (t.ver = u.ver) <;> cases h2 : decide (t.lock = u.lock)
    all_goals simp (config := {dsimp := false}) only [↓vp0, vz, vn, nq, tys, cellD, wideIR, if_true, if_false, implies_true, forall_const, ne_eq, reduceIte, reduceCtorEq, Nat.reduceEqDiff, Nat.reduceAdd, Nat.reduceMul, Nat.reduceLT, Nat.reduceSub, Nat.reduceLeDiff, Nat.reduceBNe, Nat.reduceBEq, Nat.reduceBeqDiff, List.range, List.range.loop, Try.ntmps7, Try.results7, h1, h2, d3, d4, hs, givesIf]
    all_goals rfl
  have d4 : decide (((t.outs.length : Nat) : Int) = ((u.outs.length : Nat) : Int)) = true := decide_eq_true (by omega)
  cases h1 : decide (t.ver = u.ver)
  case false =>
    have hs : sameTx t u = false := by rw [hr, h1]; rfl
    simp (config := {dsimp := false}) only [↓vp0, vz, vn, nq, tys, cellD, wideIR, if_true, if_false, implies_true, forall_const, ne_eq, reduceIte, reduceCtorEq, Nat.reduceEqDiff, Nat.reduceAdd, Nat.reduceMul, Nat.reduceLT, Nat.reduceSub, Nat.reduceLeDiff, Nat.reduceBNe, Nat.reduceBEq, Nat.reduceBeqDiff, List.range, List.range.loop, Try.ntmps7, Try.results7, h1, hs, givesIf]
    all_goals rfl
  cases h2 : decide (t.lock = u.lock)
  case false =>
    have hs : sameTx t u = false := by rw [hr, h1, h2]; rfl
    simp (config := {dsimp := false}) only [↓vp0, vz, vn, nq, tys, cellD, wideIR, if_true, if_false, implies_true, forall_const, ne_eq, reduceIte, reduceCtorEq, Nat.reduceEqDiff, Nat.reduceAdd, Nat.reduceMul, Nat.reduceLT, Nat.reduceSub, Nat.reduceLeDiff, Nat.reduceBNe, Nat.reduceBEq, Nat.reduceBeqDiff, List.range, List.range.loop, Try.ntmps7, Try.results7, h1, h2, hs, givesIf]
    all_goals rfl
  rw [h1, h2] at hr
  simp only [Bool.true_and] at hr
  simp (config := {dsimp := false}) only [↓vp0, vz, vn, nq, tys, cellD, wideIR, if_true, if_false, implies_true, forall_const, ne_eq, reduceIte, reduceCtorEq, Nat.reduceEqDiff, Nat.reduceAdd, Nat.reduceMul, Nat.reduceLT, Nat.reduceSub, Nat.reduceLeDiff, Nat.reduceBNe, Nat.reduceBEq, Nat.reduceBeqDiff, List.range, List.range.loop, Try.ntmps7, Try.results7, h1, h2, d3, d4]
  refine loopI {k : Nat // k ≤ t.ins.length ∧ ∀ j, j < k → sameIn (t.ins.getD j default) (u.ins.getD j default) = true} (fun k => [(5, .int .i64 (k.1 : Nat)), (3, .bp 4 0), (2, .bp 0 0)]) (fun _ => ⟨[(4, .agg [.int .u32 u.ver, .sl .no 36 (insD u.ins), .sl .no 2 (outsD u.outs), .int .u32 u.lock]), (0, .agg [.int .u32 t.ver, .sl .no 36 (insD t.ins), .sl .no 2 (outsD t.outs), .int .u32 t.lock])], [], 136⟩) (fun k => t.ins.length - k.1) ⟨0, by simp⟩ (fun _ => rfl) ?_ ?_
  · exact ⟨⟨wkD_eq rfl, rfl, wkD_eq rfl, rfl, wkD_eq rfl, rfl, trivial⟩, ⟨rfl, Nat.le_of_ble_eq_true rfl, rfl, rfl, Nat.le_of_ble_eq_true rfl, rfl, trivial⟩, trivial⟩
  rintro ⟨k, hk, hb⟩
  simp (config := {dsimp := false}) only [↓vp0, vz, vn, nq, tys, cellD, wideIR, if_true, if_false, implies_true, forall_const, ne_eq, reduceIte, reduceCtorEq, Nat.reduceEqDiff, Nat.reduceAdd, Nat.reduceMul, Nat.reduceLT, Nat.reduceSub, Nat.reduceLeDiff, Nat.reduceBNe, Nat.reduceBEq, Nat.reduceBeqDiff, List.range, List.range.loop, Try.ntmps7, Try.results7]
  refine ⟨fun hh => ?_, fun hh => ?_⟩
  · have hh := of_decide_eq_true hh
    have hk' : k < t.ins.length := by omega
    have hk2 : k < u.ins.length := by omega
    have g1 := insD_get t.ins k hk'
    have g2 := insD_get u.ins k hk2
    have hx := ht.ins _ (getD_memI hk')
    have hy := hu.ins _ (getD_memI hk2)
    generalize hxe : t.ins.getD k default = x at *
    generalize hye : u.ins.getD k default = y at *
    refine drawX [2, 3, 5] [(10, [0, 1, 2, 3, 4, 5, 6, 7, 8, 9, 11]), (11, [0, 1, 2, 3, 4, 5, 6, 7, 8, 9, 10]), (12, [5, 6, 7, 8, 9])] [(12, [196])] (by kernel_rfl) (wild_of rfl) ?_
    have he : eqFs E (eqB E 7) 0 [(0, 31), (32, 22)] [D.arr IntKind.u8 32 x.prev, D.int IntKind.u32 x.ix] [D.arr IntKind.u8 32 y.prev, D.int IntKind.u32 y.ix] = some (decide (x.prev = y.prev) && decide (x.ix = y.ix)) := by
      simp [eqFs, eqB, D.size, tsize, known, E, tyC]
    have hq : sameIn x y = ((decide (x.prev = y.prev) && decide (x.ix = y.ix)) && (decide (x.seq = y.seq) && (eqS x.script y.script && sameL eqS x.wit y.wit))) := rfl
    have hno : sameIn x y = false → sameTx t u = false := fun h => by rw [hr, sameL_no hk' (by rw [hxe, hye]; exact h)]; rfl
    cases c1 : (decide (x.prev = y.prev) && decide (x.ix = y.ix))
    case false =>
      rw [c1] at he hq
      have hs := hno (by rw [hq]; rfl)
      simp (config := {dsimp := false}) only [↓vp0, vz, vn, nq, tys, cellD, wideIR, if_true, if_false, implies_true, forall_const, ne_eq, reduceIte, reduceCtorEq, Nat.reduceEqDiff, Nat.reduceAdd, Nat.reduceMul, Nat.reduceLT, Nat.reduceSub, Nat.reduceLeDiff, Nat.reduceBNe, Nat.reduceBEq, Nat.reduceBeqDiff, List.range, List.range.loop, Try.ntmps7, Try.results7, vb, ↓vy0, vx0, PF.toR, gives, givesIf, Int.toNat_natCast, g1, g2, inD, he, hs]
      exact ⟨by omega, by omega, by omega, by omega, okUps_of (by kernel_rfl) rfl, okUps_of (by kernel_rfl) rfl, okUps_of (by kernel_rfl) rfl, okUps_all rfl (by kernel_rfl)⟩
    rw [c1] at he hq
    cases c3 : decide (x.seq = y.seq)
    case false =>
      rw [c3] at hq
      have hs := hno (by rw [hq]; rfl)
      simp (config := {dsimp := false}) only [↓vp0, vz, vn, nq, tys, cellD, wideIR, if_true, if_false, implies_true, forall_const, ne_eq, reduceIte, reduceCtorEq, Nat.reduceEqDiff, Nat.reduceAdd, Nat.reduceMul, Nat.reduceLT, Nat.reduceSub, Nat.reduceLeDiff, Nat.reduceBNe, Nat.reduceBEq, Nat.reduceBeqDiff, List.range, List.range.loop, Try.ntmps7, Try.results7, vb, ↓vy0, vx0, PF.toR, gives, givesIf, Int.toNat_natCast, g1, g2, inD, he, c3, hs]
      exact ⟨by omega, by omega, by omega, by omega, okUps_of (by kernel_rfl) rfl, okUps_of (by kernel_rfl) rfl, okUps_of (by kernel_rfl) rfl, okUps_all rfl (by kernel_rfl)⟩
    rw [c3] at hq
    cases c4 : eqS x.script y.script
    case false =>
      rw [c4] at hq
      have hs := hno (by rw [hq]; rfl)
      simp (config := {dsimp := false}) only [↓vp0, vz, vn, nq, tys, cellD, wideIR, if_true, if_false, implies_true, forall_const, ne_eq, reduceIte, reduceCtorEq, Nat.reduceEqDiff, Nat.reduceAdd, Nat.reduceMul, Nat.reduceLT, Nat.reduceSub, Nat.reduceLeDiff, Nat.reduceBNe, Nat.reduceBEq, Nat.reduceBeqDiff, List.range, List.range.loop, Try.ntmps7, Try.results7, vb, ↓vy0, vx0, PF.toR, gives, givesIf, Int.toNat_natCast, g1, g2, inD, he, c3, c4, hs, spec_rsame, sp_eqS, c_rsame, b_rsame]
      exact ⟨by omega, by omega, by omega, by omega, okUps_of (by kernel_rfl) rfl, okUps_of (by kernel_rfl) rfl, okUps_of (by kernel_rfl) rfl, okUps_all rfl (by kernel_rfl), hx.script, hy.script⟩
    rw [c4] at hq
    simp only [Bool.true_and] at hq
    have hmx := hx.many
    have hmy := hy.many
    by_cases c5 : x.wit.length = y.wit.length
    case neg =>
      have d5 : decide (((x.wit.length : Nat) : Int) = ((y.wit.length : Nat) : Int)) = false := decide_eq_false (by omega)
      have hs := hno (by rw [hq, sameL_len c5])
      simp (config := {dsimp := false}) only [↓vp0, vz, vn, nq, tys, cellD, wideIR, if_true, if_false, implies_true, forall_const, ne_eq, reduceIte, reduceCtorEq, Nat.reduceEqDiff, Nat.reduceAdd, Nat.reduceMul, Nat.reduceLT, Nat.reduceSub, Nat.reduceLeDiff, Nat.reduceBNe, Nat.reduceBEq, Nat.reduceBeqDiff, List.range, List.range.loop, Try.ntmps7, Try.results7, vb, ↓vy0, vx0, PF.toR, gives, givesIf, Int.toNat_natCast, g1, g2, inD, he, c3, c4, d5, hs, spec_rsame, sp_eqS, c_rsame, b_rsame]
      exact ⟨by omega, by omega, by omega, by omega, okUps_of (by kernel_rfl) rfl, okUps_of (by kernel_rfl) rfl, okUps_of (by kernel_rfl) rfl, okUps_all rfl (by kernel_rfl), hx.script, hy.script⟩
    have d5 : decide (((x.wit.length : Nat) : Int) = ((y.wit.length : Nat) : Int)) = true := decide_eq_true (by omega)
    simp (config := {dsimp := false}) only [↓vp0, vz, vn, nq, tys, cellD, wideIR, if_true, if_false, implies_true, forall_const, ne_eq, reduceIte, reduceCtorEq, Nat.reduceEqDiff, Nat.reduceAdd, Nat.reduceMul, Nat.reduceLT, Nat.reduceSub, Nat.reduceLeDiff, Nat.reduceBNe, Nat.reduceBEq, Nat.reduceBeqDiff, List.range, List.range.loop, Try.ntmps7, Try.results7, vb, ↓vy0, vx0, PF.toR, gives, givesIf, Int.toNat_natCast, g1, g2, inD, he, c3, c4, d5, spec_rsame, sp_eqS, c_rsame, b_rsame]
    refine ⟨by omega, by omega, by omega, by omega, okUps_of (by kernel_rfl) rfl, okUps_of (by kernel_rfl) rfl, okUps_of (by kernel_rfl) rfl, okUps_all rfl (by kernel_rfl), hx.script, hy.script, ?_⟩
    refine loopI {q : Nat // q ≤ x.wit.length ∧ ∀ j, j < q → eqS (x.wit.getD j default) (y.wit.getD j default) = true} (fun q => [(8, .int .i64 (q.1 : Nat)), (7, .bp 200 0), (6, .bp 196 0), (5, .int .i64 (k : Nat)), (3, .bp 4 0), (2, .bp 0 0)]) (fun _ => ⟨[(200, .agg [.agg [.arr .u8 32 y.prev, .int .u32 y.ix], .sli .no .u8 y.script, .int .u32 y.seq, .sl .no 1 (slis y.wit)]), (196, .agg [.agg [.arr .u8 32 x.prev, .int .u32 x.ix], .sli .no .u8 x.script, .int .u32 x.seq, .sl .no 1 (slis x.wit)]), (4, .agg [.int .u32 u.ver, .sl .no 36 (insD u.ins), .sl .no 2 (outsD u.outs), .int .u32 u.lock]), (0, .agg [.int .u32 t.ver, .sl .no 36 (insD t.ins), .sl .no 2 (outsD t.outs), .int .u32 t.lock])], [], 332⟩) (fun q => x.wit.length - q.1) ⟨0, by simp⟩ (fun _ => rfl) ?_ ?_
    · exact ⟨⟨wkD_eq rfl, rfl, wkD_eq rfl, rfl, wkD_eq rfl, rfl, wkD_eq rfl, rfl, wkD_eq rfl, rfl, wkD_eq rfl, rfl, trivial⟩, ⟨rfl, Nat.le_of_ble_eq_true rfl, rfl, rfl, Nat.le_of_ble_eq_true rfl, rfl, rfl, Nat.le_of_ble_eq_true rfl, rfl, rfl, Nat.le_of_ble_eq_true rfl, rfl, trivial⟩, trivial⟩
    rintro ⟨q, hq', hbq⟩
    simp (config := {dsimp := false}) only [↓vp0, vz, vn, nq, tys, cellD, wideIR, if_true, if_false, implies_true, forall_const, ne_eq, reduceIte, reduceCtorEq, Nat.reduceEqDiff, Nat.reduceAdd, Nat.reduceMul, Nat.reduceLT, Nat.reduceSub, Nat.reduceLeDiff, Nat.reduceBNe, Nat.reduceBEq, Nat.reduceBeqDiff, List.range, List.range.loop, Try.ntmps7, Try.results7]
    refine ⟨fun hh3 => ?_, fun hh3 => ?_⟩
    · have hh3 := of_decide_eq_true hh3
      have hq1 : q < x.wit.length := by omega
      have hq2 : q < y.wit.length := by omega
      have g3 : (slis x.wit).getD q .any = .sli .no .u8 (x.wit.getD q default) := slis_get _ q hq1
      have g4 : (slis y.wit).getD q .any = .sli .no .u8 (y.wit.getD q default) := slis_get _ q hq2
      have hwx := hx.wit _ (getD_memI hq1)
      have hwy := hy.wit _ (getD_memI hq2)
      refine drawI [2, 3, 5, 6, 7, 8] (by kernel_rfl) ?_
      cases hp : eqS (x.wit.getD q default) (y.wit.getD q default)
      · have hp' : eqS (x.wit.getD q []) (y.wit.getD q []) = false := hp
        have hs := hno (by rw [hq, sameL_no hq1 hp])
        simp (config := {dsimp := false}) only [↓vp0, vz, vn, nq, tys, cellD, wideIR, if_true, if_false, implies_true, forall_const, ne_eq, reduceIte, reduceCtorEq, Nat.reduceEqDiff, Nat.reduceAdd, Nat.reduceMul, Nat.reduceLT, Nat.reduceSub, Nat.reduceLeDiff, Nat.reduceBNe, Nat.reduceBEq, Nat.reduceBeqDiff, List.range, List.range.loop, Try.ntmps7, Try.results7, PF.toR, givesIf, Int.toNat_natCast, g3, g4, hp, hp', hs, spec_rsame, sp_eqS, c_rsame, b_rsame]
        exact ⟨by omega, by omega, by omega, by omega, hwx, hwy⟩
      · have hp' : eqS (x.wit.getD q []) (y.wit.getD q []) = true := hp
        simp (config := {dsimp := false}) only [↓vp0, vz, vn, nq, tys, cellD, wideIR, if_true, if_false, implies_true, forall_const, ne_eq, reduceIte, reduceCtorEq, Nat.reduceEqDiff, Nat.reduceAdd, Nat.reduceMul, Nat.reduceLT, Nat.reduceSub, Nat.reduceLeDiff, Nat.reduceBNe, Nat.reduceBEq, Nat.reduceBeqDiff, List.range, List.range.loop, Try.ntmps7, Try.results7, PF.toR, givesIf, Int.toNat_natCast, g3, g4, hp, hp', spec_rsame, sp_eqS, c_rsame, b_rsame]
        refine ⟨by omega, by omega, by omega, by omega, hwx, hwy, ⟨q + 1, by omega, fun j hj => ?_⟩, ⟨⟨wkD_eq ?_, rfl, wkD_eq rfl, rfl, wkD_eq rfl, rfl, wkD_eq rfl, rfl, wkD_eq rfl, rfl, wkD_eq rfl, rfl, trivial⟩, ⟨rfl, Nat.le_of_ble_eq_true rfl, rfl, rfl, Nat.le_of_ble_eq_true rfl, rfl, rfl, Nat.le_of_ble_eq_true rfl, rfl, rfl, Nat.le_of_ble_eq_true rfl, rfl, trivial⟩, trivial⟩, by (try simp only); omega⟩
        · rcases Nat.lt_or_ge j q with h7 | h7
          · exact hbq j h7
          · obtain rfl : j = q := by omega
            exact hp
        · exact some_i64 (by (try simp only); omega)
    · have hh3 := of_decide_eq_false hh3
      obtain rfl : q = x.wit.length := by omega
      refine ⟨⟨k + 1, by omega, fun j hj => ?_⟩, ⟨⟨wkD_eq ?_, rfl, wkD_eq rfl, rfl, wkD_eq rfl, rfl, trivial⟩, ⟨rfl, Nat.le_of_ble_eq_true rfl, rfl, rfl, Nat.le_of_ble_eq_true rfl, rfl, trivial⟩, trivial⟩, by (try simp only); omega⟩
      · rcases Nat.lt_or_ge j k with h7 | h7
        · exact hb j h7
        · obtain rfl : j = k := by omega
          rw [hxe, hye, hq, sameL_yes c5 hbq]
      · exact some_i64 (by (try simp only); omega)
  have hh := of_decide_eq_false hh
  obtain rfl : k = t.ins.length := by omega
  rw [sameL_yes h3 hb, Bool.true_and] at hr
  refine loopI {m : Nat // m ≤ t.outs.length ∧ ∀ j, j < m → sameOut (t.outs.getD j default) (u.outs.getD j default) = true} (fun m => [(9, .int .i64 (m.1 : Nat)), (3, .bp 4 0), (2, .bp 0 0)]) (fun _ => ⟨[(4, .agg [.int .u32 u.ver, .sl .no 36 (insD u.ins), .sl .no 2 (outsD u.outs), .int .u32 u.lock]), (0, .agg [.int .u32 t.ver, .sl .no 36 (insD t.ins), .sl .no 2 (outsD t.outs), .int .u32 t.lock])], [], 160⟩) (fun m => t.outs.length - m.1) ⟨0, by simp⟩ (fun _ => rfl) ?_ ?_
  · exact ⟨⟨wkD_eq rfl, rfl, wkD_eq rfl, rfl, wkD_eq rfl, rfl, trivial⟩, ⟨rfl, Nat.le_of_ble_eq_true rfl, rfl, rfl, Nat.le_of_ble_eq_true rfl, rfl, trivial⟩, trivial⟩
  rintro ⟨m, hm, hbm⟩
  simp (config := {dsimp := false}) only [↓vp0, vz, vn, nq, tys, cellD, wideIR, if_true, if_false, implies_true, forall_const, ne_eq, reduceIte, reduceCtorEq, Nat.reduceEqDiff, Nat.reduceAdd, Nat.reduceMul, Nat.reduceLT, Nat.reduceSub, Nat.reduceLeDiff, Nat.reduceBNe, Nat.reduceBEq, Nat.reduceBeqDiff, List.range, List.range.loop, Try.ntmps7, Try.results7]
  refine ⟨fun hh => ?_, fun hh => ?_⟩
  · have hh := of_decide_eq_true hh
    have hm1 : m < t.outs.length := by omega
    have hm2 : m < u.outs.length := by omega
    have g1 := outsD_get t.outs m hm1
    have g2 := outsD_get u.outs m hm2
    have hx := ht.outs _ (getD_memI hm1)
    have hy := hu.outs _ (getD_memI hm2)
    generalize hxe : t.outs.getD m default = x at *
    generalize hye : u.outs.getD m default = y at *
    refine drawI [2, 3, 9] (by kernel_rfl) ?_
    have hq : sameOut x y = (decide (x.value = y.value) && eqS x.script y.script) := rfl
    have hno : sameOut x y = false → sameTx t u = false := fun h => by rw [hr, sameL_no hm1 (by rw [hxe, hye]; exact h)]
    cases c1 : decide (x.value = y.value)
    case false =>
      rw [c1] at hq
      have hs := hno (by rw [hq]; rfl)
      simp (config := {dsimp := false}) only [↓vp0, vz, vn, nq, tys, cellD, wideIR, if_true, if_false, implies_true, forall_const, ne_eq, reduceIte, reduceCtorEq, Nat.reduceEqDiff, Nat.reduceAdd, Nat.reduceMul, Nat.reduceLT, Nat.reduceSub, Nat.reduceLeDiff, Nat.reduceBNe, Nat.reduceBEq, Nat.reduceBeqDiff, List.range, List.range.loop, Try.ntmps7, Try.results7, PF.toR, gives, givesIf, Int.toNat_natCast, g1, g2, outD, c1, hs]
      exact ⟨by omega, by omega, by omega, by omega⟩
    rw [c1, Bool.true_and] at hq
    cases c4 : eqS x.script y.script
    case false =>
      have hs := hno (by rw [hq, c4])
      simp (config := {dsimp := false}) only [↓vp0, vz, vn, nq, tys, cellD, wideIR, if_true, if_false, implies_true, forall_const, ne_eq, reduceIte, reduceCtorEq, Nat.reduceEqDiff, Nat.reduceAdd, Nat.reduceMul, Nat.reduceLT, Nat.reduceSub, Nat.reduceLeDiff, Nat.reduceBNe, Nat.reduceBEq, Nat.reduceBeqDiff, List.range, List.range.loop, Try.ntmps7, Try.results7, PF.toR, gives, givesIf, Int.toNat_natCast, g1, g2, outD, c1, c4, hs, spec_rsame, sp_eqS, c_rsame, b_rsame]
      exact ⟨by omega, by omega, by omega, by omega, by omega, by omega, by omega, by omega, hx.script, hy.script⟩
    simp (config := {dsimp := false}) only [↓vp0, vz, vn, nq, tys, cellD, wideIR, if_true, if_false, implies_true, forall_const, ne_eq, reduceIte, reduceCtorEq, Nat.reduceEqDiff, Nat.reduceAdd, Nat.reduceMul, Nat.reduceLT, Nat.reduceSub, Nat.reduceLeDiff, Nat.reduceBNe, Nat.reduceBEq, Nat.reduceBeqDiff, List.range, List.range.loop, Try.ntmps7, Try.results7, PF.toR, gives, givesIf, Int.toNat_natCast, g1, g2, outD, c1, c4, spec_rsame, sp_eqS, c_rsame, b_rsame]
    refine ⟨by omega, by omega, by omega, by omega, by omega, by omega, by omega, by omega, hx.script, hy.script, ⟨m + 1, by omega, fun j hj => ?_⟩, ⟨⟨wkD_eq ?_, rfl, wkD_eq rfl, rfl, wkD_eq rfl, rfl, trivial⟩, ⟨rfl, Nat.le_of_ble_eq_true rfl, rfl, rfl, Nat.le_of_ble_eq_true rfl, rfl, trivial⟩, trivial⟩, by (try simp only); omega⟩
    · rcases Nat.lt_or_ge j m with h7 | h7
      · exact hbm j h7
      · obtain rfl : j = m := by omega
        rw [hxe, hye, hq, c4]
    · exact some_i64 (by (try simp only); omega)
  · have hh := of_decide_eq_false hh
    obtain rfl : m = t.outs.length := by omega
    have hs : sameTx t u = true := by rw [hr, sameL_yes h4 hbm]
    simp (config := {dsimp := false}) only [↓vp0, vz, vn, nq, tys, cellD, wideIR, if_true, if_false, implies_true, forall_const, ne_eq, reduceIte, reduceCtorEq, Nat.reduceEqDiff, Nat.reduceAdd, Nat.reduceMul, Nat.reduceLT, Nat.reduceSub, Nat.reduceLeDiff, Nat.reduceBNe, Nat.reduceBEq, Nat.reduceBeqDiff, List.range, List.range.loop, Try.ntmps7, Try.results7, hs, givesIf]
    all_goals rfl
end Go.Vi.T5
end

section
set_option linter.unusedVariables false
set_option linter.unusedSimpArgs false
set_option maxHeartbeats 0
set_option maxRecDepth 20000
namespace Go.Vi.T5
open Go.Proofs

theorem c_lawTxSame : Contract E 3 := by
  refine contract_seeT hE hgl (show E.P.funcs[3]? = some Try.f3 from Try.func3) rfl (p := sp_lawTxSame) (fun _ _ _ => rfl) ?_
  intro args hv
  unfold sp_lawTxSame at hv ⊢
  split at hv
  case h_2 => exact hv.elim
  rename_i v is os l v' is' os' l'
  refine ⟨by simp, Nat.le_of_ble_eq_true rfl, ?_⟩
  simp only [givesIf] at hv
  obtain ⟨h1, h2⟩ := hv
  have g1 := h1
  have g2 := h2
  obtain ⟨t, rfl, rfl, rfl, rfl, ht⟩ := h1
  obtain ⟨u, rfl, rfl, rfl, rfl, hu⟩ := h2
  have et : (⟨t.ver, ins (insD t.ins), outs (outsD t.outs), t.lock⟩ : TxP) = t := by rw [ins_D, outs_D]
  have eu : (⟨u.ver, ins (insD u.ins), outs (outsD u.outs), u.lock⟩ : TxP) = u := by rw [ins_D, outs_D]
  cases hs : largeP t
  case true =>
    simp (config := {dsimp := false}) only [↓vp0, vz, vn, nq, tys, cellD, wideIR, if_true, if_false, implies_true, forall_const, ne_eq, reduceIte, reduceCtorEq, Nat.reduceEqDiff, Nat.reduceAdd, Nat.reduceMul, Nat.reduceLT, Nat.reduceSub, Nat.reduceLeDiff, Nat.reduceBNe, Nat.reduceBEq, Nat.reduceBeqDiff, List.range, List.range.loop, Try.ntmps3, Try.results3, PF.toR, gives, givesIf, et, eu, hs, spec_large, sp_large, c_large, b_large, spec_tawake, sp_tawake, c_tawake, b_tawake]
    exact g1
  cases hs2 : largeP u
  case true =>
    simp (config := {dsimp := false}) only [↓vp0, vz, vn, nq, tys, cellD, wideIR, if_true, if_false, implies_true, forall_const, ne_eq, reduceIte, reduceCtorEq, Nat.reduceEqDiff, Nat.reduceAdd, Nat.reduceMul, Nat.reduceLT, Nat.reduceSub, Nat.reduceLeDiff, Nat.reduceBNe, Nat.reduceBEq, Nat.reduceBeqDiff, List.range, List.range.loop, Try.ntmps3, Try.results3, PF.toR, gives, givesIf, et, eu, hs, hs2, spec_large, sp_large, c_large, b_large, spec_tawake, sp_tawake, c_tawake, b_tawake]
    exact ⟨g1, g2⟩
  obtain ⟨ho, -, -⟩ := large_ok ht hs
  obtain ⟨hp, -, -⟩ := large_ok hu hs2
  simp (config := {dsimp := false}) only [↓vp0, vz, vn, nq, tys, cellD, wideIR, if_true, if_false, implies_true, forall_const, ne_eq, reduceIte, reduceCtorEq, Nat.reduceEqDiff, Nat.reduceAdd, Nat.reduceMul, Nat.reduceLT, Nat.reduceSub, Nat.reduceLeDiff, Nat.reduceBNe, Nat.reduceBEq, Nat.reduceBeqDiff, List.range, List.range.loop, Try.ntmps3, Try.results3, PF.toR, gives, givesIf, et, eu, hs, hs2, spec_large, sp_large, c_large, b_large]
  refine ⟨g1, g2, ?_⟩
  refine drawI [2, 3] (by kernel_rfl) ?_
  obtain ⟨b, hb⟩ : ∃ b, sameTx t u = b := ⟨_, rfl⟩
  simp (config := {dsimp := false}) only [↓vp0, vz, vn, nq, tys, cellD, wideIR, if_true, if_false, implies_true, forall_const, ne_eq, reduceIte, reduceCtorEq, Nat.reduceEqDiff, Nat.reduceAdd, Nat.reduceMul, Nat.reduceLT, Nat.reduceSub, Nat.reduceLeDiff, Nat.reduceBNe, Nat.reduceBEq, Nat.reduceBeqDiff, List.range, List.range.loop, Try.ntmps3, Try.results3, PF.toR, gives, givesIf, et, eu, hb, sameTx_refl, eq_self, decide_true, spec_sameTx, sp_sameTx, c_sameTx, b_sameTx, spec_rSame, sp_sameTx, c_rSame, b_rSame, spec_tawake, sp_tawake, c_tawake, b_tawake]
  exact ⟨tx_okT ho, tx_okT hp, tx_okT ho, tx_okT hp, tx_okT ho⟩
end Go.Vi.T5
end

section
set_option linter.unusedVariables false
set_option linter.unusedSimpArgs false
namespace Go.Proofs.Ytckeppediepakaa
open Go.ChangeShapes Go.WideShapes Go.RowKit Go.Vi Go.Vi.T5

theorem Try.own : ownKnob Try.prog.godebug = none := by kernel_rfl
theorem Try.laidOut : laidOutB Try.prog = true := by kernel_rfl
theorem globs_of_none {W : World} : Globs Go.Vi.T5.E (g0 W) W := by
  intro i d hi
  change glC i = some d at hi
  unfold glC at hi
  first | cases hi | (split at hi <;> cases hi)
end Go.Proofs.Ytckeppediepakaa
end

section
/-
  BLOCKS, as what is handed is read.
-/
set_option linter.unusedVariables false
namespace Go.Vi
open Go.RowKit Go.WideShapes Go.ChangeShapes

theorem lay_nil {P : Program} {a b : Nat} (h : a = b) : LayF P [] a b := h
def rU32 (d : D) : Prop := ∃ n, d = .int .u32 n ∧ (Lit.int .u32 n).wf = true
def rI64 (d : D) : Prop := ∃ n, d = .int .i64 n ∧ (Lit.int .i64 n).wf = true
def rH (d : D) : Prop := ∃ xs, d = .arr .u8 32 xs ∧ xs.length = 32 ∧ ∀ x ∈ xs, (Lit.int .u8 x).wf = true
def rScr (d : D) : Prop := ∃ xs, d = .sli .no .u8 xs ∧ (∀ x ∈ xs, (Lit.int .u8 x).wf = true) ∧ xs.length ≤ maxLen
def rSl (sz : Nat) (R : D → Prop) (d : D) : Prop := ∃ es, d = .sl .no sz es ∧ (∀ x ∈ es, R x) ∧ es.length ≤ maxLen
def rAg (Rs : List (D → Prop)) (d : D) : Prop := ∃ ds, d = .agg ds ∧ All2 (fun d R => R d) ds Rs
def rIn (d : D) : Prop := ∃ x : InP, d = inD x ∧ x.Any
def rOut (d : D) : Prop := ∃ x : OutP, d = outD x ∧ x.Any
def rTx (d : D) : Prop := ∃ x : TxP, d = txD x ∧ x.Any
theorem wf_u32 {n : Int} (h : (Lit.int .u32 n).wf = true) : u32ok n := by
  simp only [Lit.wf, Bool.and_eq_true, decide_eq_true_eq, show IntKind.u32.min = 0 from rfl, show IntKind.u32.max = 4294967295 from rfl] at h
  exact ⟨h.1, by omega⟩
theorem wf_i64 {n : Int} (h : (Lit.int .i64 n).wf = true) : -9223372036854775808 ≤ n ∧ n ≤ 9223372036854775807 := by
  simpa only [Lit.wf, Bool.and_eq_true, decide_eq_true_eq, show IntKind.i64.min = -9223372036854775808 from rfl, show IntKind.i64.max = 9223372036854775807 from rfl] using h
theorem wf_bytes {xs : List Int} (h : ∀ x ∈ xs, (Lit.int .u8 x).wf = true) : bytes xs := by
  intro x hx
  have := h x hx
  simp only [Lit.wf, Bool.and_eq_true, decide_eq_true_eq, show IntKind.u8.min = 0 from rfl, show IntKind.u8.max = 255 from rfl] at this
  omega
theorem maxLen_eq : maxLen = 9223372036854775807 := by decide
theorem all_map {α : Type} {R : D → Prop} {p : α → Prop} {f : α → D} (h : ∀ d, R d → ∃ x, d = f x ∧ p x) : ∀ es : List D, (∀ x ∈ es, R x) → ∃ l : List α, es = l.map f ∧ ∀ x ∈ l, p x
  | [], _ => ⟨[], rfl, fun x hx => by cases hx⟩
  | e :: es, he => by
    obtain ⟨x, rfl, hx⟩ := h e (he e (by simp))
    obtain ⟨l, rfl, hl⟩ := all_map h es fun y hy => he y (by simp [hy])
    exact ⟨x :: l, rfl, fun y hy => by
      rcases List.mem_cons.1 hy with rfl | hy
      · exact hx
      · exact hl y hy⟩
theorem all_mapL {α : Type} {R : D → Prop} {p : α → Prop} {f : α → D} (h : ∀ d, R d → ∃ x, d = f x ∧ p x) {sz : Nat} {d : D} (hd : rSl sz R d) : ∃ l : List α, d = .sl .no sz (l.map f) ∧ (∀ x ∈ l, p x) ∧ l.length ≤ 9223372036854775807 := by
  obtain ⟨es, rfl, he, hl⟩ := hd
  obtain ⟨l, rfl, h2⟩ := all_map h es he
  rw [List.length_map, maxLen_eq] at hl
  exact ⟨l, rfl, h2, hl⟩
theorem scr_r (d : D) (h : rScr d) : ∃ s : List Int, d = .sli .no .u8 s ∧ scrW s := by
  obtain ⟨s, rfl, h1, h2⟩ := h
  exact ⟨s, rfl, wf_bytes h1, by rw [maxLen_eq] at h2; exact h2⟩
theorem all2_2 {ds : List D} {R0 R1 : D → Prop} (h : All2 (fun d R => R d) ds [R0, R1]) : ∃ a b, ds = [a, b] ∧ R0 a ∧ R1 b := by
  match ds, h with
  | [a, b], h => exact ⟨a, b, rfl, h.1, h.2.1⟩
theorem all2_4 {ds : List D} {R0 R1 R2 R3 : D → Prop} (h : All2 (fun d R => R d) ds [R0, R1, R2, R3]) : ∃ a b c d, ds = [a, b, c, d] ∧ R0 a ∧ R1 b ∧ R2 c ∧ R3 d := by
  match ds, h with
  | [a, b, c, d], h => exact ⟨a, b, c, d, rfl, h.1, h.2.1, h.2.2.1, h.2.2.2.1⟩
theorem all2_6 {ds : List D} {R0 R1 R2 R3 R4 R5 : D → Prop} (h : All2 (fun d R => R d) ds [R0, R1, R2, R3, R4, R5]) : ∃ a b c d e f, ds = [a, b, c, d, e, f] ∧ R0 a ∧ R1 b ∧ R2 c ∧ R3 d ∧ R4 e ∧ R5 f := by
  match ds, h with
  | [a, b, c, d, e, f], h => exact ⟨a, b, c, d, e, f, rfl, h.1, h.2.1, h.2.2.1, h.2.2.2.1, h.2.2.2.2.1, h.2.2.2.2.2.1⟩
theorem raw_in (d : D) (h : rAg [rAg [rH, rU32], rScr, rU32, rSl 1 rScr] d) : rIn d := by
  obtain ⟨ds, rfl, h⟩ := h
  obtain ⟨_, _, _, _, rfl, ⟨es, rfl, h0⟩, h1, ⟨q, rfl, hq⟩, h3⟩ := all2_4 h
  obtain ⟨_, _, rfl, ⟨p, rfl, hp, hb⟩, ⟨i, rfl, hi⟩⟩ := all2_2 h0
  obtain ⟨s, rfl, hs⟩ := scr_r _ h1
  obtain ⟨w, rfl, hw, hl⟩ := all_mapL scr_r h3
  exact ⟨⟨p, i, s, q, w⟩, rfl, ⟨hp, wf_bytes hb, wf_u32 hi, hs, wf_u32 hq, hw, hl⟩⟩
theorem raw_out (d : D) (h : rAg [rI64, rScr] d) : rOut d := by
  obtain ⟨ds, rfl, h⟩ := h
  obtain ⟨_, _, rfl, ⟨v, rfl, hv⟩, h1⟩ := all2_2 h
  obtain ⟨s, rfl, hs⟩ := scr_r _ h1
  exact ⟨⟨v, s⟩, rfl, wf_i64 hv, hs⟩
theorem raw_tx (d : D) (h : rAg [rU32, rSl 36 rIn, rSl 2 rOut, rU32] d) : rTx d := by
  obtain ⟨ds, rfl, h⟩ := h
  obtain ⟨_, _, _, _, rfl, ⟨v, rfl, hv⟩, h1, h2, ⟨l, rfl, hl⟩⟩ := all2_4 h
  obtain ⟨i, rfl, hi, hil⟩ := all_mapL (f := inD) (p := InP.Any) (fun d h => h) h1
  obtain ⟨o, rfl, ho, hol⟩ := all_mapL (f := outD) (p := OutP.Any) (fun d h => h) h2
  exact ⟨⟨v, i, o, l⟩, rfl, wf_u32 hv, hi, ho, wf_u32 hl, hil, hol⟩
theorem raw_txs {ds : List D} (h : All2 (fun d R => R d) ds [rU32, rSl 36 rIn, rSl 2 rOut, rU32]) : ∃ x : TxP, D.agg ds = txD x ∧ x.Any := raw_tx _ ⟨ds, rfl, h⟩
/-- A block, as it is handed. -/
theorem raw_block {ds : List D} (h : All2 (fun d R => R d) ds [rAg [rU32, rH, rH, rU32, rU32, rU32], rSl 4 rTx]) :
    ∃ (h0 : Int) (hp hr : List Int) (h1 h2 h3 : Int) (l : List TxP), ds = [.agg [.int .u32 h0, .arr .u8 32 hp, .arr .u8 32 hr, .int .u32 h1, .int .u32 h2, .int .u32 h3], .sl .no 4 (txsD l)] ∧ hdOk hp hr ∧ isTxW (txsD l) := by
  obtain ⟨_, _, rfl, ⟨es, rfl, h0⟩, ht⟩ := all2_2 h
  obtain ⟨_, _, _, _, _, _, rfl, ⟨a, rfl, _⟩, ⟨p, rfl, hp, _⟩, ⟨r, rfl, hr, _⟩, ⟨b, rfl, _⟩, ⟨c, rfl, _⟩, ⟨e, rfl, _⟩⟩ := all2_6 h0
  obtain ⟨l, rfl, hl, hm⟩ := all_mapL (f := txD) (p := TxP.Any) (fun d h => h) ht
  exact ⟨a, p, r, b, c, e, l, rfl, ⟨hp, hr⟩, l, rfl, hl, hm⟩
end Go.Vi
end
