/- Lemmas for the law proved in the text whose name ends with Law. -/
import Derived.Test.YtckeppediepakaaDoorP15
import Derived.RangeFuncNested
import Derived.RangeFuncBound
import Derived.RangeFuncLeaves
import Derived.Shelf.Abstract
import Derived.Shelf.RegionOpen
import Derived.WalkKit
import Derived.OwnWalkIn
import Derived.TacticsInMore
import Derived.LoopNIn
import Derived.LoopIn
import Derived.Laws.Rows
import Derived.ProofKit
import Derived.Test.YtckeppediepakaaDoorTie
import Derived.Test.YtckeppediepakaaDoorCards
import Derived.SevenTiedAt

section
set_option linter.unusedVariables false
set_option linter.unusedSimpArgs false
set_option maxHeartbeats 0
set_option maxRecDepth 20000
namespace Go.Vi.TP
open Go.Proofs

theorem c_tbare : Contract E 8 := by
  refine contract_seeT hE hgl (show E.P.funcs[8]? = some Tryd.f8 from Tryd.func8) rfl (p := sp_tbare) (fun _ _ _ => rfl) ?_
  intro args hv
  unfold sp_tbare at hv ⊢
  split at hv
  case h_2 => exact hv.elim
  rename_i b v is os l
  refine ⟨by simp, Nat.le_of_ble_eq_true rfl, ?_⟩
  simp only [givesIf] at hv
  obtain ⟨hok, hb⟩ := hv
  obtain ⟨t, rfl, rfl, rfl, rfl, ht, -⟩ := okT_tx hok
  have eta : (⟨t.ver, t.ins, t.outs, t.lock⟩ : TxP) = t := rfl
  have hc : okT t.ver (insD t.ins) (outsD t.outs) t.lock := hok
  by_cases h : checkP t = 0
  · have hlen := lay_len ht h false
    have hd : decide (checkP t = 0) = true := decide_eq_true h
    simp (config := {dsimp := false}) only [↓vp0, vz, vn, nq, tys, cellD, wideIR, if_true, if_false, implies_true, forall_const, ne_eq, reduceIte, reduceCtorEq, Nat.reduceEqDiff, Nat.reduceAdd, Nat.reduceMul, Nat.reduceLT, Nat.reduceSub, Nat.reduceLeDiff, Nat.reduceBNe, Nat.reduceBEq, Nat.reduceBeqDiff, List.range, List.range.loop, gl0, Tryd.ntmps8, Tryd.results8, vb, PF.toR, givesIf, eta, hd, put_0 h, spec_tcheck, sp_tcheck, c_tcheck, b_tcheck, spec_laid, sp_laid, c_laid, b_laid]
    exact ⟨hc, hc, by simp only [List.length_append]; omega⟩
  · have hd : decide (checkP t = 0) = false := decide_eq_false h
    simp (config := {dsimp := false}) only [↓vp0, vz, vn, nq, tys, cellD, wideIR, if_true, if_false, implies_true, forall_const, ne_eq, reduceIte, reduceCtorEq, Nat.reduceEqDiff, Nat.reduceAdd, Nat.reduceMul, Nat.reduceLT, Nat.reduceSub, Nat.reduceLeDiff, Nat.reduceBNe, Nat.reduceBEq, Nat.reduceBeqDiff, List.range, List.range.loop, gl0, Tryd.ntmps8, Tryd.results8, PF.toR, givesIf, eta, hd, put_e h, spec_tcheck, sp_tcheck, c_tcheck, b_tcheck]
    exact hc
theorem c_tid : Contract E 14 := by
  refine contract_seeT hE hgl (show E.P.funcs[14]? = some Tryd.f14 from Tryd.func14) rfl (p := sp_tid) (fun _ _ _ => rfl) ?_
  intro args hv
  unfold sp_tid at hv ⊢
  split at hv
  case h_2 => exact hv.elim
  rename_i v is os l
  refine ⟨by simp, Nat.le_of_ble_eq_true rfl, ?_⟩
  simp only [givesIf] at hv
  have hok := hv
  obtain ⟨t, rfl, rfl, rfl, rfl, ht, -⟩ := okT_tx hok
  have eta : (⟨t.ver, t.ins, t.outs, t.lock⟩ : TxP) = t := rfl
  by_cases h : checkP t = 0
  · have hlen := lay_len ht h false
    have hf : idP t = sumP (sumP (layI t false)) := if_pos h
    simp (config := {dsimp := false}) only [↓vp0, vz, vn, nq, tys, cellD, wideIR, if_true, if_false, implies_true, forall_const, ne_eq, reduceIte, reduceCtorEq, Nat.reduceEqDiff, Nat.reduceAdd, Nat.reduceMul, Nat.reduceLT, Nat.reduceSub, Nat.reduceLeDiff, Nat.reduceBNe, Nat.reduceBEq, Nat.reduceBeqDiff, List.range, List.range.loop, gl0, Tryd.ntmps14, Tryd.results14, PF.toR, givesIf, eta, put_0 h, hf, eq_self, spec_tbare, sp_tbare, c_tbare, b_tbare, spec_tname, sp_tname, c_tname, b_tname]
    exact ⟨hok, by omega⟩
  · have hf : idP t = List.replicate 32 0 := if_neg h
    simp (config := {dsimp := false}) only [↓vp0, vz, vn, nq, tys, cellD, wideIR, if_true, if_false, implies_true, forall_const, ne_eq, reduceIte, reduceCtorEq, Nat.reduceEqDiff, Nat.reduceAdd, Nat.reduceMul, Nat.reduceLT, Nat.reduceSub, Nat.reduceLeDiff, Nat.reduceBNe, Nat.reduceBEq, Nat.reduceBeqDiff, List.range, List.range.loop, gl0, Tryd.ntmps14, Tryd.results14, PF.toR, givesIf, eta, put_e h, hf, h, spec_tbare, sp_tbare, c_tbare, b_tbare, spec_tname, sp_tname, c_tname, b_tname]
    exact hok
theorem c_rbare : Contract E 9 := by
  refine contract_seeT hE hgl (show E.P.funcs[9]? = some Tryd.f9 from Tryd.func9) rfl (p := sp_rbare) (fun _ _ _ => rfl) ?_
  intro args hv
  unfold sp_rbare at hv ⊢
  split at hv
  case h_2 => exact hv.elim
  rename_i v is os l
  refine ⟨by simp, Nat.le_of_ble_eq_true rfl, ?_⟩
  simp only [givesIf] at hv
  have hok := hv
  obtain ⟨t, rfl, rfl, rfl, rfl, ht, -⟩ := okT_tx hok
  have eta : (⟨t.ver, t.ins, t.outs, t.lock⟩ : TxP) = t := rfl
  by_cases h : checkP t = 0
  · have hlen := lay_len ht h false
    have hd : decide (checkP t = 0) = true := decide_eq_true h
    simp (config := {dsimp := false}) only [↓vp0, vz, vn, nq, tys, cellD, wideIR, if_true, if_false, implies_true, forall_const, ne_eq, reduceIte, reduceCtorEq, Nat.reduceEqDiff, Nat.reduceAdd, Nat.reduceMul, Nat.reduceLT, Nat.reduceSub, Nat.reduceLeDiff, Nat.reduceBNe, Nat.reduceBEq, Nat.reduceBeqDiff, List.range, List.range.loop, gl0, Tryd.ntmps9, Tryd.results9, PF.toR, givesIf, eta, hd, put_0 h, spec_rcheck, sp_tcheck, c_rcheck, b_rcheck, spec_rlay, sp_rlay, c_rlay, b_rlay]
    exact ⟨hok, hok, by omega⟩
  · have hd : decide (checkP t = 0) = false := decide_eq_false h
    simp (config := {dsimp := false}) only [↓vp0, vz, vn, nq, tys, cellD, wideIR, if_true, if_false, implies_true, forall_const, ne_eq, reduceIte, reduceCtorEq, Nat.reduceEqDiff, Nat.reduceAdd, Nat.reduceMul, Nat.reduceLT, Nat.reduceSub, Nat.reduceLeDiff, Nat.reduceBNe, Nat.reduceBEq, Nat.reduceBeqDiff, List.range, List.range.loop, gl0, Tryd.ntmps9, Tryd.results9, PF.toR, givesIf, eta, hd, put_e h, spec_rcheck, sp_tcheck, c_rcheck, b_rcheck]
    exact hok
theorem c_rid : Contract E 15 := by
  refine contract_seeT hE hgl (show E.P.funcs[15]? = some Tryd.f15 from Tryd.func15) rfl (p := sp_tid) (fun _ _ _ => rfl) ?_
  intro args hv
  unfold sp_tid at hv ⊢
  split at hv
  case h_2 => exact hv.elim
  rename_i v is os l
  refine ⟨by simp, Nat.le_of_ble_eq_true rfl, ?_⟩
  simp only [givesIf] at hv
  have hok := hv
  obtain ⟨t, rfl, rfl, rfl, rfl, ht, -⟩ := okT_tx hok
  have eta : (⟨t.ver, t.ins, t.outs, t.lock⟩ : TxP) = t := rfl
  by_cases h : checkP t = 0
  · have hlen := lay_len ht h false
    have hby := lay_bytes ht false
    have hf : idP t = sumP (sumP (layI t false)) := if_pos h
    simp (config := {dsimp := false}) only [↓vp0, vz, vn, nq, tys, cellD, wideIR, if_true, if_false, implies_true, forall_const, ne_eq, reduceIte, reduceCtorEq, Nat.reduceEqDiff, Nat.reduceAdd, Nat.reduceMul, Nat.reduceLT, Nat.reduceSub, Nat.reduceLeDiff, Nat.reduceBNe, Nat.reduceBEq, Nat.reduceBeqDiff, List.range, List.range.loop, gl0, Tryd.ntmps15, Tryd.results15, PF.toR, givesIf, eta, put_0 h, hf, eq_self, decide_true, List.nil_append, spec_rbare, sp_rbare, c_rbare, b_rbare, spec_refTwice, sp_refTwice, c_refTwice, b_refTwice]
    exact ⟨hok, by omega, by rw [twice_eq _ hby (by omega)]⟩
  · have hf : idP t = List.replicate 32 0 := if_neg h
    simp (config := {dsimp := false}) only [↓vp0, vz, vn, nq, tys, cellD, wideIR, if_true, if_false, implies_true, forall_const, ne_eq, reduceIte, reduceCtorEq, Nat.reduceEqDiff, Nat.reduceAdd, Nat.reduceMul, Nat.reduceLT, Nat.reduceSub, Nat.reduceLeDiff, Nat.reduceBNe, Nat.reduceBEq, Nat.reduceBeqDiff, List.range, List.range.loop, gl0, Tryd.ntmps15, Tryd.results15, PF.toR, givesIf, eta, put_e h, hf, h, decide_false, spec_rbare, sp_rbare, c_rbare, b_rbare, spec_refTwice, sp_refTwice, c_refTwice, b_refTwice]
    exact hok
end Go.Vi.TP
end

section
set_option linter.unusedVariables false
set_option linter.unusedSimpArgs false
set_option maxHeartbeats 0
set_option maxRecDepth 20000
namespace Go.Vi.TP
open Go.Proofs

theorem c_large : Contract E 4 := by
  refine contract_seeT hE hgl (show E.P.funcs[4]? = some Tryd.f4 from Tryd.func4) rfl (p := sp_large) (fun _ _ _ => rfl) ?_
  intro args hv
  unfold sp_large at hv ⊢
  split at hv
  case h_2 => exact hv.elim
  rename_i v is os l
  refine ⟨by simp, Nat.le_of_ble_eq_true rfl, ?_⟩
  simp only [givesIf] at hv
  obtain ⟨t, rfl, rfl, rfl, rfl, ht⟩ := hv
  have hmi := ht.mi
  have hmo := ht.mo
  have hlt : (⟨t.ver, ins (insD t.ins), outs (outsD t.outs), t.lock⟩ : TxP) = t := by rw [ins_D, outs_D]
  rw [hlt]
  simp (config := {dsimp := false}) only [↓vp0, vz, vn, nq, tys, cellD, wideIR, if_true, if_false, implies_true, forall_const, ne_eq, reduceIte, reduceCtorEq, Nat.reduceEqDiff, Nat.reduceAdd, Nat.reduceMul, Nat.reduceLT, Nat.reduceSub, Nat.reduceLeDiff, Nat.reduceBNe, Nat.reduceBEq, Nat.reduceBeqDiff, List.range, List.range.loop, gl0, Tryd.ntmps4, Tryd.results4]
  refine loopI {k : Nat // k ≤ t.ins.length ∧ k ≤ 50 ∧ ∀ j, j < k → inLarge (t.ins.getD j default) = false} (fun k => [(3, .int .i64 (k.1 : Nat)), (1, .bp 0 0)]) (fun _ => ⟨[(0, .agg [.int .u32 t.ver, .sl .no 36 (insD t.ins), .sl .no 2 (outsD t.outs), .int .u32 t.lock])], [], 12⟩) (fun k => t.ins.length - k.1) ⟨0, by simp⟩ (fun _ => rfl) ?_ ?_
  · exact ⟨⟨wkD_eq rfl, rfl, wkD_eq rfl, rfl, trivial⟩, ⟨rfl, Nat.le_of_ble_eq_true rfl, rfl, trivial⟩, trivial⟩
  rintro ⟨k, hk, hk50, hb⟩
  cases hc : (decide (k < t.ins.length) && decide (k < 50))
  case true =>
    obtain ⟨e1, e2⟩ := Bool.and_eq_true_iff.1 hc
    have hk' := of_decide_eq_true e1
    have hk5 := of_decide_eq_true e2
    have d1 : decide (((k : Nat) : Int) < ((t.ins.length : Nat) : Int)) = true := decide_eq_true (by omega)
    have d2 : decide (((k : Nat) : Int) < 50) = true := decide_eq_true (by omega)
    have g0 := insD_get t.ins k hk'
    have hx := ht.ins _ (getD_memI hk')
    have hmw := hx.many
    have hms := hx.script.2
    have yes : inLarge (t.ins.getD k default) = true → largeP t = true := fun h => by unfold largeP; rw [anyT_true hk' hk5 h]; rfl
    by_cases c1 : 400 < (t.ins.getD k default).script.length
    · have hs := yes (by unfold inLarge; rw [decide_eq_true c1]; rfl)
      have d3 : decide ((400 : Int) < (((t.ins.getD k default).script.length : Nat) : Int)) = true := decide_eq_true (by omega)
      simp (config := {dsimp := false}) only [↓vp0, vz, vn, nq, tys, cellD, wideIR, if_true, if_false, implies_true, forall_const, ne_eq, reduceIte, reduceCtorEq, Nat.reduceEqDiff, Nat.reduceAdd, Nat.reduceMul, Nat.reduceLT, Nat.reduceSub, Nat.reduceLeDiff, Nat.reduceBNe, Nat.reduceBEq, Nat.reduceBeqDiff, List.range, List.range.loop, gl0, Tryd.ntmps4, Tryd.results4, Int.toNat_natCast, g0, inD, d1, d2, d3, hs, givesIf]
      exact ⟨by omega, by omega⟩
    have d3 : decide ((400 : Int) < (((t.ins.getD k default).script.length : Nat) : Int)) = false := decide_eq_false (by omega)
    by_cases c2 : 40 < (t.ins.getD k default).wit.length
    · have hs := yes (by unfold inLarge; rw [decide_eq_true c2]; simp)
      have d4 : decide ((40 : Int) < (((t.ins.getD k default).wit.length : Nat) : Int)) = true := decide_eq_true (by omega)
      simp (config := {dsimp := false}) only [↓vp0, vz, vn, nq, tys, cellD, wideIR, if_true, if_false, implies_true, forall_const, ne_eq, reduceIte, reduceCtorEq, Nat.reduceEqDiff, Nat.reduceAdd, Nat.reduceMul, Nat.reduceLT, Nat.reduceSub, Nat.reduceLeDiff, Nat.reduceBNe, Nat.reduceBEq, Nat.reduceBeqDiff, List.range, List.range.loop, gl0, Tryd.ntmps4, Tryd.results4, Int.toNat_natCast, g0, inD, d1, d2, d3, d4, hs, givesIf]
      omega
    have d4 : decide ((40 : Int) < (((t.ins.getD k default).wit.length : Nat) : Int)) = false := decide_eq_false (by omega)
    simp (config := {dsimp := false}) only [↓vp0, vz, vn, nq, tys, cellD, wideIR, if_true, if_false, implies_true, forall_const, ne_eq, reduceIte, reduceCtorEq, Nat.reduceEqDiff, Nat.reduceAdd, Nat.reduceMul, Nat.reduceLT, Nat.reduceSub, Nat.reduceLeDiff, Nat.reduceBNe, Nat.reduceBEq, Nat.reduceBeqDiff, List.range, List.range.loop, gl0, Tryd.ntmps4, Tryd.results4, Int.toNat_natCast, g0, inD, d1, d2, d3, d4]
    refine ⟨by omega, by omega, by omega, by omega, ?_⟩
    refine loopI {q : Nat // q ≤ (t.ins.getD k default).wit.length ∧ ∀ j, j < q → wLarge ((t.ins.getD k default).wit.getD j default) = false} (fun q => [(4, .int .i64 (q.1 : Nat)), (3, .int .i64 (k : Nat)), (1, .bp 0 0)]) (fun _ => ⟨[(0, .agg [.int .u32 t.ver, .sl .no 36 (insD t.ins), .sl .no 2 (outsD t.outs), .int .u32 t.lock])], [], 124⟩) (fun q => (t.ins.getD k default).wit.length - q.1) ⟨0, by simp⟩ (fun _ => rfl) ?_ ?_
    · exact ⟨⟨wkD_eq rfl, rfl, wkD_eq rfl, rfl, wkD_eq rfl, rfl, trivial⟩, ⟨rfl, Nat.le_of_ble_eq_true rfl, rfl, trivial⟩, trivial⟩
    rintro ⟨q, hq, hbq⟩
    simp (config := {dsimp := false}) only [↓vp0, vz, vn, nq, tys, cellD, wideIR, if_true, if_false, implies_true, forall_const, ne_eq, reduceIte, reduceCtorEq, Nat.reduceEqDiff, Nat.reduceAdd, Nat.reduceMul, Nat.reduceLT, Nat.reduceSub, Nat.reduceLeDiff, Nat.reduceBNe, Nat.reduceBEq, Nat.reduceBeqDiff, List.range, List.range.loop, gl0, Tryd.ntmps4, Tryd.results4, Int.toNat_natCast, g0, inD]
    refine ⟨by omega, by omega, fun hh3 => ?_, fun hh3 => ?_⟩
    · have hh3 := of_decide_eq_true hh3
      have hq' : q < (t.ins.getD k default).wit.length := by omega
      have g2 : (slis (t.ins.getD k default).wit).getD q .any = .sli .no .u8 ((t.ins.getD k default).wit.getD q default) := slis_get _ q hq'
      have hwm := (hx.wit _ (getD_memI hq')).2
      cases hp : wLarge ((t.ins.getD k default).wit.getD q default)
      · have d5 : decide ((400 : Int) < ((((t.ins.getD k default).wit.getD q default).length : Nat) : Int)) = false := decide_eq_false (by have := of_decide_eq_false hp; omega)
        simp (config := {dsimp := false}) only [↓vp0, vz, vn, nq, tys, cellD, wideIR, if_true, if_false, implies_true, forall_const, ne_eq, reduceIte, reduceCtorEq, Nat.reduceEqDiff, Nat.reduceAdd, Nat.reduceMul, Nat.reduceLT, Nat.reduceSub, Nat.reduceLeDiff, Nat.reduceBNe, Nat.reduceBEq, Nat.reduceBeqDiff, List.range, List.range.loop, gl0, Tryd.ntmps4, Tryd.results4, Int.toNat_natCast, g0, g2, inD, d5]
        refine ⟨by omega, by omega, by omega, by omega, ⟨q + 1, by omega, fun j hj => ?_⟩, ⟨⟨wkD_eq ?_, rfl, wkD_eq rfl, rfl, wkD_eq rfl, rfl, trivial⟩, ⟨rfl, Nat.le_of_ble_eq_true rfl, rfl, trivial⟩, trivial⟩, by (try simp only); omega⟩
        · rcases Nat.lt_or_ge j q with h7 | h7
          · exact hbq j h7
          · obtain rfl : j = q := by omega
            exact hp
        · exact some_i64 (by (try simp only); omega)
      · have hs := yes (by unfold inLarge; rw [any_true hq' hp]; simp)
        have d5 : decide ((400 : Int) < ((((t.ins.getD k default).wit.getD q default).length : Nat) : Int)) = true := decide_eq_true (by have := of_decide_eq_true hp; omega)
        simp (config := {dsimp := false}) only [↓vp0, vz, vn, nq, tys, cellD, wideIR, if_true, if_false, implies_true, forall_const, ne_eq, reduceIte, reduceCtorEq, Nat.reduceEqDiff, Nat.reduceAdd, Nat.reduceMul, Nat.reduceLT, Nat.reduceSub, Nat.reduceLeDiff, Nat.reduceBNe, Nat.reduceBEq, Nat.reduceBeqDiff, List.range, List.range.loop, gl0, Tryd.ntmps4, Tryd.results4, Int.toNat_natCast, g0, g2, inD, d5, hs, givesIf]
        exact ⟨by omega, by omega, by omega, by omega⟩
    · have hh3 := of_decide_eq_false hh3
      obtain rfl : q = (t.ins.getD k default).wit.length := by omega
      have hp : inLarge (t.ins.getD k default) = false := by
        unfold inLarge; rw [decide_eq_false c1, decide_eq_false c2, any_false hbq]; rfl
      refine ⟨⟨k + 1, by omega, by omega, fun j hj => ?_⟩, ⟨⟨wkD_eq ?_, rfl, wkD_eq rfl, rfl, trivial⟩, ⟨rfl, Nat.le_of_ble_eq_true rfl, rfl, trivial⟩, trivial⟩, by (try simp only); omega⟩
      · rcases Nat.lt_or_ge j k with h7 | h7
        · exact hb j h7
        · obtain rfl : j = k := by omega
          exact hp
      · exact some_i64 (by (try simp only); omega)
  have hI : (t.ins.take 50).any inLarge = false := anyT_false fun j h1 h2 => hb j (by
    rcases Bool.and_eq_false_iff.1 hc with h | h
    · have := of_decide_eq_false h; omega
    · have := of_decide_eq_false h; omega)
  have dd : (decide (((k : Nat) : Int) < ((t.ins.length : Nat) : Int)) = true ∧ decide (((k : Nat) : Int) < 50) = false) ∨ decide (((k : Nat) : Int) < ((t.ins.length : Nat) : Int)) = false := by
    rcases Bool.and_eq_false_iff.1 hc with h | h
    · exact .inr (decide_eq_false (by have := of_decide_eq_false h; omega))
    · by_cases h7 : k < t.ins.length
      · exact .inl ⟨decide_eq_true (by omega), decide_eq_false (by have := of_decide_eq_false h; omega)⟩
      · exact .inr (decide_eq_false (by omega))
  rcases dd with ⟨d1, d2⟩ | d1
  · simp (config := {dsimp := false}) only [↓vp0, vz, vn, nq, tys, cellD, wideIR, if_true, if_false, implies_true, forall_const, ne_eq, reduceIte, reduceCtorEq, Nat.reduceEqDiff, Nat.reduceAdd, Nat.reduceMul, Nat.reduceLT, Nat.reduceSub, Nat.reduceLeDiff, Nat.reduceBNe, Nat.reduceBEq, Nat.reduceBeqDiff, List.range, List.range.loop, gl0, Tryd.ntmps4, Tryd.results4, d1, d2]
    refine loopI {m : Nat // m ≤ t.outs.length ∧ m ≤ 50 ∧ ∀ j, j < m → outLarge (t.outs.getD j default) = false} (fun m => [(5, .int .i64 (m.1 : Nat)), (1, .bp 0 0)]) (fun _ => ⟨[(0, .agg [.int .u32 t.ver, .sl .no 36 (insD t.ins), .sl .no 2 (outsD t.outs), .int .u32 t.lock])], [], 52⟩) (fun m => t.outs.length - m.1) ⟨0, by simp⟩ (fun _ => rfl) ?_ ?_
    · exact ⟨⟨wkD_eq rfl, rfl, wkD_eq rfl, rfl, trivial⟩, ⟨rfl, Nat.le_of_ble_eq_true rfl, rfl, trivial⟩, trivial⟩
    rintro ⟨m, hm, hm50, hbm⟩
    by_cases e1 : m < t.outs.length
    · have d3 : decide (((m : Nat) : Int) < ((t.outs.length : Nat) : Int)) = true := decide_eq_true (by omega)
      by_cases e2 : m < 50
      · have d4 : decide (((m : Nat) : Int) < 50) = true := decide_eq_true (by omega)
        have g1 := outsD_get t.outs m e1
        have hx := ht.outs _ (getD_memI e1)
        have hms := hx.script.2
        cases hp : outLarge (t.outs.getD m default)
        · have d5 : decide ((400 : Int) < (((t.outs.getD m default).script.length : Nat) : Int)) = false := decide_eq_false (by have := of_decide_eq_false hp; omega)
          simp (config := {dsimp := false}) only [↓vp0, vz, vn, nq, tys, cellD, wideIR, if_true, if_false, implies_true, forall_const, ne_eq, reduceIte, reduceCtorEq, Nat.reduceEqDiff, Nat.reduceAdd, Nat.reduceMul, Nat.reduceLT, Nat.reduceSub, Nat.reduceLeDiff, Nat.reduceBNe, Nat.reduceBEq, Nat.reduceBeqDiff, List.range, List.range.loop, gl0, Tryd.ntmps4, Tryd.results4, Int.toNat_natCast, g1, outD, d3, d4, d5]
          refine ⟨by omega, by omega, ⟨m + 1, by omega, by omega, fun j hj => ?_⟩, ⟨⟨wkD_eq ?_, rfl, wkD_eq rfl, rfl, trivial⟩, ⟨rfl, Nat.le_of_ble_eq_true rfl, rfl, trivial⟩, trivial⟩, by (try simp only); omega⟩
          · rcases Nat.lt_or_ge j m with h7 | h7
            · exact hbm j h7
            · obtain rfl : j = m := by omega
              exact hp
          · exact some_i64 (by (try simp only); omega)
        · have hs : largeP t = true := by unfold largeP; rw [anyT_true e1 e2 hp, Bool.or_true]; rfl
          have d5 : decide ((400 : Int) < (((t.outs.getD m default).script.length : Nat) : Int)) = true := decide_eq_true (by have := of_decide_eq_true hp; omega)
          simp (config := {dsimp := false}) only [↓vp0, vz, vn, nq, tys, cellD, wideIR, if_true, if_false, implies_true, forall_const, ne_eq, reduceIte, reduceCtorEq, Nat.reduceEqDiff, Nat.reduceAdd, Nat.reduceMul, Nat.reduceLT, Nat.reduceSub, Nat.reduceLeDiff, Nat.reduceBNe, Nat.reduceBEq, Nat.reduceBeqDiff, List.range, List.range.loop, gl0, Tryd.ntmps4, Tryd.results4, Int.toNat_natCast, g1, outD, d3, d4, d5, hs, givesIf]
          exact ⟨by omega, by omega⟩
      · have d4 : decide (((m : Nat) : Int) < 50) = false := decide_eq_false (by omega)
        have hO : (t.outs.take 50).any outLarge = false := anyT_false fun j h1 h2 => hbm j (by omega)
        have hs : largeP t = (decide (40 < t.ins.length) || decide (40 < t.outs.length)) := by unfold largeP; rw [hI, hO]; rfl
        by_cases f1 : 40 < t.ins.length
        · have d5 : decide ((40 : Int) < ((t.ins.length : Nat) : Int)) = true := decide_eq_true (by omega)
          rw [decide_eq_true f1, Bool.true_or] at hs
          simp (config := {dsimp := false}) only [↓vp0, vz, vn, nq, tys, cellD, wideIR, if_true, if_false, implies_true, forall_const, ne_eq, reduceIte, reduceCtorEq, Nat.reduceEqDiff, Nat.reduceAdd, Nat.reduceMul, Nat.reduceLT, Nat.reduceSub, Nat.reduceLeDiff, Nat.reduceBNe, Nat.reduceBEq, Nat.reduceBeqDiff, List.range, List.range.loop, gl0, Tryd.ntmps4, Tryd.results4, d3, d4, d5, hs, givesIf]
          all_goals rfl
        · have d5 : decide ((40 : Int) < ((t.ins.length : Nat) : Int)) = false := decide_eq_false (by omega)
          have d6 : decide ((40 : Int) < ((t.outs.length : Nat) : Int)) = decide (40 < t.outs.length) := decide_eq_decide.2 (by omega)
          rw [decide_eq_false f1, Bool.false_or] at hs
          simp (config := {dsimp := false}) only [↓vp0, vz, vn, nq, tys, cellD, wideIR, if_true, if_false, implies_true, forall_const, ne_eq, reduceIte, reduceCtorEq, Nat.reduceEqDiff, Nat.reduceAdd, Nat.reduceMul, Nat.reduceLT, Nat.reduceSub, Nat.reduceLeDiff, Nat.reduceBNe, Nat.reduceBEq, Nat.reduceBeqDiff, List.range, List.range.loop, gl0, Tryd.ntmps4, Tryd.results4, d3, d4, d5, d6, hs, givesIf]
          all_goals rfl
    · have d3 : decide (((m : Nat) : Int) < ((t.outs.length : Nat) : Int)) = false := decide_eq_false (by omega)
      have hO : (t.outs.take 50).any outLarge = false := anyT_false fun j h1 h2 => hbm j (by omega)
      have hs : largeP t = (decide (40 < t.ins.length) || decide (40 < t.outs.length)) := by unfold largeP; rw [hI, hO]; rfl
      by_cases f1 : 40 < t.ins.length
      · have d5 : decide ((40 : Int) < ((t.ins.length : Nat) : Int)) = true := decide_eq_true (by omega)
        rw [decide_eq_true f1, Bool.true_or] at hs
        simp (config := {dsimp := false}) only [↓vp0, vz, vn, nq, tys, cellD, wideIR, if_true, if_false, implies_true, forall_const, ne_eq, reduceIte, reduceCtorEq, Nat.reduceEqDiff, Nat.reduceAdd, Nat.reduceMul, Nat.reduceLT, Nat.reduceSub, Nat.reduceLeDiff, Nat.reduceBNe, Nat.reduceBEq, Nat.reduceBeqDiff, List.range, List.range.loop, gl0, Tryd.ntmps4, Tryd.results4, d3, d5, hs, givesIf]
        all_goals rfl
      · have d5 : decide ((40 : Int) < ((t.ins.length : Nat) : Int)) = false := decide_eq_false (by omega)
        have d6 : decide ((40 : Int) < ((t.outs.length : Nat) : Int)) = decide (40 < t.outs.length) := decide_eq_decide.2 (by omega)
        rw [decide_eq_false f1, Bool.false_or] at hs
        simp (config := {dsimp := false}) only [↓vp0, vz, vn, nq, tys, cellD, wideIR, if_true, if_false, implies_true, forall_const, ne_eq, reduceIte, reduceCtorEq, Nat.reduceEqDiff, Nat.reduceAdd, Nat.reduceMul, Nat.reduceLT, Nat.reduceSub, Nat.reduceLeDiff, Nat.reduceBNe, Nat.reduceBEq, Nat.reduceBeqDiff, List.range, List.range.loop, gl0, Tryd.ntmps4, Tryd.results4, d3, d5, d6, hs, givesIf]
        all_goals rfl
  · simp (config := {dsimp := false}) only [↓vp0, vz, vn, nq, tys, cellD, wideIR, if_true, if_false, implies_true, forall_const, ne_eq, reduceIte, reduceCtorEq, Nat.reduceEqDiff, Nat.reduceAdd, Nat.reduceMul, Nat.reduceLT, Nat.reduceSub, Nat.reduceLeDiff, Nat.reduceBNe, Nat.reduceBEq, Nat.reduceBeqDiff, List.range, List.range.loop, gl0, Tryd.ntmps4, Tryd.results4, d1]
    refine loopI {m : Nat // m ≤ t.outs.length ∧ m ≤ 50 ∧ ∀ j, j < m → outLarge (t.outs.getD j default) = false} (fun m => [(5, .int .i64 (m.1 : Nat)), (1, .bp 0 0)]) (fun _ => ⟨[(0, .agg [.int .u32 t.ver, .sl .no 36 (insD t.ins), .sl .no 2 (outsD t.outs), .int .u32 t.lock])], [], 52⟩) (fun m => t.outs.length - m.1) ⟨0, by simp⟩ (fun _ => rfl) ?_ ?_
    · exact ⟨⟨wkD_eq rfl, rfl, wkD_eq rfl, rfl, trivial⟩, ⟨rfl, Nat.le_of_ble_eq_true rfl, rfl, trivial⟩, trivial⟩
    rintro ⟨m, hm, hm50, hbm⟩
    by_cases e1 : m < t.outs.length
    · have d3 : decide (((m : Nat) : Int) < ((t.outs.length : Nat) : Int)) = true := decide_eq_true (by omega)
      by_cases e2 : m < 50
      · have d4 : decide (((m : Nat) : Int) < 50) = true := decide_eq_true (by omega)
        have g1 := outsD_get t.outs m e1
        have hx := ht.outs _ (getD_memI e1)
        have hms := hx.script.2
        cases hp : outLarge (t.outs.getD m default)
        · have d5 : decide ((400 : Int) < (((t.outs.getD m default).script.length : Nat) : Int)) = false := decide_eq_false (by have := of_decide_eq_false hp; omega)
          simp (config := {dsimp := false}) only [↓vp0, vz, vn, nq, tys, cellD, wideIR, if_true, if_false, implies_true, forall_const, ne_eq, reduceIte, reduceCtorEq, Nat.reduceEqDiff, Nat.reduceAdd, Nat.reduceMul, Nat.reduceLT, Nat.reduceSub, Nat.reduceLeDiff, Nat.reduceBNe, Nat.reduceBEq, Nat.reduceBeqDiff, List.range, List.range.loop, gl0, Tryd.ntmps4, Tryd.results4, Int.toNat_natCast, g1, outD, d3, d4, d5]
          refine ⟨by omega, by omega, ⟨m + 1, by omega, by omega, fun j hj => ?_⟩, ⟨⟨wkD_eq ?_, rfl, wkD_eq rfl, rfl, trivial⟩, ⟨rfl, Nat.le_of_ble_eq_true rfl, rfl, trivial⟩, trivial⟩, by (try simp only); omega⟩
          · rcases Nat.lt_or_ge j m with h7 | h7
            · exact hbm j h7
            · obtain rfl : j = m := by omega
              exact hp
          · exact some_i64 (by (try simp only); omega)
        · have hs : largeP t = true := by unfold largeP; rw [anyT_true e1 e2 hp, Bool.or_true]; rfl
          have d5 : decide ((400 : Int) < (((t.outs.getD m default).script.length : Nat) : Int)) = true := decide_eq_true (by have := of_decide_eq_true hp; omega)
          simp (config := {dsimp := false}) only [↓vp0, vz, vn, nq, tys, cellD, wideIR, if_true, if_false, implies_true, forall_const, ne_eq, reduceIte, reduceCtorEq, Nat.reduceEqDiff, Nat.reduceAdd, Nat.reduceMul, Nat.reduceLT, Nat.reduceSub, Nat.reduceLeDiff, Nat.reduceBNe, Nat.reduceBEq, Nat.reduceBeqDiff, List.range, List.range.loop, gl0, Tryd.ntmps4, Tryd.results4, Int.toNat_natCast, g1, outD, d3, d4, d5, hs, givesIf]
          exact ⟨by omega, by omega⟩
      · have d4 : decide (((m : Nat) : Int) < 50) = false := decide_eq_false (by omega)
        have hO : (t.outs.take 50).any outLarge = false := anyT_false fun j h1 h2 => hbm j (by omega)
        have hs : largeP t = (decide (40 < t.ins.length) || decide (40 < t.outs.length)) := by unfold largeP; rw [hI, hO]; rfl
        by_cases f1 : 40 < t.ins.length
        · have d5 : decide ((40 : Int) < ((t.ins.length : Nat) : Int)) = true := decide_eq_true (by omega)
          rw [decide_eq_true f1, Bool.true_or] at hs
          simp (config := {dsimp := false}) only [↓vp0, vz, vn, nq, tys, cellD, wideIR, if_true, if_false, implies_true, forall_const, ne_eq, reduceIte, reduceCtorEq, Nat.reduceEqDiff, Nat.reduceAdd, Nat.reduceMul, Nat.reduceLT, Nat.reduceSub, Nat.reduceLeDiff, Nat.reduceBNe, Nat.reduceBEq, Nat.reduceBeqDiff, List.range, List.range.loop, gl0, Tryd.ntmps4, Tryd.results4, d3, d4, d5, hs, givesIf]
          all_goals rfl
        · have d5 : decide ((40 : Int) < ((t.ins.length : Nat) : Int)) = false := decide_eq_false (by omega)
          have d6 : decide ((40 : Int) < ((t.outs.length : Nat) : Int)) = decide (40 < t.outs.length) := decide_eq_decide.2 (by omega)
          rw [decide_eq_false f1, Bool.false_or] at hs
          simp (config := {dsimp := false}) only [↓vp0, vz, vn, nq, tys, cellD, wideIR, if_true, if_false, implies_true, forall_const, ne_eq, reduceIte, reduceCtorEq, Nat.reduceEqDiff, Nat.reduceAdd, Nat.reduceMul, Nat.reduceLT, Nat.reduceSub, Nat.reduceLeDiff, Nat.reduceBNe, Nat.reduceBEq, Nat.reduceBeqDiff, List.range, List.range.loop, gl0, Tryd.ntmps4, Tryd.results4, d3, d4, d5, d6, hs, givesIf]
          all_goals rfl
    · have d3 : decide (((m : Nat) : Int) < ((t.outs.length : Nat) : Int)) = false := decide_eq_false (by omega)
      have hO : (t.outs.take 50).any outLarge = false := anyT_false fun j h1 h2 => hbm j (by omega)
      have hs : largeP t = (decide (40 < t.ins.length) || decide (40 < t.outs.length)) := by unfold largeP; rw [hI, hO]; rfl
      by_cases f1 : 40 < t.ins.length
      · have d5 : decide ((40 : Int) < ((t.ins.length : Nat) : Int)) = true := decide_eq_true (by omega)
        rw [decide_eq_true f1, Bool.true_or] at hs
        simp (config := {dsimp := false}) only [↓vp0, vz, vn, nq, tys, cellD, wideIR, if_true, if_false, implies_true, forall_const, ne_eq, reduceIte, reduceCtorEq, Nat.reduceEqDiff, Nat.reduceAdd, Nat.reduceMul, Nat.reduceLT, Nat.reduceSub, Nat.reduceLeDiff, Nat.reduceBNe, Nat.reduceBEq, Nat.reduceBeqDiff, List.range, List.range.loop, gl0, Tryd.ntmps4, Tryd.results4, d3, d5, hs, givesIf]
        all_goals rfl
      · have d5 : decide ((40 : Int) < ((t.ins.length : Nat) : Int)) = false := decide_eq_false (by omega)
        have d6 : decide ((40 : Int) < ((t.outs.length : Nat) : Int)) = decide (40 < t.outs.length) := decide_eq_decide.2 (by omega)
        rw [decide_eq_false f1, Bool.false_or] at hs
        simp (config := {dsimp := false}) only [↓vp0, vz, vn, nq, tys, cellD, wideIR, if_true, if_false, implies_true, forall_const, ne_eq, reduceIte, reduceCtorEq, Nat.reduceEqDiff, Nat.reduceAdd, Nat.reduceMul, Nat.reduceLT, Nat.reduceSub, Nat.reduceLeDiff, Nat.reduceBNe, Nat.reduceBEq, Nat.reduceBeqDiff, List.range, List.range.loop, gl0, Tryd.ntmps4, Tryd.results4, d3, d5, d6, hs, givesIf]
        all_goals rfl
end Go.Vi.TP
end

section
set_option linter.unusedVariables false
set_option linter.unusedSimpArgs false
namespace Go.Proofs
open Go.RowKit Go.Shelf Go.Vi
attribute [local go_sem] Oper.semAt_some
theorem heap_alloc (w : World) (o : Obj) : (w.alloc o).heap = w.heap.push o := rfl
theorem row_newer {g : Gh} {w w' : World} {b : Nat} {cells : Array Value} {ty : TypeId} (hb : w.heap.size ≤ b) (hg : w'.heap[b]? = some (.cells cells ty (0, 0))) (G : Gh) (hG : G.lim = (g.newer w w').lim) : Row G w' (some ⟨b, 0, none⟩) cells.toList := by
  intro hne
  refine ⟨b, 0, rfl, ?_, ?_⟩
  · rw [hG]
    have : ¬ b < w.heap.size := by omega
    simp only [Gh.newer, this, if_false, rowSize, hg]
    simp
  · intro i v hv
    rw [cell_of_row w' b _ cells ty (0, 0) hg]
    simpa using hv
theorem row_nil (G : Gh) (w : World) : Row G w none [] := fun h => absurd rfl h
def inCells (a : Option Addr) : List Value := ints .u8 (List.replicate 32 0) ++ [.int .u32 0, .slice none 0 0, .int .u32 5, .slice a 1 1]
/-- An input of one witness, as its cells. -/
theorem rep_wit {G : Gh} {w : World} {a : Option Addr} (h : RepC G w (.sl .no 1 [.sli .no .u8 [170]]) [.slice a 1 1]) :
    RepC G w (.agg [.agg [.arr .u8 32 (List.replicate 32 0), .int .u32 0], .sl .no 0 [], .int .u32 5, .sl .no 1 [.sli .no .u8 [170]]]) (inCells a) :=
  ⟨ints .u8 (List.replicate 32 0) ++ [.int .u32 0], [.slice none 0 0, .int .u32 5, .slice a 1 1], rfl, ⟨ints .u8 (List.replicate 32 0), [.int .u32 0], rfl, ⟨rfl, rfl⟩, [.int .u32 0], [], rfl, rfl, rfl⟩,
    [.slice none 0 0], [.int .u32 5, .slice a 1 1], rfl, ⟨none, 0, [], rfl, Nat.le_refl _, rfl, row_nil _ _, trivial⟩, [.int .u32 5], [.slice a 1 1], rfl, rfl, [.slice a 1 1], [], rfl, h, rfl⟩

set_option maxRecDepth 100000 in
set_option maxHeartbeats 2000000 in
theorem Tryd.witn_k (g : Gh) (w : World) : Calls Tryd.prog 19 #[] w fun e w' => ∃ v, e = .returned v ∧ Rep (g.newer w w') w' witnD v ∧ Below w.heap.size w w' := by
  refine calls_of_wp Tryd.func19 rfl ?_
  simp only [Tryd.ntmps19, List.size_toArray, List.length_cons, List.length_nil, Nat.reduceAdd, Nat.reduceSub, Array.replicate_succ, Array.replicate_zero, List.push_toArray, List.append_toArray, List.nil_append, List.cons_append]
  go_wp2
  refine bodyPost_ret (results_cell_row (g := w.heap.size + 1) (t := 26) (fr := (0, 0)) (cs := #[.int .u32 1, .slice (some ⟨w.heap.size + 1 + 1, 0, none⟩) 1 1, .slice (some ⟨w.heap.size + 1 + 1 + 1 + 1, 0, none⟩) 1 1, .int .u32 9]) rfl _ _ _ rfl ?_ Tryd.underlying26 rfl ?_) rfl ?_
  · simp only [heap_alloc, Array.getElem?_push, Array.size_push]
    repeat rw [if_neg (by omega)]
    first | rfl | (rw [if_pos (by omega)]; rfl)
  · kernel_rfl
  simp only []
  go_at_K
  go_wp2
  refine bodyPost_ret (results_cell_row (g := w.heap.size) (t := 26) (fr := (0, 0)) (cs := #[.int .u32 1, .slice (some ⟨w.heap.size + 1 + 1, 0, none⟩) 1 1, .slice (some ⟨w.heap.size + 1 + 1 + 1 + 1, 0, none⟩) 1 1, .int .u32 9]) rfl _ _ _ rfl ?_ Tryd.underlying26 rfl ?_) rfl ?_
  · simp only [heap_alloc, Array.getElem?_push, Array.size_push]
    repeat rw [if_neg (by omega)]
    first | rfl | (rw [if_pos (by omega)]; rfl)
  · kernel_rfl
  refine ⟨_, rfl, ?_, ?_⟩
  · generalize hW : World.alloc _ _ = W'
    have h2 : W'.heap[w.heap.size + 1 + 1]? = some (.cells (inCells (some ⟨w.heap.size + 1 + 1 + 1 + 1 + 1 + 1 + 1, 0, none⟩)).toArray 45 (0, 0)) := by
      subst hW
      simp only [heap_alloc, Array.getElem?_push, Array.size_push]
      repeat rw [if_neg (by omega)]
      first | rfl | (rw [if_pos (by omega)]; rfl)
    have h3 : W'.heap[w.heap.size + 1 + 1 + 1]? = some (.cells #[.int .u8 81] 5 (0, 0)) := by
      subst hW
      simp only [heap_alloc, Array.getElem?_push, Array.size_push]
      repeat rw [if_neg (by omega)]
      first | rfl | (rw [if_pos (by omega)]; rfl)
    have h4 : W'.heap[w.heap.size + 1 + 1 + 1 + 1]? = some (.cells #[.int .i64 7, .slice (some ⟨w.heap.size + 1 + 1 + 1, 0, none⟩) 1 1] 47 (0, 0)) := by
      subst hW
      simp only [heap_alloc, Array.getElem?_push, Array.size_push]
      repeat rw [if_neg (by omega)]
      first | rfl | (rw [if_pos (by omega)]; rfl)
    have h6 : W'.heap[w.heap.size + 1 + 1 + 1 + 1 + 1 + 1]? = some (.cells #[.int .u8 170] 5 (0, 0)) := by
      subst hW
      simp only [heap_alloc, Array.getElem?_push, Array.size_push]
      repeat rw [if_neg (by omega)]
      first | rfl | (rw [if_pos (by omega)]; rfl)
    have h7 : W'.heap[w.heap.size + 1 + 1 + 1 + 1 + 1 + 1 + 1]? = some (.cells #[.slice (some ⟨w.heap.size + 1 + 1 + 1 + 1 + 1 + 1, 0, none⟩) 1 1] 27 (0, 0)) := by
      subst hW
      simp only [heap_alloc, Array.getElem?_push, Array.size_push]
      repeat rw [if_neg (by omega)]
      first | rfl | (rw [if_pos (by omega)]; rfl)
    clear hW
    have r6 : ∀ G : Gh, G.lim = (g.newer w W').lim → RepC G W' (.sli .no .u8 [170]) [.slice (some ⟨w.heap.size + 1 + 1 + 1 + 1 + 1 + 1, 0, none⟩) 1 1] := fun G hG => ⟨_, 1, rfl, Nat.le_refl _, row_newer (by omega) h6 G hG, trivial⟩
    have r3 : ∀ G : Gh, G.lim = (g.newer w W').lim → RepC G W' (.sli .no .u8 [81]) [.slice (some ⟨w.heap.size + 1 + 1 + 1, 0, none⟩) 1 1] := fun G hG => ⟨_, 1, rfl, Nat.le_refl _, row_newer (by omega) h3 G hG, trivial⟩
    have r7 : ∀ G : Gh, G.lim = (g.newer w W').lim → RepC G W' (.sl .no 1 [.sli .no .u8 [170]]) [.slice (some ⟨w.heap.size + 1 + 1 + 1 + 1 + 1 + 1 + 1, 0, none⟩) 1 1] := fun G hG =>
      ⟨_, 1, [.slice (some ⟨w.heap.size + 1 + 1 + 1 + 1 + 1 + 1, 0, none⟩) 1 1], rfl, Nat.le_refl _, ⟨_, [], rfl, rfl, r6 G.bare hG, rfl⟩, row_newer (by omega) h7 G hG, trivial⟩
    refine ⟨[_, _, _, _], rfl, [_], [_, _, _], rfl, rfl, [_], [_, _], rfl, ?_, [_], [_], rfl, ?_, [_], [], rfl, rfl, rfl⟩
    · exact ⟨_, 1, inCells (some ⟨w.heap.size + 1 + 1 + 1 + 1 + 1 + 1 + 1, 0, none⟩), rfl, Nat.le_refl _, ⟨_, [], (List.append_nil _).symm, rfl, rep_wit (r7 _ rfl), rfl⟩, row_newer (by omega) h2 _ rfl, trivial⟩
    · exact ⟨_, 1, [.int .i64 7, .slice (some ⟨w.heap.size + 1 + 1 + 1, 0, none⟩) 1 1], rfl, Nat.le_refl _, ⟨_, [], rfl, rfl, ⟨[_], [_], rfl, rfl, [_], [], rfl, r3 _ rfl, rfl⟩, rfl⟩, row_newer (by omega) h4 _ rfl, trivial⟩
  · iterate 8 refine Below.alloc ?_ (by (try simp only [heap_alloc, Array.size_push]); omega) _
    exact Below.refl _ _
end Go.Proofs
namespace Go.Vi.TP
open Go.Proofs Go.RowKit
theorem c_witn : Contract E 19 := by
  refine contract_callsT (p := sp_witn) (fun _ _ _ => rfl) fun xs hv g w vs _ hr => ?_
  unfold sp_witn at hv ⊢
  split at hv
  case h_2 => exact hv.elim
  obtain rfl : vs = [] := hr
  exact Tryd.witn_k g w
end Go.Vi.TP
end

section
set_option linter.unusedVariables false
set_option linter.unusedSimpArgs false
set_option maxHeartbeats 0
set_option maxRecDepth 20000
namespace Go.Vi.TP
open Go.Proofs

theorem c_given : Contract E 18 := by
  refine contract_seeT hE hgl (show E.P.funcs[18]? = some Tryd.f18 from Tryd.func18) rfl (p := sp_given) (fun _ _ _ => rfl) ?_
  intro args hv
  unfold sp_given at hv ⊢
  split at hv
  case h_2 => exact hv.elim
  refine ⟨by simp, Nat.le_of_ble_eq_true rfl, ?_⟩
  simp (config := {dsimp := false}) only [↓vp0, vz, vn, nq, tys, cellD, wideIR, if_true, if_false, implies_true, forall_const, ne_eq, reduceIte, reduceCtorEq, Nat.reduceEqDiff, Nat.reduceAdd, Nat.reduceMul, Nat.reduceLT, Nat.reduceSub, Nat.reduceLeDiff, Nat.reduceBNe, Nat.reduceBEq, Nat.reduceBeqDiff, List.range, List.range.loop, gl0, Tryd.ntmps18, Tryd.results18]
  simp only [gives, givenD, D.bare, bares, Own.bare, D.strip, D.strips, stripO, if_true]
end Go.Vi.TP
end

section
set_option linter.unusedVariables false
set_option linter.unusedSimpArgs false
set_option maxHeartbeats 0
set_option maxRecDepth 20000
namespace Go.Vi.TP
open Go.Proofs

theorem c_tawake : Contract E 5 := by
  refine contract_seeT hE hgl (show E.P.funcs[5]? = some Tryd.f5 from Tryd.func5) rfl (p := sp_tawake) (fun _ _ _ => rfl) ?_
  intro args hv
  unfold sp_tawake at hv ⊢
  split at hv
  case h_2 => exact hv.elim
  refine ⟨by simp, Nat.le_of_ble_eq_true rfl, ?_⟩
  obtain ⟨L, hp, l1, s1, s2⟩ : ∃ L, putV [] ⟨1, ins [D.agg [D.agg [D.arr .u8 32 (List.replicate 32 0), D.int .u32 0], D.sli .no .u8 [], D.int .u32 5, D.sl .no 1 []]], outs [D.agg [D.int .i64 7, D.sli .no .u8 [81]]], 9⟩ (witnessedP ⟨1, ins [D.agg [D.agg [D.arr .u8 32 (List.replicate 32 0), D.int .u32 0], D.sli .no .u8 [], D.int .u32 5, D.sl .no 1 []]], outs [D.agg [D.int .i64 7, D.sli .no .u8 [81]]], 9⟩) = .tup [.sli .no .u8 L, .int .i64 0] ∧ L.length = 61 ∧ strOfNums (List.drop (Int.toNat 0) (List.take (Int.toNat 5) L)) = ⟨#[1, 0, 0, 0, 1]⟩ ∧ strOfNums (List.drop (Int.toNat 46) (List.take (Int.toNat 58) L)) = ⟨#[1, 7, 0, 0, 0, 0, 0, 0, 0, 1, 81, 9]⟩ :=
    ⟨layI givenP false, by kernel_rfl, by kernel_rfl, by kernel_rfl, by kernel_rfl⟩
  obtain ⟨M, hm, m1, s3⟩ : ∃ L, putV [] ⟨1, ins [D.agg [D.agg [D.arr .u8 32 (List.replicate 32 0), D.int .u32 0], D.sli .no .u8 [], D.int .u32 5, D.sl .no 1 [D.sli .no .u8 [170]]]], outs [D.agg [D.int .i64 7, D.sli .no .u8 [81]]], 9⟩ (witnessedP ⟨1, ins [D.agg [D.agg [D.arr .u8 32 (List.replicate 32 0), D.int .u32 0], D.sli .no .u8 [], D.int .u32 5, D.sl .no 1 [D.sli .no .u8 [170]]]], outs [D.agg [D.int .i64 7, D.sli .no .u8 [81]]], 9⟩) = .tup [.sli .no .u8 L, .int .i64 0] ∧ L.length = 66 ∧ strOfNums (List.drop (Int.toNat 4) (List.take (Int.toNat 7) L)) = ⟨#[0, 1, 1]⟩ :=
    ⟨layI witnP true, by kernel_rfl, by kernel_rfl, by kernel_rfl⟩
  simp (config := {dsimp := false}) only [↓vp0, vz, vn, nq, tys, cellD, wideIR, if_true, if_false, implies_true, forall_const, ne_eq, reduceIte, reduceCtorEq, Nat.reduceEqDiff, Nat.reduceAdd, Nat.reduceMul, Nat.reduceLT, Nat.reduceSub, Nat.reduceLeDiff, Nat.reduceBNe, Nat.reduceBEq, Nat.reduceBeqDiff, List.range, List.range.loop, gl0, Tryd.ntmps5, Tryd.results5, PF.toR, gives, givesIf, givenD, witnD, hp, hm, l1, m1, spec_given, sp_given, c_given, b_given, spec_witn, sp_witn, c_witn, b_witn, spec_tput, sp_tput, c_tput, b_tput]
  refine ⟨tx_okT given_ok, tx_okT witn_ok, ?_⟩
  replace s1 : strOfNums (List.take 5 L) = ⟨#[1, 0, 0, 0, 1]⟩ := s1
  replace s2 : strOfNums (List.drop 46 (List.take 58 L)) = ⟨#[1, 7, 0, 0, 0, 0, 0, 0, 0, 1, 81, 9]⟩ := s2
  replace s3 : strOfNums (List.drop 4 (List.take 7 M)) = ⟨#[0, 1, 1]⟩ := s3
  simp [s1, s2, s3]
end Go.Vi.TP
end

section
set_option linter.unusedVariables false
set_option linter.unusedSimpArgs false
set_option maxHeartbeats 0
set_option maxRecDepth 20000
namespace Go.Vi.TP
open Go.Proofs

theorem strN_app (a b : List Int) : strOfNums (a ++ b) = strOfNums a ++ strOfNums b := by
  unfold strOfNums
  apply ByteArray.ext
  simp [ByteArray.data_append]
theorem strN_len (a : List Int) : (strOfNums a).size = a.length := by
  show (List.toArray _).size = _
  simp
theorem c_lawTxPuts : Contract E 3 := by
  refine contract_seeT hE hgl (show E.P.funcs[3]? = some Tryd.f3 from Tryd.func3) rfl (p := sp_lawTxPuts) (fun _ _ _ => rfl) ?_
  intro args hv
  unfold sp_lawTxPuts at hv ⊢
  split at hv
  case h_2 => exact hv.elim
  rename_i v is os l ahead
  refine ⟨by simp, Nat.le_of_ble_eq_true rfl, ?_⟩
  simp only [givesIf] at hv
  obtain ⟨h1, hby, hal⟩ := hv
  have g1 := h1
  obtain ⟨t, rfl, rfl, rfl, rfl, ht⟩ := h1
  have et : (⟨t.ver, ins (insD t.ins), outs (outsD t.outs), t.lock⟩ : TxP) = t := by rw [ins_D, outs_D]
  cases hs : largeP t
  case true =>
    simp (config := {dsimp := false}) only [↓vp0, vz, vn, nq, tys, cellD, wideIR, if_true, if_false, implies_true, forall_const, ne_eq, reduceIte, reduceCtorEq, Nat.reduceEqDiff, Nat.reduceAdd, Nat.reduceMul, Nat.reduceLT, Nat.reduceSub, Nat.reduceLeDiff, Nat.reduceBNe, Nat.reduceBEq, Nat.reduceBeqDiff, List.range, List.range.loop, gl0, Tryd.ntmps3, Tryd.results3, PF.toR, gives, givesIf, et, hs, spec_large, sp_large, c_large, b_large, spec_tawake, sp_tawake, c_tawake, b_tawake]
    exact g1
  by_cases hl : ahead.length ≤ 1000
  case neg =>
    have d1 : decide ((1000 : Int) < ((ahead.length : Nat) : Int)) = true := decide_eq_true (by omega)
    simp (config := {dsimp := false}) only [↓vp0, vz, vn, nq, tys, cellD, wideIR, if_true, if_false, implies_true, forall_const, ne_eq, reduceIte, reduceCtorEq, Nat.reduceEqDiff, Nat.reduceAdd, Nat.reduceMul, Nat.reduceLT, Nat.reduceSub, Nat.reduceLeDiff, Nat.reduceBNe, Nat.reduceBEq, Nat.reduceBeqDiff, List.range, List.range.loop, gl0, Tryd.ntmps3, Tryd.results3, PF.toR, gives, givesIf, et, hs, d1, spec_large, sp_large, c_large, b_large, spec_tawake, sp_tawake, c_tawake, b_tawake]
    exact g1
  have d1 : decide ((1000 : Int) < ((ahead.length : Nat) : Int)) = false := decide_eq_false (by omega)
  obtain ⟨ho, -, -⟩ := large_ok ht hs
  have hok := tx_okT ho
  obtain ⟨W, hW⟩ : ∃ W, witnessedP t = W := ⟨_, rfl⟩
  have hW' : t.ins.any hasWit = W := hW
  by_cases h : checkP t = 0
  · have hd : decide (checkP t = 0) = true := decide_eq_true h
    have hl1 := lay_len ho h W
    have hl2 := lay_len ho h false
    have p1 : putV ahead t W = .tup [.sli .no .u8 (ahead ++ layI t W), .int .i64 0] := put_0 h
    have p2 : putV [] t W = .tup [.sli .no .u8 (layI t W), .int .i64 0] := put_0 h
    have p3 : putV ahead t false = .tup [.sli .no .u8 (ahead ++ layI t false), .int .i64 0] := put_0 h
    have p4 : putV [] t false = .tup [.sli .no .u8 (layI t false), .int .i64 0] := put_0 h
    simp (config := {dsimp := false}) only [↓vp0, vz, vn, nq, tys, cellD, wideIR, if_true, if_false, implies_true, forall_const, ne_eq, reduceIte, reduceCtorEq, Nat.reduceEqDiff, Nat.reduceAdd, Nat.reduceMul, Nat.reduceLT, Nat.reduceSub, Nat.reduceLeDiff, Nat.reduceBNe, Nat.reduceBEq, Nat.reduceBeqDiff, List.range, List.range.loop, gl0, Tryd.ntmps3, Tryd.results3, PF.toR, gives, givesIf, et, hs, d1, hW, p1, p2, p3, p4, spec_large, sp_large, c_large, b_large, spec_tput, sp_tput, c_tput, b_tput, spec_rput, sp_rput, c_rput, b_rput, spec_tbare, sp_tbare, c_tbare, b_tbare, spec_rbare, sp_rbare, c_rbare, b_rbare]
    refine ⟨g1, by omega, hok, by omega, hok, hok, by omega, hok, ?_⟩
    refine drawI [1, 2, 5, 6, 7, 8, 9, 10, 11, 12, 13] (by kernel_rfl) ?_
    simp (config := {dsimp := false}) only [↓vp0, vz, vn, nq, tys, cellD, wideIR, if_true, if_false, implies_true, forall_const, ne_eq, reduceIte, reduceCtorEq, Nat.reduceEqDiff, Nat.reduceAdd, Nat.reduceMul, Nat.reduceLT, Nat.reduceSub, Nat.reduceLeDiff, Nat.reduceBNe, Nat.reduceBEq, Nat.reduceBeqDiff, List.range, List.range.loop, gl0, Tryd.ntmps3, Tryd.results3, PF.toR, gives, givesIf, et, h, hW', eq_self, decide_true, strN_app, strN_len, spec_tcheck, sp_tcheck, c_tcheck, b_tcheck, spec_rcheck, sp_tcheck, c_rcheck, b_rcheck, spec_twitnessed, sp_twitnessed, c_twitnessed, b_twitnessed, spec_rwitnessed, sp_twitnessed, c_rwitnessed, b_rwitnessed]
    refine ⟨hok, hok, hok, hok, by omega, by omega, ?_⟩
    refine drawI [1, 2, 5] (by kernel_rfl) ?_
    obtain ⟨I, hI⟩ : ∃ I, idP t = I := ⟨_, rfl⟩
    obtain ⟨F, hF⟩ : ∃ F, fullP t = F := ⟨_, rfl⟩
    simp (config := {dsimp := false}) only [↓vp0, vz, vn, nq, tys, cellD, wideIR, if_true, if_false, implies_true, forall_const, ne_eq, reduceIte, reduceCtorEq, Nat.reduceEqDiff, Nat.reduceAdd, Nat.reduceMul, Nat.reduceLT, Nat.reduceSub, Nat.reduceLeDiff, Nat.reduceBNe, Nat.reduceBEq, Nat.reduceBeqDiff, List.range, List.range.loop, gl0, Tryd.ntmps3, Tryd.results3, PF.toR, gives, givesIf, et, hI, hF, eq_self, decide_true, spec_tid, sp_tid, c_tid, b_tid, spec_rid, sp_tid, c_rid, b_rid, spec_tfull, sp_tfull, c_tfull, b_tfull, spec_rfull, sp_tfull, c_rfull, b_rfull, spec_tawake, sp_tawake, c_tawake, b_tawake]
    exact hok
  · have hd : decide (checkP t = 0) = false := decide_eq_false h
    have hw0 : decide ((0 : Int) < IntKind.i64.wrap (((0 : Nat) : Int) + ((0 : Nat) : Int))) = false := by decide
    have p1 : putV ahead t W = .tup [.sl .full 0 [], .int .i64 (checkP t)] := put_e h
    have p2 : putV [] t W = .tup [.sl .full 0 [], .int .i64 (checkP t)] := put_e h
    have p3 : putV ahead t false = .tup [.sl .full 0 [], .int .i64 (checkP t)] := put_e h
    have p4 : putV [] t false = .tup [.sl .full 0 [], .int .i64 (checkP t)] := put_e h
    simp (config := {dsimp := false}) only [↓vp0, vz, vn, nq, tys, cellD, wideIR, if_true, if_false, implies_true, forall_const, ne_eq, reduceIte, reduceCtorEq, Nat.reduceEqDiff, Nat.reduceAdd, Nat.reduceMul, Nat.reduceLT, Nat.reduceSub, Nat.reduceLeDiff, Nat.reduceBNe, Nat.reduceBEq, Nat.reduceBeqDiff, List.range, List.range.loop, gl0, Tryd.ntmps3, Tryd.results3, PF.toR, gives, givesIf, et, hs, d1, hW, p1, p2, p3, p4, spec_large, sp_large, c_large, b_large, spec_tput, sp_tput, c_tput, b_tput, spec_rput, sp_rput, c_rput, b_rput, spec_tbare, sp_tbare, c_tbare, b_tbare, spec_rbare, sp_rbare, c_rbare, b_rbare]
    refine ⟨g1, by omega, hok, by omega, hok, hok, by omega, hok, ?_⟩
    refine drawI [1, 2, 5, 6, 7, 8, 9, 10, 11, 12, 13] (by kernel_rfl) ?_
    simp (config := {dsimp := false}) only [↓vp0, vz, vn, nq, tys, cellD, wideIR, if_true, if_false, implies_true, forall_const, ne_eq, reduceIte, reduceCtorEq, Nat.reduceEqDiff, Nat.reduceAdd, Nat.reduceMul, Nat.reduceLT, Nat.reduceSub, Nat.reduceLeDiff, Nat.reduceBNe, Nat.reduceBEq, Nat.reduceBeqDiff, List.range, List.range.loop, gl0, Tryd.ntmps3, Tryd.results3, PF.toR, gives, givesIf, et, h, hd, hw0, hW', eq_self, decide_true, decide_false, strN_app, strN_len, spec_tcheck, sp_tcheck, c_tcheck, b_tcheck, spec_rcheck, sp_tcheck, c_rcheck, b_rcheck, spec_twitnessed, sp_twitnessed, c_twitnessed, b_twitnessed, spec_rwitnessed, sp_twitnessed, c_rwitnessed, b_rwitnessed]
    refine ⟨hok, hok, hok, hok, ?_⟩
    refine drawI [1, 2, 5] (by kernel_rfl) ?_
    obtain ⟨I, hI⟩ : ∃ I, idP t = I := ⟨_, rfl⟩
    obtain ⟨F, hF⟩ : ∃ F, fullP t = F := ⟨_, rfl⟩
    simp (config := {dsimp := false}) only [↓vp0, vz, vn, nq, tys, cellD, wideIR, if_true, if_false, implies_true, forall_const, ne_eq, reduceIte, reduceCtorEq, Nat.reduceEqDiff, Nat.reduceAdd, Nat.reduceMul, Nat.reduceLT, Nat.reduceSub, Nat.reduceLeDiff, Nat.reduceBNe, Nat.reduceBEq, Nat.reduceBeqDiff, List.range, List.range.loop, gl0, Tryd.ntmps3, Tryd.results3, PF.toR, gives, givesIf, et, hI, hF, eq_self, decide_true, spec_tid, sp_tid, c_tid, b_tid, spec_rid, sp_tid, c_rid, b_rid, spec_tfull, sp_tfull, c_tfull, b_tfull, spec_rfull, sp_tfull, c_rfull, b_rfull, spec_tawake, sp_tawake, c_tawake, b_tawake]
    exact hok
end Go.Vi.TP
end

section
set_option linter.unusedVariables false
set_option linter.unusedSimpArgs false
namespace Go.Proofs.YtckeppediepakaaDoor
open Go.ChangeShapes Go.WideShapes Go.RowKit Go.Vi Go.Vi.TP

theorem Tryd.own : ownKnob Tryd.prog.godebug = none := by kernel_rfl
theorem Tryd.laidOut : laidOutB Tryd.prog = true := by kernel_rfl

theorem globs_of_laid {W : World} (h : laidMetH Tryd.prog [("spinney/sha.roundNumbers", Rows.laid_spinney_sha_roundNumbers)] W) : Globs Go.Vi.TP.E (g0 W) W := by
  rw [MakeChecks.laidMetH_plain _ _ _ (by kernel_rfl)] at h
  obtain ⟨ps, ⟨g, t, cs, fuel, p, q, hg, ht, hv, hd, _, _⟩, _, _⟩ := h
  obtain rfl := Option.some.inj ((show Tryd.prog.globalNamed "spinney/sha.roundNumbers" = some 0 by kernel_rfl).symm.trans hg)
  obtain rfl := Option.some.inj ((show (Tryd.prog.globals[0]?).map (·.type) = some 96 by kernel_rfl).symm.trans ht)
  obtain ⟨xs, m, _, ex, hcl, hl, hel⟩ := DataW.trod_array Tryd.underlying96 hd
  have c5 : Tryd.prog.cellsOf 22 = 1 := by kernel_rfl
  have hlen : kList.length = 64 := by decide
  have e3 : (xs.map (·.1)) = kList.map fun n => .lit (.int .u32 n) :=
    (DataW.agg.inj (Prod.mk.inj ex).1).symm
  have cell : ∀ r, r < 64 → cs.toList[r]? = some (.int .u32 (kList.getD r 0)) := by
    intro r hr
    have hE := hel r hr
    rw [c5, Nat.mul_one, List.getElem?_eq_getElem (by omega)] at hE
    obtain ⟨z, e1, e2, _⟩ := DataW.trod_int Tryd.underlying22 hE
    have e4 : (xs.map (·.1))[r]? = (kList.map fun n => (DataW.lit (.int .u32 n) : DataW Unit))[r]? := by rw [e3]
    rw [List.getElem?_map, List.getElem?_map, List.getElem?_eq_getElem (by omega : r < xs.length), List.getElem?_eq_getElem (by omega : r < kList.length), e2] at e4
    have hz : z = kList.getD r 0 := by
      simp only [Option.map_some, Option.some.injEq, DataW.lit.injEq, Lit.int.injEq, true_and] at e4
      rw [e4, List.getD, List.getElem?_eq_getElem (by omega : r < kList.length)]; rfl
    rw [← hz]
    have h0 : ((cs.toList.drop r).take 1)[0]? = some (.int .u32 z) := by rw [e1]; rfl
    simpa using h0
  have at0 : At W 0 0 (ints .u32 kList) := by
    intro i v hi
    simp only [ints, List.getElem?_map, Option.map_eq_some_iff] at hi
    obtain ⟨z, hz, rfl⟩ := hi
    have hil : i < 64 := by
      have := (List.getElem?_eq_some_iff.1 hz).1
      omega
    have := cell i hil
    rw [List.getD_eq_getElem?_getD, hz] at this
    rw [Nat.zero_add, World.var?_cell hg hv i]
    simpa using this
  intro i d hi
  change glC i = some d at hi
  unfold glC at hi
  split at hi <;> cases hi
  refine ⟨0, 0, ints .u32 kList, rfl, ⟨hlen, rfl⟩, ?_, at0⟩
  have := at0 63 _ (by rw [ints, List.getElem?_map, List.getElem?_eq_getElem (by omega : 63 < kList.length)]; rfl)
  have := cell_lt this
  show 0 + (ints .u32 kList).length ≤ rowSize W 0
  simp only [ints, List.length_map, hlen]
  omega

theorem bytes_of {xs : List Int} (h : ∀ x ∈ xs, (Lit.int .u8 x).wf = true) : Go.Vi.bytes xs := by
  intro x hx
  have := h x hx
  simp only [Lit.wf, Bool.and_eq_true, decide_eq_true_eq, show IntKind.u8.min = 0 from rfl, show IntKind.u8.max = 255 from rfl] at this
  omega

end Go.Proofs.YtckeppediepakaaDoor
end

section
/-
  BLOCKS, as what is handed is read.
-/
set_option linter.unusedVariables false
namespace Go.Vi
open Go.RowKit Go.WideShapes Go.ChangeShapes

theorem lay_nil {P : Program} {a b : Nat} (h : a = b) : LayF P [] a b := h
def rU32 (d : D) : Prop := ∃ n, d = .int .u32 n ∧ (Lit.int .u32 n).wf = true
def rI64 (d : D) : Prop := ∃ n, d = .int .i64 n ∧ (Lit.int .i64 n).wf = true
def rH (d : D) : Prop := ∃ xs, d = .arr .u8 32 xs ∧ xs.length = 32 ∧ ∀ x ∈ xs, (Lit.int .u8 x).wf = true
def rScr (d : D) : Prop := ∃ xs, d = .sli .no .u8 xs ∧ (∀ x ∈ xs, (Lit.int .u8 x).wf = true) ∧ xs.length ≤ maxLen
def rSl (sz : Nat) (R : D → Prop) (d : D) : Prop := ∃ es, d = .sl .no sz es ∧ (∀ x ∈ es, R x) ∧ es.length ≤ maxLen
def rAg (Rs : List (D → Prop)) (d : D) : Prop := ∃ ds, d = .agg ds ∧ All2 (fun d R => R d) ds Rs
def rIn (d : D) : Prop := ∃ x : InP, d = inD x ∧ x.Any
def rOut (d : D) : Prop := ∃ x : OutP, d = outD x ∧ x.Any
def rTx (d : D) : Prop := ∃ x : TxP, d = txD x ∧ x.Any
theorem wf_u32 {n : Int} (h : (Lit.int .u32 n).wf = true) : u32ok n := by
  simp only [Lit.wf, Bool.and_eq_true, decide_eq_true_eq, show IntKind.u32.min = 0 from rfl, show IntKind.u32.max = 4294967295 from rfl] at h
  exact ⟨h.1, by omega⟩
theorem wf_i64 {n : Int} (h : (Lit.int .i64 n).wf = true) : -9223372036854775808 ≤ n ∧ n ≤ 9223372036854775807 := by
  simpa only [Lit.wf, Bool.and_eq_true, decide_eq_true_eq, show IntKind.i64.min = -9223372036854775808 from rfl, show IntKind.i64.max = 9223372036854775807 from rfl] using h
theorem wf_bytes {xs : List Int} (h : ∀ x ∈ xs, (Lit.int .u8 x).wf = true) : bytes xs := by
  intro x hx
  have := h x hx
  simp only [Lit.wf, Bool.and_eq_true, decide_eq_true_eq, show IntKind.u8.min = 0 from rfl, show IntKind.u8.max = 255 from rfl] at this
  omega
theorem maxLen_eq : maxLen = 9223372036854775807 := by decide
theorem all_map {α : Type} {R : D → Prop} {p : α → Prop} {f : α → D} (h : ∀ d, R d → ∃ x, d = f x ∧ p x) : ∀ es : List D, (∀ x ∈ es, R x) → ∃ l : List α, es = l.map f ∧ ∀ x ∈ l, p x
  | [], _ => ⟨[], rfl, fun x hx => by cases hx⟩
  | e :: es, he => by
    obtain ⟨x, rfl, hx⟩ := h e (he e (by simp))
    obtain ⟨l, rfl, hl⟩ := all_map h es fun y hy => he y (by simp [hy])
    exact ⟨x :: l, rfl, fun y hy => by
      rcases List.mem_cons.1 hy with rfl | hy
      · exact hx
      · exact hl y hy⟩
theorem all_mapL {α : Type} {R : D → Prop} {p : α → Prop} {f : α → D} (h : ∀ d, R d → ∃ x, d = f x ∧ p x) {sz : Nat} {d : D} (hd : rSl sz R d) : ∃ l : List α, d = .sl .no sz (l.map f) ∧ (∀ x ∈ l, p x) ∧ l.length ≤ 9223372036854775807 := by
  obtain ⟨es, rfl, he, hl⟩ := hd
  obtain ⟨l, rfl, h2⟩ := all_map h es he
  rw [List.length_map, maxLen_eq] at hl
  exact ⟨l, rfl, h2, hl⟩
theorem scr_r (d : D) (h : rScr d) : ∃ s : List Int, d = .sli .no .u8 s ∧ scrW s := by
  obtain ⟨s, rfl, h1, h2⟩ := h
  exact ⟨s, rfl, wf_bytes h1, by rw [maxLen_eq] at h2; exact h2⟩
theorem all2_2 {ds : List D} {R0 R1 : D → Prop} (h : All2 (fun d R => R d) ds [R0, R1]) : ∃ a b, ds = [a, b] ∧ R0 a ∧ R1 b := by
  match ds, h with
  | [a, b], h => exact ⟨a, b, rfl, h.1, h.2.1⟩
theorem all2_4 {ds : List D} {R0 R1 R2 R3 : D → Prop} (h : All2 (fun d R => R d) ds [R0, R1, R2, R3]) : ∃ a b c d, ds = [a, b, c, d] ∧ R0 a ∧ R1 b ∧ R2 c ∧ R3 d := by
  match ds, h with
  | [a, b, c, d], h => exact ⟨a, b, c, d, rfl, h.1, h.2.1, h.2.2.1, h.2.2.2.1⟩
theorem all2_6 {ds : List D} {R0 R1 R2 R3 R4 R5 : D → Prop} (h : All2 (fun d R => R d) ds [R0, R1, R2, R3, R4, R5]) : ∃ a b c d e f, ds = [a, b, c, d, e, f] ∧ R0 a ∧ R1 b ∧ R2 c ∧ R3 d ∧ R4 e ∧ R5 f := by
  match ds, h with
  | [a, b, c, d, e, f], h => exact ⟨a, b, c, d, e, f, rfl, h.1, h.2.1, h.2.2.1, h.2.2.2.1, h.2.2.2.2.1, h.2.2.2.2.2.1⟩
theorem raw_in (d : D) (h : rAg [rAg [rH, rU32], rScr, rU32, rSl 1 rScr] d) : rIn d := by
  obtain ⟨ds, rfl, h⟩ := h
  obtain ⟨_, _, _, _, rfl, ⟨es, rfl, h0⟩, h1, ⟨q, rfl, hq⟩, h3⟩ := all2_4 h
  obtain ⟨_, _, rfl, ⟨p, rfl, hp, hb⟩, ⟨i, rfl, hi⟩⟩ := all2_2 h0
  obtain ⟨s, rfl, hs⟩ := scr_r _ h1
  obtain ⟨w, rfl, hw, hl⟩ := all_mapL scr_r h3
  exact ⟨⟨p, i, s, q, w⟩, rfl, ⟨hp, wf_bytes hb, wf_u32 hi, hs, wf_u32 hq, hw, hl⟩⟩
theorem raw_out (d : D) (h : rAg [rI64, rScr] d) : rOut d := by
  obtain ⟨ds, rfl, h⟩ := h
  obtain ⟨_, _, rfl, ⟨v, rfl, hv⟩, h1⟩ := all2_2 h
  obtain ⟨s, rfl, hs⟩ := scr_r _ h1
  exact ⟨⟨v, s⟩, rfl, wf_i64 hv, hs⟩
theorem raw_tx (d : D) (h : rAg [rU32, rSl 36 rIn, rSl 2 rOut, rU32] d) : rTx d := by
  obtain ⟨ds, rfl, h⟩ := h
  obtain ⟨_, _, _, _, rfl, ⟨v, rfl, hv⟩, h1, h2, ⟨l, rfl, hl⟩⟩ := all2_4 h
  obtain ⟨i, rfl, hi, hil⟩ := all_mapL (f := inD) (p := InP.Any) (fun d h => h) h1
  obtain ⟨o, rfl, ho, hol⟩ := all_mapL (f := outD) (p := OutP.Any) (fun d h => h) h2
  exact ⟨⟨v, i, o, l⟩, rfl, wf_u32 hv, hi, ho, wf_u32 hl, hil, hol⟩
theorem raw_txs {ds : List D} (h : All2 (fun d R => R d) ds [rU32, rSl 36 rIn, rSl 2 rOut, rU32]) : ∃ x : TxP, D.agg ds = txD x ∧ x.Any := raw_tx _ ⟨ds, rfl, h⟩
/-- A block, as it is handed. -/
theorem raw_block {ds : List D} (h : All2 (fun d R => R d) ds [rAg [rU32, rH, rH, rU32, rU32, rU32], rSl 4 rTx]) :
    ∃ (h0 : Int) (hp hr : List Int) (h1 h2 h3 : Int) (l : List TxP), ds = [.agg [.int .u32 h0, .arr .u8 32 hp, .arr .u8 32 hr, .int .u32 h1, .int .u32 h2, .int .u32 h3], .sl .no 4 (txsD l)] ∧ hdOk hp hr ∧ isTxW (txsD l) := by
  obtain ⟨_, _, rfl, ⟨es, rfl, h0⟩, ht⟩ := all2_2 h
  obtain ⟨_, _, _, _, _, _, rfl, ⟨a, rfl, _⟩, ⟨p, rfl, hp, _⟩, ⟨r, rfl, hr, _⟩, ⟨b, rfl, _⟩, ⟨c, rfl, _⟩, ⟨e, rfl, _⟩⟩ := all2_6 h0
  obtain ⟨l, rfl, hl, hm⟩ := all_mapL (f := txD) (p := TxP.Any) (fun d h => h) ht
  exact ⟨a, p, r, b, c, e, l, rfl, ⟨hp, hr⟩, l, rfl, hl, hm⟩
end Go.Vi
end
