/- Lemmas for the law proved in the text whose name ends with Law. -/
import Derived.Test.YtneickpgbhckmaaGreatDoorK54
import Derived.Maps.OwnSet
import Derived.Maps.OwnOps
import Derived.DeepKeys4
import Derived.WideKeyEntry
import Derived.Deep.WholeRow
import Derived.WalkKit
import Derived.Laws.Cells
import Derived.RangeFuncNested
import Derived.RangeFuncBound
import Derived.RangeFuncLeaves
import Derived.Shelf.Abstract
import Derived.Shelf.RegionOpen
import Derived.OwnWalkIn
import Derived.TacticsInMore
import Derived.LoopNIn
import Derived.LoopIn
import Derived.Laws.Rows
import Derived.ProofKit
import Derived.Test.YtneickpgbhckmaaGreatDoorProg

section
set_option linter.unusedVariables false
set_option linter.unusedSimpArgs false
set_option maxHeartbeats 0
set_option maxRecDepth 20000
namespace Go.Vi.CZ
open Go.Proofs

theorem div_pow {n : Int} (k : Nat) : n / 256 ^ (k + 1) = n / 256 ^ k / 256 := by
  rw [Int.pow_succ, Int.ediv_ediv_of_nonneg (Int.le_of_lt (Int.pow_pos (by decide)))]
theorem div_ok {n : Int} (h : u64ok n) (k : Nat) : u64ok (n / 256 ^ k) := by
  have hp : (0 : Int) < 256 ^ k := Int.pow_pos (by decide)
  refine ⟨Int.ediv_nonneg h.1 (Int.le_of_lt hp), Int.lt_of_le_of_lt (Int.ediv_le_self _ h.1) h.2⟩
theorem c_rdigits : Contract E 100 := by
  refine contract_boxT hE hgl (show E.P.funcs[100]? = some Tryz.f100 from Tryz.func100) rfl (p := sp_rdigits) (fun _ _ _ => rfl) ?_
  intro args ds tv hv hdl htl
  unfold sp_rdigits at hv ⊢
  split at hv
  case h_2 => exact hv.elim
  rename_i w n
  refine ⟨by simp, Nat.le_of_ble_eq_true rfl, ?_⟩
  obtain ⟨hw, hn⟩ := hv
  obtain ⟨w, rfl, hw8⟩ : ∃ k : Nat, w = (k : Int) ∧ k ≤ 8 := ⟨w.toNat, by omega, by omega⟩
  simp (config := {dsimp := false}) only [↓vp0, vz, vn, nq, tys, cellD, wideIR, if_true, if_false, implies_true, forall_const, ne_eq, reduceIte, reduceCtorEq, Nat.reduceEqDiff, Nat.reduceAdd, Nat.reduceMul, Nat.reduceLT, Nat.reduceSub, Nat.reduceLeDiff, Nat.reduceBNe, Nat.reduceBEq, Nat.reduceBeqDiff, List.range, List.range.loop, gl0, Tryz.ntmps100, Tryz.results100, vb]
  refine loopA [(6, some .u8, 1)] ?_
  simp only [adopt, look, if_true, if_false, reduceIte, Nat.reduceEqDiff, setL, List.length_nil]
  refine ⟨Fin (w + 1), fun k => [(7, .int .i64 (k.1 : Nat)), (0, .int .i64 (w : Nat)), (6, .sli (.tok 24) .u8 (leI k.1 n)), (1, .int .u64 (n / 256 ^ k.1))], fun k => ⟨[], [(24, (k.1, 1))], 28⟩, fun k => w - k.1, 0, fun _ => rfl, ?_, ?_⟩
  · refine ⟨⟨wkD_eq rfl, rfl, wkD_eq rfl, rfl, wkD_eq rfl, rfl, wkD_eq ?_, rfl, trivial⟩, trivial, ⟨rfl, Nat.le_of_ble_eq_true rfl, trivial⟩⟩
    exact some_int (by simp)
  rintro ⟨k, hk⟩
  have hd := div_ok hn k
  have hb : IntKind.wrap .u8 ((n / 256 ^ k).tmod 256) = n / 256 ^ k % 256 := by
    rw [Int.tmod_eq_emod_of_nonneg hd.1, IntWalk.u8_in _ ⟨Int.emod_nonneg _ (by decide), by have := Int.emod_lt_of_pos (n / 256 ^ k) (show (0 : Int) < 256 by decide); omega⟩]
  have hq : IntKind.wrap .u64 ((n / 256 ^ k).tdiv 256) = n / 256 ^ (k + 1) := by
    rw [Int.tdiv_eq_ediv_of_nonneg hd.1, ← div_pow, IntWalk.u64_in _ (by have := div_ok hn (k + 1); exact ⟨this.1, by have := this.2; omega⟩)]
  simp (config := {dsimp := false}) only [↓vp0, vz, vn, nq, tys, cellD, wideIR, if_true, if_false, implies_true, forall_const, ne_eq, reduceIte, reduceCtorEq, Nat.reduceEqDiff, Nat.reduceAdd, Nat.reduceMul, Nat.reduceLT, Nat.reduceSub, Nat.reduceLeDiff, Nat.reduceBNe, Nat.reduceBEq, Nat.reduceBeqDiff, List.range, List.range.loop, gl0, Tryz.ntmps100, Tryz.results100]
  refine ⟨fun h => ?_, fun h => ?_⟩
  · have h := of_decide_eq_true h
    refine ⟨by decide, some_tok (by rw [leI_len]), by rw [leI_len]; omega, by decide, ⟨k + 1, by omega⟩, ⟨⟨wkD_eq ?_, rfl, wkD_eq rfl, rfl, wkD_eq ?_, rfl, wkD_eq ?_, rfl, trivial⟩, trivial, ⟨?_, Nat.le_of_ble_eq_true rfl, trivial⟩⟩, by (try simp only); omega⟩
    · exact some_i64 (by (try simp only); omega)
    · exact some_sli (by rw [hb, ← le_succ])
    · exact some_int hq
    · exact some_tok (by simp [leI_len])
  · have h := of_decide_eq_false h
    obtain rfl : k = w := by omega
    simp (config := {dsimp := false}) only [↓vp0, vz, vn, nq, tys, cellD, wideIR, if_true, if_false, implies_true, forall_const, ne_eq, reduceIte, reduceCtorEq, Nat.reduceEqDiff, Nat.reduceAdd, Nat.reduceMul, Nat.reduceLT, Nat.reduceSub, Nat.reduceLeDiff, Nat.reduceBNe, Nat.reduceBEq, Nat.reduceBeqDiff, List.range, List.range.loop, gl0, Tryz.ntmps100, Tryz.results100, retB, vb]
    exact ⟨[], [24], [], ⟨rfl, rfl⟩, ⟨rfl, rfl⟩, ⟨by simp, by simp⟩, by simp, rfl, rfl, ⟨_, rfl, rfl⟩, ⟨_, rfl, rfl⟩, id rfl⟩
theorem c_tdigits : Contract E 87 := by
  refine contract_boxT hE hgl (show E.P.funcs[87]? = some Tryz.f87 from Tryz.func87) rfl (p := sp_tdigits) (fun _ _ _ => rfl) ?_
  intro args ds tv hv hdl htl
  unfold sp_tdigits at hv ⊢
  split at hv
  case h_2 => exact hv.elim
  rename_i w n
  refine ⟨by simp, Nat.le_of_ble_eq_true rfl, ?_⟩
  simp (config := {dsimp := false}) only [↓vp0, vz, vn, nq, tys, cellD, wideIR, if_true, if_false, implies_true, forall_const, ne_eq, reduceIte, reduceCtorEq, Nat.reduceEqDiff, Nat.reduceAdd, Nat.reduceMul, Nat.reduceLT, Nat.reduceSub, Nat.reduceLeDiff, Nat.reduceBNe, Nat.reduceBEq, Nat.reduceBeqDiff, List.range, List.range.loop, gl0, Tryz.ntmps87, Tryz.results87, retB, vb, spec_rdigits, sp_rdigits, c_rdigits, b_rdigits]
  exact ⟨hv.1.1, hv.1.2, hv.2, [], [20], [], ⟨rfl, rfl⟩, ⟨rfl, rfl⟩, ⟨by simp, by simp⟩, by simp, rfl, rfl, ⟨_, rfl, rfl⟩, ⟨_, rfl, rfl⟩, id rfl⟩
theorem count_1 {n : Int} (c1 : n < 253) : countI n = [n] := if_pos c1
theorem count_2 {n : Int} (c1 : ¬ n < 253) (c2 : n < 65536) : countI n = 253 :: leI 2 n := by unfold countI; rw [if_neg c1, if_pos c2]
theorem count_3 {n : Int} (c1 : ¬ n < 253) (c2 : ¬ n < 65536) (c3 : n < 4294967296) : countI n = 254 :: leI 4 n := by unfold countI; rw [if_neg c1, if_neg c2, if_pos c3]
theorem count_4 {n : Int} (c1 : ¬ n < 253) (c2 : ¬ n < 65536) (c3 : ¬ n < 4294967296) : countI n = 255 :: leI 8 n := by unfold countI; rw [if_neg c1, if_neg c2, if_neg c3]
theorem c_rcount : Contract E 88 := by
  refine contract_boxA hE hgl (show E.P.funcs[88]? = some Tryz.f88 from Tryz.func88) rfl (p := sp_rcount) (fun _ _ _ => rfl) ?_
  intro args ds tv hv hdl htl
  unfold sp_rcount at hv ⊢
  split at hv
  case h_2 => exact hv.elim
  rename_i n
  refine ⟨by simp, Nat.le_of_ble_eq_true rfl, ?_⟩
  have hn := hv
  obtain ⟨h0, h1⟩ := hv
  by_cases c1 : n < 253
  · have e2 : IntKind.wrap .u8 n = n := IntWalk.u8_in n ⟨h0, by omega⟩
    simp (config := {dsimp := false}) only [↓vp0, vz, vn, nq, tys, cellD, wideIR, if_true, if_false, implies_true, forall_const, ne_eq, reduceIte, reduceCtorEq, Nat.reduceEqDiff, Nat.reduceAdd, Nat.reduceMul, Nat.reduceLT, Nat.reduceSub, Nat.reduceLeDiff, Nat.reduceBNe, Nat.reduceBEq, Nat.reduceBeqDiff, List.range, List.range.loop, gl0, Tryz.ntmps88, Tryz.results88, retA, vb, c1, e2, decide_true, count_1 c1, spec_rdigits, sp_rdigits, c_rdigits, b_rdigits]
    refine ⟨[(2, none, 1)], ?_⟩
    simp (config := {dsimp := false}) only [↓vp0, vz, vn, nq, tys, cellD, wideIR, if_true, if_false, implies_true, forall_const, ne_eq, reduceIte, reduceCtorEq, Nat.reduceEqDiff, Nat.reduceAdd, Nat.reduceMul, Nat.reduceLT, Nat.reduceSub, Nat.reduceLeDiff, Nat.reduceBNe, Nat.reduceBEq, Nat.reduceBeqDiff, List.range, List.range.loop, gl0, Tryz.ntmps88, Tryz.results88, retA, adopt, retB, vb]
    exact ⟨[], [36], [], ⟨rfl, rfl⟩, ⟨rfl, rfl⟩, ⟨by simp, by simp⟩, by simp, rfl, rfl, ⟨_, rfl, rfl⟩, ⟨_, rfl, rfl⟩, id rfl⟩
  by_cases c2 : n < 65536
  · simp (config := {dsimp := false}) only [↓vp0, vz, vn, nq, tys, cellD, wideIR, if_true, if_false, implies_true, forall_const, ne_eq, reduceIte, reduceCtorEq, Nat.reduceEqDiff, Nat.reduceAdd, Nat.reduceMul, Nat.reduceLT, Nat.reduceSub, Nat.reduceLeDiff, Nat.reduceBNe, Nat.reduceBEq, Nat.reduceBeqDiff, List.range, List.range.loop, gl0, Tryz.ntmps88, Tryz.results88, retA, vb, c1, c2, decide_true, decide_false, count_2 c1 c2, spec_rdigits, sp_rdigits, c_rdigits, b_rdigits]
    refine ⟨by decide, by decide, hn, by simp [leI_len], [], ?_⟩
    simp (config := {dsimp := false}) only [↓vp0, vz, vn, nq, tys, cellD, wideIR, if_true, if_false, implies_true, forall_const, ne_eq, reduceIte, reduceCtorEq, Nat.reduceEqDiff, Nat.reduceAdd, Nat.reduceMul, Nat.reduceLT, Nat.reduceSub, Nat.reduceLeDiff, Nat.reduceBNe, Nat.reduceBEq, Nat.reduceBeqDiff, List.range, List.range.loop, gl0, Tryz.ntmps88, Tryz.results88, retA, adopt, retB, vb]
    exact ⟨[], [88], [], ⟨rfl, rfl⟩, ⟨rfl, rfl⟩, ⟨by simp, by simp⟩, by simp, rfl, by simp [getAll, S.tok, look, leI_len], ⟨_, rfl, rfl⟩, ⟨_, rfl, rfl⟩, id rfl⟩
  by_cases c3 : n < 4294967296
  · simp (config := {dsimp := false}) only [↓vp0, vz, vn, nq, tys, cellD, wideIR, if_true, if_false, implies_true, forall_const, ne_eq, reduceIte, reduceCtorEq, Nat.reduceEqDiff, Nat.reduceAdd, Nat.reduceMul, Nat.reduceLT, Nat.reduceSub, Nat.reduceLeDiff, Nat.reduceBNe, Nat.reduceBEq, Nat.reduceBeqDiff, List.range, List.range.loop, gl0, Tryz.ntmps88, Tryz.results88, retA, vb, c1, c2, c3, decide_true, decide_false, count_3 c1 c2 c3, spec_rdigits, sp_rdigits, c_rdigits, b_rdigits]
    refine ⟨by decide, by decide, hn, by simp [leI_len], [], ?_⟩
    simp (config := {dsimp := false}) only [↓vp0, vz, vn, nq, tys, cellD, wideIR, if_true, if_false, implies_true, forall_const, ne_eq, reduceIte, reduceCtorEq, Nat.reduceEqDiff, Nat.reduceAdd, Nat.reduceMul, Nat.reduceLT, Nat.reduceSub, Nat.reduceLeDiff, Nat.reduceBNe, Nat.reduceBEq, Nat.reduceBeqDiff, List.range, List.range.loop, gl0, Tryz.ntmps88, Tryz.results88, retA, adopt, retB, vb]
    exact ⟨[], [96], [], ⟨rfl, rfl⟩, ⟨rfl, rfl⟩, ⟨by simp, by simp⟩, by simp, rfl, by simp [getAll, S.tok, look, leI_len], ⟨_, rfl, rfl⟩, ⟨_, rfl, rfl⟩, id rfl⟩
  · simp (config := {dsimp := false}) only [↓vp0, vz, vn, nq, tys, cellD, wideIR, if_true, if_false, implies_true, forall_const, ne_eq, reduceIte, reduceCtorEq, Nat.reduceEqDiff, Nat.reduceAdd, Nat.reduceMul, Nat.reduceLT, Nat.reduceSub, Nat.reduceLeDiff, Nat.reduceBNe, Nat.reduceBEq, Nat.reduceBeqDiff, List.range, List.range.loop, gl0, Tryz.ntmps88, Tryz.results88, retA, vb, c1, c2, c3, decide_true, decide_false, count_4 c1 c2 c3, spec_rdigits, sp_rdigits, c_rdigits, b_rdigits]
    refine ⟨by decide, by decide, hn, by simp [leI_len], [], ?_⟩
    simp (config := {dsimp := false}) only [↓vp0, vz, vn, nq, tys, cellD, wideIR, if_true, if_false, implies_true, forall_const, ne_eq, reduceIte, reduceCtorEq, Nat.reduceEqDiff, Nat.reduceAdd, Nat.reduceMul, Nat.reduceLT, Nat.reduceSub, Nat.reduceLeDiff, Nat.reduceBNe, Nat.reduceBEq, Nat.reduceBeqDiff, List.range, List.range.loop, gl0, Tryz.ntmps88, Tryz.results88, retA, adopt, retB, vb]
    exact ⟨[], [88], [], ⟨rfl, rfl⟩, ⟨rfl, rfl⟩, ⟨by simp, by simp⟩, by simp, rfl, by simp [getAll, S.tok, look, leI_len], ⟨_, rfl, rfl⟩, ⟨_, rfl, rfl⟩, id rfl⟩
theorem c_rtext : Contract E 89 := by
  refine contract_seeT hE hgl (show E.P.funcs[89]? = some Tryz.f89 from Tryz.func89) rfl (p := sp_rtext) (fun _ _ _ => rfl) ?_
  intro args hv
  unfold sp_rtext at hv ⊢
  split at hv
  case h_2 => exact hv.elim
  rename_i s
  refine ⟨by simp, Nat.le_of_ble_eq_true rfl, ?_⟩
  simp only [givesIf] at hv
  have e1 : IntKind.wrap .u64 (s.length : Int) = (s.length : Int) := IntWalk.u64_in _ (by omega)
  simp (config := {dsimp := false}) only [↓vp0, vz, vn, nq, tys, cellD, wideIR, if_true, if_false, implies_true, forall_const, ne_eq, reduceIte, reduceCtorEq, Nat.reduceEqDiff, Nat.reduceAdd, Nat.reduceMul, Nat.reduceLT, Nat.reduceSub, Nat.reduceLeDiff, Nat.reduceBNe, Nat.reduceBEq, Nat.reduceBeqDiff, List.range, List.range.loop, gl0, Tryz.ntmps89, Tryz.results89, vb, PF.toR, givesIf, e1, spec_rcount, sp_rcount, c_rcount, b_rcount]
  have := count_len (s.length : Int)
  exact ⟨⟨by omega, by omega⟩, by omega, rfl⟩
theorem c_rmany : Contract E 86 := by
  refine contract_seeT hE hgl (show E.P.funcs[86]? = some Tryz.f86 from Tryz.func86) rfl (p := sp_rmany) (fun _ _ _ => rfl) ?_
  intro args hv
  unfold sp_rmany at hv ⊢
  split at hv
  case h_2 => exact hv.elim
  rename_i n
  refine ⟨by simp, Nat.le_of_ble_eq_true rfl, ?_⟩
  simp (config := {dsimp := false}) only [↓vp0, vz, vn, nq, tys, cellD, wideIR, if_true, if_false, implies_true, forall_const, ne_eq, reduceIte, reduceCtorEq, Nat.reduceEqDiff, Nat.reduceAdd, Nat.reduceMul, Nat.reduceLT, Nat.reduceSub, Nat.reduceLeDiff, Nat.reduceBNe, Nat.reduceBEq, Nat.reduceBeqDiff, List.range, List.range.loop, gl0, Tryz.ntmps86, Tryz.results86]
  simp only [gives, manyP, decide_eq_true_eq, decide_eq_false_iff_not]
  refine ⟨fun h => by rw [if_pos h], fun h => ⟨fun h2 => by rw [if_neg h, if_pos h2], fun h2 => by rw [if_neg h, if_neg h2]⟩⟩
end Go.Vi.CZ
end

section
set_option linter.unusedVariables false
set_option linter.unusedSimpArgs false
set_option maxHeartbeats 0
set_option maxRecDepth 20000
namespace Go.Vi.CZ
open Go.Proofs

theorem any_long {l : L2} : (∀ j, j < l.length → longW (l.getD j default) = false) → l.any longW = false := fun h => List.any_eq_false.2 fun x hx => by
  obtain ⟨i, h1, rfl⟩ := List.getElem_of_mem hx
  have := h i h1
  have e : l.getD i default = l[i] := by simp [List.getD, h1]
  rw [e] at this
  rw [this]; decide
theorem c_rcheck : Contract E 61 := by
  refine contract_seeT hE hgl (show E.P.funcs[61]? = some Tryz.f61 from Tryz.func61) rfl (p := sp_tcheck) (fun _ _ _ => rfl) ?_
  intro args hv
  unfold sp_tcheck at hv ⊢
  split at hv
  case h_2 => exact hv.elim
  rename_i v is os l
  refine ⟨by simp, Nat.le_of_ble_eq_true rfl, ?_⟩
  simp only [givesIf] at hv
  obtain ⟨t, rfl, rfl, rfl, rfl, ht, he⟩ := okT_tx hv
  have hmi := ht.mi
  have hmo := ht.mo
  have eta : (⟨t.ver, t.ins, t.outs, t.lock⟩ : TxP) = t := rfl
  by_cases h1 : manyP t.ins.length 16 = 0
  case neg => simp (config := {dsimp := false}) only [↓vp0, vz, vn, nq, tys, cellD, wideIR, if_true, if_false, implies_true, forall_const, ne_eq, reduceIte, reduceCtorEq, Nat.reduceEqDiff, Nat.reduceAdd, Nat.reduceMul, Nat.reduceLT, Nat.reduceSub, Nat.reduceLeDiff, Nat.reduceBNe, Nat.reduceBEq, Nat.reduceBeqDiff, List.range, List.range.loop, gl0, Tryz.ntmps61, Tryz.results61, PF.toR, givesIf, gives, h1, decide_false, eta, check_1 h1, spec_rmany, sp_rmany, c_rmany, b_rmany]
  by_cases h2 : manyP t.outs.length 16 = 0
  case neg => simp (config := {dsimp := false}) only [↓vp0, vz, vn, nq, tys, cellD, wideIR, if_true, if_false, implies_true, forall_const, ne_eq, reduceIte, reduceCtorEq, Nat.reduceEqDiff, Nat.reduceAdd, Nat.reduceMul, Nat.reduceLT, Nat.reduceSub, Nat.reduceLeDiff, Nat.reduceBNe, Nat.reduceBEq, Nat.reduceBeqDiff, List.range, List.range.loop, gl0, Tryz.ntmps61, Tryz.results61, PF.toR, givesIf, gives, h1, h2, eq_self, decide_true, decide_false, eta, check_2 h1 h2, spec_rmany, sp_rmany, c_rmany, b_rmany]
  simp (config := {dsimp := false}) only [↓vp0, vz, vn, nq, tys, cellD, wideIR, if_true, if_false, implies_true, forall_const, ne_eq, reduceIte, reduceCtorEq, Nat.reduceEqDiff, Nat.reduceAdd, Nat.reduceMul, Nat.reduceLT, Nat.reduceSub, Nat.reduceLeDiff, Nat.reduceBNe, Nat.reduceBEq, Nat.reduceBeqDiff, List.range, List.range.loop, gl0, Tryz.ntmps61, Tryz.results61, PF.toR, givesIf, gives, h1, h2, eq_self, decide_true, eta, spec_rmany, sp_rmany, c_rmany, b_rmany]
  refine loopI {k : Nat // k ≤ t.ins.length ∧ ∀ j, j < k → inOkP (t.ins.getD j default) = true} (fun k => [(4, .int .i64 (k.1 : Nat)), (1, .bp 0 0)]) (fun _ => ⟨[(0, .agg [.int .u32 t.ver, .sl .no 36 (insD t.ins), .sl .no 2 (outsD t.outs), .int .u32 t.lock])], [], 68⟩) (fun k => t.ins.length - k.1) ⟨0, by simp⟩ (fun _ => rfl) ?_ ?_
  · exact ⟨⟨wkD_eq rfl, rfl, wkD_eq rfl, rfl, trivial⟩, ⟨rfl, Nat.le_of_ble_eq_true rfl, rfl, trivial⟩, trivial⟩
  rintro ⟨k, hk, hb⟩
  simp (config := {dsimp := false}) only [↓vp0, vz, vn, nq, tys, cellD, wideIR, if_true, if_false, implies_true, forall_const, ne_eq, reduceIte, reduceCtorEq, Nat.reduceEqDiff, Nat.reduceAdd, Nat.reduceMul, Nat.reduceLT, Nat.reduceSub, Nat.reduceLeDiff, Nat.reduceBNe, Nat.reduceBEq, Nat.reduceBeqDiff, List.range, List.range.loop, gl0, Tryz.ntmps61, Tryz.results61]
  refine ⟨fun hh => ?_, fun hh => ?_⟩
  · have hh := of_decide_eq_true hh
    have hk' : k < t.ins.length := by omega
    have g1 := insD_get t.ins k hk'
    have hx := ht.ins _ (getD_memI hk')
    have hmw := hx.many
    have hms := hx.script.2
    by_cases hl : (t.ins.getD k default).script.length ≤ 128
    case neg =>
      have hp : inOkP (t.ins.getD k default) = false := by simp only [inOkP, decide_eq_false hl, Bool.false_and]
      have d1 : decide ((128 : Int) < ((t.ins.getD k default).script.length : Nat)) = true := decide_eq_true (by omega)
      simp (config := {dsimp := false}) only [↓vp0, vz, vn, nq, tys, cellD, wideIR, if_true, if_false, implies_true, forall_const, ne_eq, reduceIte, reduceCtorEq, Nat.reduceEqDiff, Nat.reduceAdd, Nat.reduceMul, Nat.reduceLT, Nat.reduceSub, Nat.reduceLeDiff, Nat.reduceBNe, Nat.reduceBEq, Nat.reduceBeqDiff, List.range, List.range.loop, gl0, Tryz.ntmps61, Tryz.results61, Int.toNat_natCast, g1, inD, d1, givesIf, check_3 h1 h2 (getD_memI hk') hp]
      exact ⟨by omega, by omega⟩
    have d1 : decide ((128 : Int) < ((t.ins.getD k default).script.length : Nat)) = false := decide_eq_false (by omega)
    by_cases hw : (t.ins.getD k default).wit.length ≤ 8
    case neg =>
      have hp : inOkP (t.ins.getD k default) = false := by simp only [inOkP, decide_eq_false hw, Bool.false_and, Bool.and_false]
      have d2 : decide ((8 : Int) < ((t.ins.getD k default).wit.length : Nat)) = true := decide_eq_true (by omega)
      simp (config := {dsimp := false}) only [↓vp0, vz, vn, nq, tys, cellD, wideIR, if_true, if_false, implies_true, forall_const, ne_eq, reduceIte, reduceCtorEq, Nat.reduceEqDiff, Nat.reduceAdd, Nat.reduceMul, Nat.reduceLT, Nat.reduceSub, Nat.reduceLeDiff, Nat.reduceBNe, Nat.reduceBEq, Nat.reduceBeqDiff, List.range, List.range.loop, gl0, Tryz.ntmps61, Tryz.results61, Int.toNat_natCast, g1, inD, d1, d2, givesIf, check_3 h1 h2 (getD_memI hk') hp]
      exact ⟨by omega, by omega, by omega, by omega⟩
    have d2 : decide ((8 : Int) < ((t.ins.getD k default).wit.length : Nat)) = false := decide_eq_false (by omega)
    simp (config := {dsimp := false}) only [↓vp0, vz, vn, nq, tys, cellD, wideIR, if_true, if_false, implies_true, forall_const, ne_eq, reduceIte, reduceCtorEq, Nat.reduceEqDiff, Nat.reduceAdd, Nat.reduceMul, Nat.reduceLT, Nat.reduceSub, Nat.reduceLeDiff, Nat.reduceBNe, Nat.reduceBEq, Nat.reduceBeqDiff, List.range, List.range.loop, gl0, Tryz.ntmps61, Tryz.results61, Int.toNat_natCast, g1, inD, d1, d2]
    refine ⟨by omega, by omega, by omega, by omega, ?_⟩
    refine loopI {m : Nat // m ≤ (t.ins.getD k default).wit.length ∧ ∀ j, j < m → longW ((t.ins.getD k default).wit.getD j default) = false} (fun m => [(5, .int .i64 (m.1 : Nat)), (4, .int .i64 (k : Nat)), (1, .bp 0 0)]) (fun _ => ⟨[(0, .agg [.int .u32 t.ver, .sl .no 36 (insD t.ins), .sl .no 2 (outsD t.outs), .int .u32 t.lock])], [], 164⟩) (fun m => (t.ins.getD k default).wit.length - m.1) ⟨0, by simp⟩ (fun _ => rfl) ?_ ?_
    · exact ⟨⟨wkD_eq rfl, rfl, wkD_eq rfl, rfl, wkD_eq rfl, rfl, trivial⟩, ⟨rfl, Nat.le_of_ble_eq_true rfl, rfl, trivial⟩, trivial⟩
    rintro ⟨m, hm, hbm⟩
    simp (config := {dsimp := false}) only [↓vp0, vz, vn, nq, tys, cellD, wideIR, if_true, if_false, implies_true, forall_const, ne_eq, reduceIte, reduceCtorEq, Nat.reduceEqDiff, Nat.reduceAdd, Nat.reduceMul, Nat.reduceLT, Nat.reduceSub, Nat.reduceLeDiff, Nat.reduceBNe, Nat.reduceBEq, Nat.reduceBeqDiff, List.range, List.range.loop, gl0, Tryz.ntmps61, Tryz.results61, Int.toNat_natCast, g1, inD]
    refine ⟨by omega, by omega, fun hh2 => ?_, fun hh2 => ?_⟩
    · have hh2 := of_decide_eq_true hh2
      have hm' : m < (t.ins.getD k default).wit.length := by omega
      have g2 : (slis (t.ins.getD k default).wit).getD m .any = .sli .no .u8 ((t.ins.getD k default).wit.getD m default) := slis_get _ m hm'
      have hwm := (hx.wit _ (getD_memI hm')).2
      cases hq : longW ((t.ins.getD k default).wit.getD m default)
      · have d3 : decide ((128 : Int) < (((t.ins.getD k default).wit.getD m default).length : Nat)) = false := decide_eq_false (by have := of_decide_eq_false hq; omega)
        simp (config := {dsimp := false}) only [↓vp0, vz, vn, nq, tys, cellD, wideIR, if_true, if_false, implies_true, forall_const, ne_eq, reduceIte, reduceCtorEq, Nat.reduceEqDiff, Nat.reduceAdd, Nat.reduceMul, Nat.reduceLT, Nat.reduceSub, Nat.reduceLeDiff, Nat.reduceBNe, Nat.reduceBEq, Nat.reduceBeqDiff, List.range, List.range.loop, gl0, Tryz.ntmps61, Tryz.results61, Int.toNat_natCast, g1, g2, inD, d3]
        refine ⟨by omega, by omega, by omega, by omega, ⟨m + 1, by omega, fun j hj => ?_⟩, ⟨⟨wkD_eq ?_, rfl, wkD_eq rfl, rfl, wkD_eq rfl, rfl, trivial⟩, ⟨rfl, Nat.le_of_ble_eq_true rfl, rfl, trivial⟩, trivial⟩, by (try simp only); omega⟩
        · rcases Nat.lt_or_ge j m with h7 | h7
          · exact hbm j h7
          · obtain rfl : j = m := by omega
            exact hq
        · exact some_i64 (by (try simp only); omega)
      · have d3 : decide ((128 : Int) < (((t.ins.getD k default).wit.getD m default).length : Nat)) = true := decide_eq_true (by have := of_decide_eq_true hq; omega)
        have hp : inOkP (t.ins.getD k default) = false := by
          have : (t.ins.getD k default).wit.any longW = true := List.any_eq_true.2 ⟨_, getD_memI hm', hq⟩
          simp only [inOkP, this, Bool.not_true, Bool.and_false]
        simp (config := {dsimp := false}) only [↓vp0, vz, vn, nq, tys, cellD, wideIR, if_true, if_false, implies_true, forall_const, ne_eq, reduceIte, reduceCtorEq, Nat.reduceEqDiff, Nat.reduceAdd, Nat.reduceMul, Nat.reduceLT, Nat.reduceSub, Nat.reduceLeDiff, Nat.reduceBNe, Nat.reduceBEq, Nat.reduceBeqDiff, List.range, List.range.loop, gl0, Tryz.ntmps61, Tryz.results61, Int.toNat_natCast, g1, g2, inD, d3, givesIf, check_3 h1 h2 (getD_memI hk') hp]
        exact ⟨by omega, by omega, by omega, by omega⟩
    · have hh2 := of_decide_eq_false hh2
      obtain rfl : m = (t.ins.getD k default).wit.length := by omega
      have hp : inOkP (t.ins.getD k default) = true := by simp only [inOkP, decide_eq_true hl, decide_eq_true hw, any_long hbm, Bool.not_false, Bool.and_self]
      refine ⟨⟨k + 1, by omega, fun j hj => ?_⟩, ⟨⟨wkD_eq ?_, rfl, wkD_eq rfl, rfl, trivial⟩, ⟨rfl, Nat.le_of_ble_eq_true rfl, rfl, trivial⟩, trivial⟩, by (try simp only); omega⟩
      · rcases Nat.lt_or_ge j k with h7 | h7
        · exact hb j h7
        · obtain rfl : j = k := by omega
          exact hp
      · exact some_i64 (by (try simp only); omega)
  have hh := of_decide_eq_false hh
  obtain rfl : k = t.ins.length := by omega
  have hbi := hb
  refine loopI {k : Nat // k ≤ t.outs.length ∧ ∀ j, j < k → outOkP (t.outs.getD j default) = true} (fun k => [(6, .int .i64 (k.1 : Nat)), (1, .bp 0 0)]) (fun _ => ⟨[(0, .agg [.int .u32 t.ver, .sl .no 36 (insD t.ins), .sl .no 2 (outsD t.outs), .int .u32 t.lock])], [], 92⟩) (fun k => t.outs.length - k.1) ⟨0, by simp⟩ (fun _ => rfl) ?_ ?_
  · exact ⟨⟨wkD_eq rfl, rfl, wkD_eq rfl, rfl, trivial⟩, ⟨rfl, Nat.le_of_ble_eq_true rfl, rfl, trivial⟩, trivial⟩
  rintro ⟨k, hk, hb⟩
  simp (config := {dsimp := false}) only [↓vp0, vz, vn, nq, tys, cellD, wideIR, if_true, if_false, implies_true, forall_const, ne_eq, reduceIte, reduceCtorEq, Nat.reduceEqDiff, Nat.reduceAdd, Nat.reduceMul, Nat.reduceLT, Nat.reduceSub, Nat.reduceLeDiff, Nat.reduceBNe, Nat.reduceBEq, Nat.reduceBeqDiff, List.range, List.range.loop, gl0, Tryz.ntmps61, Tryz.results61]
  refine ⟨fun hh => ?_, fun hh => ?_⟩
  · have hh := of_decide_eq_true hh
    have hk' : k < t.outs.length := by omega
    have g1 := outsD_get t.outs k hk'
    have hx := ht.outs _ (getD_memI hk')
    have hms := hx.script.2
    cases hp : outOkP (t.outs.getD k default)
    · have d1 : decide ((128 : Int) < ((t.outs.getD k default).script.length : Nat)) = true := decide_eq_true (by have := of_decide_eq_false hp; omega)
      simp (config := {dsimp := false}) only [↓vp0, vz, vn, nq, tys, cellD, wideIR, if_true, if_false, implies_true, forall_const, ne_eq, reduceIte, reduceCtorEq, Nat.reduceEqDiff, Nat.reduceAdd, Nat.reduceMul, Nat.reduceLT, Nat.reduceSub, Nat.reduceLeDiff, Nat.reduceBNe, Nat.reduceBEq, Nat.reduceBeqDiff, List.range, List.range.loop, gl0, Tryz.ntmps61, Tryz.results61, Int.toNat_natCast, g1, outD, d1, givesIf, check_4 h1 h2 hbi (getD_memI hk') hp]
      exact ⟨by omega, by omega⟩
    · have d1 : decide ((128 : Int) < ((t.outs.getD k default).script.length : Nat)) = false := decide_eq_false (by have := of_decide_eq_true hp; omega)
      simp (config := {dsimp := false}) only [↓vp0, vz, vn, nq, tys, cellD, wideIR, if_true, if_false, implies_true, forall_const, ne_eq, reduceIte, reduceCtorEq, Nat.reduceEqDiff, Nat.reduceAdd, Nat.reduceMul, Nat.reduceLT, Nat.reduceSub, Nat.reduceLeDiff, Nat.reduceBNe, Nat.reduceBEq, Nat.reduceBeqDiff, List.range, List.range.loop, gl0, Tryz.ntmps61, Tryz.results61, Int.toNat_natCast, g1, outD, d1]
      refine ⟨by omega, by omega, ⟨k + 1, by omega, fun j hj => ?_⟩, ⟨⟨wkD_eq ?_, rfl, wkD_eq rfl, rfl, trivial⟩, ⟨rfl, Nat.le_of_ble_eq_true rfl, rfl, trivial⟩, trivial⟩, by (try simp only); omega⟩
      · rcases Nat.lt_or_ge j k with h7 | h7
        · exact hb j h7
        · obtain rfl : j = k := by omega
          exact hp
      · exact some_i64 (by (try simp only); omega)
  have hh := of_decide_eq_false hh
  obtain rfl : k = t.outs.length := by omega
  simp (config := {dsimp := false}) only [↓vp0, vz, vn, nq, tys, cellD, wideIR, if_true, if_false, implies_true, forall_const, ne_eq, reduceIte, reduceCtorEq, Nat.reduceEqDiff, Nat.reduceAdd, Nat.reduceMul, Nat.reduceLT, Nat.reduceSub, Nat.reduceLeDiff, Nat.reduceBNe, Nat.reduceBEq, Nat.reduceBeqDiff, List.range, List.range.loop, gl0, Tryz.ntmps61, Tryz.results61, givesIf, check_5 h1 h2 hbi hb]
  all_goals rfl
end Go.Vi.CZ
end

section
set_option linter.unusedVariables false
set_option linter.unusedSimpArgs false
set_option maxHeartbeats 0
set_option maxRecDepth 20000
namespace Go.Vi.CZ
open Go.Proofs

theorem c_rwitnessed : Contract E 17 := by
  refine contract_seeT hE hgl (show E.P.funcs[17]? = some Tryz.f17 from Tryz.func17) rfl (p := sp_twitnessed) (fun _ _ _ => rfl) ?_
  intro args hv
  unfold sp_twitnessed at hv ⊢
  split at hv
  case h_2 => exact hv.elim
  rename_i v is os l
  refine ⟨by simp, Nat.le_of_ble_eq_true rfl, ?_⟩
  simp only [givesIf] at hv
  obtain ⟨t, rfl, rfl, rfl, rfl, ht, he⟩ := okT_tx hv
  have hmi := ht.mi
  simp (config := {dsimp := false}) only [↓vp0, vz, vn, nq, tys, cellD, wideIR, if_true, if_false, implies_true, forall_const, ne_eq, reduceIte, reduceCtorEq, Nat.reduceEqDiff, Nat.reduceAdd, Nat.reduceMul, Nat.reduceLT, Nat.reduceSub, Nat.reduceLeDiff, Nat.reduceBNe, Nat.reduceBEq, Nat.reduceBeqDiff, List.range, List.range.loop, gl0, Tryz.ntmps17, Tryz.results17]
  refine loopI {k : Nat // k ≤ t.ins.length ∧ ∀ j, j < k → hasWit (t.ins.getD j default) = false} (fun k => [(3, .int .i64 (k.1 : Nat)), (1, .bp 0 0)]) (fun _ => ⟨[(0, .agg [.int .u32 t.ver, .sl .no 36 (insD t.ins), .sl .no 2 (outsD t.outs), .int .u32 t.lock])], [], 12⟩) (fun k => t.ins.length - k.1) ⟨0, by simp⟩ (fun _ => rfl) ?_ ?_
  · exact ⟨⟨wkD_eq rfl, rfl, wkD_eq rfl, rfl, trivial⟩, ⟨rfl, Nat.le_of_ble_eq_true rfl, rfl, trivial⟩, trivial⟩
  rintro ⟨k, hk, hb⟩
  simp (config := {dsimp := false}) only [↓vp0, vz, vn, nq, tys, cellD, wideIR, if_true, if_false, implies_true, forall_const, ne_eq, reduceIte, reduceCtorEq, Nat.reduceEqDiff, Nat.reduceAdd, Nat.reduceMul, Nat.reduceLT, Nat.reduceSub, Nat.reduceLeDiff, Nat.reduceBNe, Nat.reduceBEq, Nat.reduceBeqDiff, List.range, List.range.loop, gl0, Tryz.ntmps17, Tryz.results17]
  refine ⟨fun hh => ?_, fun hh => ?_⟩
  · have hh := of_decide_eq_true hh
    have hk' : k < t.ins.length := by omega
    have g1 := insD_get t.ins k hk'
    cases hp : hasWit (t.ins.getD k default)
    · have d1 : decide ((0 : Int) < ((t.ins.getD k default).wit.length : Nat)) = false := decide_eq_false (by have := of_decide_eq_false hp; omega)
      simp (config := {dsimp := false}) only [↓vp0, vz, vn, nq, tys, cellD, wideIR, if_true, if_false, implies_true, forall_const, ne_eq, reduceIte, reduceCtorEq, Nat.reduceEqDiff, Nat.reduceAdd, Nat.reduceMul, Nat.reduceLT, Nat.reduceSub, Nat.reduceLeDiff, Nat.reduceBNe, Nat.reduceBEq, Nat.reduceBeqDiff, List.range, List.range.loop, gl0, Tryz.ntmps17, Tryz.results17, Int.toNat_natCast, g1, inD, d1]
      refine ⟨by omega, by omega, ⟨k + 1, by omega, fun j hj => ?_⟩, ⟨⟨wkD_eq ?_, rfl, wkD_eq rfl, rfl, trivial⟩, ⟨rfl, Nat.le_of_ble_eq_true rfl, rfl, trivial⟩, trivial⟩, by (try simp only); omega⟩
      · rcases Nat.lt_or_ge j k with h7 | h7
        · exact hb j h7
        · obtain rfl : j = k := by omega
          exact hp
      · exact some_i64 (by (try simp only); omega)
    · have d1 : decide ((0 : Int) < ((t.ins.getD k default).wit.length : Nat)) = true := decide_eq_true (by have := of_decide_eq_true hp; omega)
      have ha : t.ins.any hasWit = true := List.any_eq_true.2 ⟨_, getD_memI hk', hp⟩
      simp (config := {dsimp := false}) only [↓vp0, vz, vn, nq, tys, cellD, wideIR, if_true, if_false, implies_true, forall_const, ne_eq, reduceIte, reduceCtorEq, Nat.reduceEqDiff, Nat.reduceAdd, Nat.reduceMul, Nat.reduceLT, Nat.reduceSub, Nat.reduceLeDiff, Nat.reduceBNe, Nat.reduceBEq, Nat.reduceBeqDiff, List.range, List.range.loop, gl0, Tryz.ntmps17, Tryz.results17, Int.toNat_natCast, g1, inD, d1, givesIf, ha]
      exact ⟨by omega, by omega⟩
  · have hh := of_decide_eq_false hh
    obtain rfl : k = t.ins.length := by omega
    have ha : t.ins.any hasWit = false := List.any_eq_false.2 fun x hx => by
      obtain ⟨i, h1, rfl⟩ := List.getElem_of_mem hx
      have := hb i h1
      have e : t.ins.getD i default = t.ins[i] := by simp [List.getD, h1]
      rw [e] at this
      rw [this]; decide
    simp (config := {dsimp := false}) only [↓vp0, vz, vn, nq, tys, cellD, wideIR, if_true, if_false, implies_true, forall_const, ne_eq, reduceIte, reduceCtorEq, Nat.reduceEqDiff, Nat.reduceAdd, Nat.reduceMul, Nat.reduceLT, Nat.reduceSub, Nat.reduceLeDiff, Nat.reduceBNe, Nat.reduceBEq, Nat.reduceBeqDiff, List.range, List.range.loop, gl0, Tryz.ntmps17, Tryz.results17, givesIf, ha]
    all_goals rfl
theorem c_rlay : Contract E 62 := by
  refine contract_seeT hE hgl (show E.P.funcs[62]? = some Tryz.f62 from Tryz.func62) rfl (p := sp_rlay) (fun _ _ _ => rfl) ?_
  intro args hv
  unfold sp_rlay at hv ⊢
  split at hv
  case h_2 => exact hv.elim
  rename_i v is os l full
  refine ⟨by simp, Nat.le_of_ble_eq_true rfl, ?_⟩
  simp only [givesIf] at hv
  obtain ⟨hok, hlen⟩ := hv
  obtain ⟨t, rfl, rfl, rfl, rfl, ht, -⟩ := okT_tx hok
  simp only [ins_D, outs_D] at hlen ⊢
  have hmi := ht.mi
  have hmo := ht.mo
  have u1 : IntKind.wrap .u64 t.ver = t.ver := IntWalk.u64_in _ (by have := ht.ver.1; have := ht.ver.2; omega)
  have u2 : IntKind.wrap .u64 t.lock = t.lock := IntWalk.u64_in _ (by have := ht.lock.1; have := ht.lock.2; omega)
  have n1 : IntKind.wrap .u64 (t.ins.length : Int) = (t.ins.length : Int) := IntWalk.u64_in _ (by omega)
  have n2 : IntKind.wrap .u64 (t.outs.length : Int) = (t.outs.length : Int) := IntWalk.u64_in _ (by omega)
  have c1 := count_len (t.ins.length : Int)
  have c2 := count_len (t.outs.length : Int)
  have t4 : Int.toNat 4 = 4 := rfl
  have hlay : layI ⟨t.ver, t.ins, t.outs, t.lock⟩ full = leI 4 t.ver ++ ((if full = true then [0, 1] else []) ++ ((countI t.ins.length ++ t.ins.flatMap inI) ++ ((countI t.outs.length ++ t.outs.flatMap outI) ++ ((if full = true then t.ins.flatMap witI else []) ++ leI 4 t.lock)))) := by
    simp only [layI, List.append_assoc]
  rw [hlay] at hlen
  simp only [List.length_append, leI_len] at hlen
  have tk : ∀ (p : List Int) (m : Nat), m < p.length → p.take (m + 1) = p.take m ++ [p.getD m 0] := fun p m h => by
    rw [List.take_add_one]; simp [List.getD, h]
  cases full
  · obtain ⟨P, hP⟩ : ∃ P, P = leI 4 t.ver ++ countI t.ins.length := ⟨_, rfl⟩
    have hPl : P.length = 4 + (countI t.ins.length).length := by rw [hP]; simp only [List.length_append, List.length_cons, leI_len]; try omega
    simp only [Bool.false_eq_true, if_false, List.length_nil, List.length_cons] at hlen
    simp (config := {dsimp := false}) only [↓vp0, vz, vn, nq, tys, cellD, wideIR, if_true, if_false, implies_true, forall_const, ne_eq, reduceIte, reduceCtorEq, Nat.reduceEqDiff, Nat.reduceAdd, Nat.reduceMul, Nat.reduceLT, Nat.reduceSub, Nat.reduceLeDiff, Nat.reduceBNe, Nat.reduceBEq, Nat.reduceBeqDiff, List.range, List.range.loop, gl0, Tryz.ntmps62, Tryz.results62, vb, u1, n1, spec_tdigits, sp_tdigits, c_tdigits, b_tdigits, spec_rcount, sp_rcount, c_rcount, b_rcount]
    refine ⟨by decide, by decide, ⟨ht.ver.1, by have := ht.ver.2; omega⟩, ⟨by omega, by omega⟩, some_tok (by rw [leI_len]), by simp only [leI_len, t4]; omega, ?_⟩
    refine loopI (Fin (t.ins.length + 1)) (fun k => [(6, .int .i64 (k.1 : Nat)), (5, .sli (.tok 20) .u8 (P ++ (t.ins.take k.1).flatMap inI)), (1, .bool false), (2, .bp 0 0)]) (fun k => ⟨[(0, .agg [.int .u32 t.ver, .sl .no 36 (insD t.ins), .sl .no 2 (outsD t.outs), .int .u32 t.lock])], [(20, ((P ++ (t.ins.take k.1).flatMap inI).length, 1))], 68⟩) (fun k => t.ins.length - k.1) 0 (fun _ => rfl) ?_ ?_
    · refine ⟨⟨wkD_eq rfl, rfl, wkD_eq ?_, rfl, wkD_eq rfl, rfl, wkD_eq rfl, rfl, trivial⟩, ⟨rfl, Nat.le_of_ble_eq_true rfl, rfl, trivial⟩, ⟨?_, Nat.le_of_ble_eq_true rfl, trivial⟩⟩
      · exact some_sli (by rw [hP]; simp [t4])
      · exact some_tok (by rw [hP]; simp only [List.length_append, List.length_cons, leI_len, t4, Fin.val_zero, List.take_zero, List.flatMap_nil, List.length_nil]; omega)
    · rintro ⟨k, hk⟩
      simp (config := {dsimp := false}) only [↓vp0, vz, vn, nq, tys, cellD, wideIR, if_true, if_false, implies_true, forall_const, ne_eq, reduceIte, reduceCtorEq, Nat.reduceEqDiff, Nat.reduceAdd, Nat.reduceMul, Nat.reduceLT, Nat.reduceSub, Nat.reduceLeDiff, Nat.reduceBNe, Nat.reduceBEq, Nat.reduceBeqDiff, List.range, List.range.loop, gl0, Tryz.ntmps62, Tryz.results62, vb, n2, spec_rcount, sp_rcount, c_rcount, b_rcount]
      refine ⟨fun hh => ?_, fun hh => ?_⟩
      · have hh := of_decide_eq_true hh
        have hk' : k < t.ins.length := by omega
        have g1 := insD_get t.ins k hk'
        have hx := ht.ins _ (getD_memI hk')
        have hfl := flat_le inI t.ins k hk'
        have hsn := flat_snoc inI t.ins k hk'
        have hs2 := hx.script.2
        have hil : (inI (t.ins.getD k default)).length = 32 + 4 + (textI (t.ins.getD k default).script).length + 4 := by simp only [inI, List.length_append, leI_len, hx.prev]
        have hsl : (t.ins.getD k default).script.length ≤ (textI (t.ins.getD k default).script).length := by simp only [textI, List.length_append]; omega
        obtain ⟨Y, hY⟩ : ∃ Y, Y = P ++ (t.ins.take k).flatMap inI := ⟨_, rfl⟩
        have hYl : Y.length + (inI (t.ins.getD k default)).length < 1000000 := by rw [hY]; simp only [List.length_append]; omega
        have w1 : IntKind.wrap .u64 (t.ins.getD k default).ix = (t.ins.getD k default).ix := IntWalk.u64_in _ (by have := hx.ix.1; have := hx.ix.2; omega)
        have w2 : IntKind.wrap .u64 (t.ins.getD k default).seq = (t.ins.getD k default).seq := IntWalk.u64_in _ (by have := hx.seq.1; have := hx.seq.2; omega)
        rw [← hY]
        simp (config := {dsimp := false}) only [↓vp0, vz, vn, nq, tys, cellD, wideIR, if_true, if_false, implies_true, forall_const, ne_eq, reduceIte, reduceCtorEq, Nat.reduceEqDiff, Nat.reduceAdd, Nat.reduceMul, Nat.reduceLT, Nat.reduceSub, Nat.reduceLeDiff, Nat.reduceBNe, Nat.reduceBEq, Nat.reduceBeqDiff, List.range, List.range.loop, gl0, Tryz.ntmps62, Tryz.results62, Int.toNat_natCast, g1, inD]
        refine ⟨by omega, by omega, ?_⟩
        refine loopI (Fin 33) (fun m => [(8, .int .i64 (m.1 : Nat)), (7, .bp 108 0), (5, .sli (.tok 20) .u8 (Y ++ (t.ins.getD k default).prev.take m.1)), (6, .int .i64 (k : Nat)), (1, .bool false), (2, .bp 0 0)]) (fun m => ⟨[(0, .agg [.int .u32 t.ver, .sl .no 36 (insD t.ins), .sl .no 2 (outsD t.outs), .int .u32 t.lock]), (108, inD (t.ins.getD k default))], [(20, ((Y ++ (t.ins.getD k default).prev.take m.1).length, 1))], 120⟩) (fun m => 32 - m.1) 0 (fun _ => rfl) ?_ ?_
        · refine ⟨⟨wkD_eq rfl, rfl, wkD_eq rfl, rfl, wkD_eq ?_, rfl, wkD_eq rfl, rfl, wkD_eq rfl, rfl, wkD_eq rfl, rfl, trivial⟩, ⟨rfl, Nat.le_of_ble_eq_true rfl, rfl, rfl, Nat.le_of_ble_eq_true rfl, rfl, trivial⟩, ⟨?_, Nat.le_of_ble_eq_true rfl, trivial⟩⟩
          · exact some_sli (by simp)
          · exact some_tok (by simp)
        · rintro ⟨m, hm⟩
          simp (config := {dsimp := false}) only [↓vp0, vz, vn, nq, tys, cellD, wideIR, if_true, if_false, implies_true, forall_const, ne_eq, reduceIte, reduceCtorEq, Nat.reduceEqDiff, Nat.reduceAdd, Nat.reduceMul, Nat.reduceLT, Nat.reduceSub, Nat.reduceLeDiff, Nat.reduceBNe, Nat.reduceBEq, Nat.reduceBeqDiff, List.range, List.range.loop, gl0, Tryz.ntmps62, Tryz.results62, inD]
          refine ⟨fun h2 => ?_, fun h2 => ?_⟩
          · have h2 := of_decide_eq_true h2
            have e := tk (t.ins.getD k default).prev m (by rw [hx.prev]; omega)
            simp (config := {dsimp := false}) only [↓vp0, vz, vn, nq, tys, cellD, wideIR, if_true, if_false, implies_true, forall_const, ne_eq, reduceIte, reduceCtorEq, Nat.reduceEqDiff, Nat.reduceAdd, Nat.reduceMul, Nat.reduceLT, Nat.reduceSub, Nat.reduceLeDiff, Nat.reduceBNe, Nat.reduceBEq, Nat.reduceBeqDiff, List.range, List.range.loop, gl0, Tryz.ntmps62, Tryz.results62, Int.toNat_natCast, inD]
            refine ⟨by omega, by omega, by simp only [List.length_append, List.length_take, hx.prev]; omega, ⟨m + 1, by omega⟩, ⟨⟨wkD_eq ?_, rfl, wkD_eq rfl, rfl, wkD_eq ?_, rfl, wkD_eq rfl, rfl, wkD_eq rfl, rfl, wkD_eq rfl, rfl, trivial⟩, ⟨rfl, Nat.le_of_ble_eq_true rfl, rfl, rfl, Nat.le_of_ble_eq_true rfl, rfl, trivial⟩, ⟨?_, Nat.le_of_ble_eq_true rfl, trivial⟩⟩, by (try simp only); omega⟩
            · exact some_i64 (by (try simp only); omega)
            · exact some_sli (by rw [e, List.append_assoc])
            · exact some_tok (by rw [e]; simp only [List.length_append, List.length_cons, List.length_nil]; omega)
          · have h2 := of_decide_eq_false h2
            obtain rfl : m = 32 := by omega
            have e : (t.ins.getD k default).prev.take 32 = (t.ins.getD k default).prev := List.take_of_length_le (by rw [hx.prev]; exact Nat.le_refl _)
            simp (config := {dsimp := false}) only [↓vp0, vz, vn, nq, tys, cellD, wideIR, if_true, if_false, implies_true, forall_const, ne_eq, reduceIte, reduceCtorEq, Nat.reduceEqDiff, Nat.reduceAdd, Nat.reduceMul, Nat.reduceLT, Nat.reduceSub, Nat.reduceLeDiff, Nat.reduceBNe, Nat.reduceBEq, Nat.reduceBeqDiff, List.range, List.range.loop, gl0, Tryz.ntmps62, Tryz.results62, vb, PF.toR, givesIf, inD, e, w1, w2, spec_tdigits, sp_tdigits, c_tdigits, b_tdigits, spec_rtext, sp_rtext, c_rtext, b_rtext]
            refine ⟨by decide, by decide, ⟨hx.ix.1, by have := hx.ix.2; omega⟩, by simp only [List.length_append, List.length_cons, List.length_nil, leI_len, hx.prev, t4]; omega, by omega, some_tok (by simp only [List.length_append, List.length_cons, List.length_nil, leI_len, hx.prev, t4]; try omega), by simp only [List.length_append, List.length_cons, List.length_nil, leI_len, hx.prev, t4]; omega, by decide, by decide, ⟨hx.seq.1, by have := hx.seq.2; omega⟩, some_tok (by simp only [List.length_append, List.length_cons, List.length_nil, leI_len, hx.prev, t4]; try omega), by simp only [List.length_append, List.length_cons, List.length_nil, leI_len, hx.prev, t4]; omega, ⟨k + 1, by omega⟩, ⟨⟨wkD_eq ?_, rfl, wkD_eq ?_, rfl, wkD_eq rfl, rfl, wkD_eq rfl, rfl, trivial⟩, ⟨rfl, Nat.le_of_ble_eq_true rfl, rfl, trivial⟩, ⟨?_, Nat.le_of_ble_eq_true rfl, trivial⟩⟩, by (try simp only); omega⟩
            · exact some_i64 (by (try simp only); omega)
            · exact some_sli (by rw [hsn, hY]; simp only [inI, List.append_assoc]; rfl)
            · exact some_tok (by have e := congrArg List.length hY; rw [hsn]; simp only [List.length_append] at e ⊢; simp only [hil, leI_len, hx.prev, t4]; omega)
      have hh := of_decide_eq_false hh
      obtain rfl : k = t.ins.length := by omega
      simp only [List.take_length]
      obtain ⟨P2, hP2⟩ : ∃ P2, P2 = P ++ t.ins.flatMap inI ++ countI t.outs.length := ⟨_, rfl⟩
      have hP2l : P2.length = P.length + (t.ins.flatMap inI).length + (countI t.outs.length).length := by rw [hP2]; simp only [List.length_append]
      refine ⟨⟨by omega, by omega⟩, by simp only [List.length_append]; omega, ?_⟩
      refine loopI (Fin (t.outs.length + 1)) (fun k => [(9, .int .i64 (k.1 : Nat)), (5, .sli (.tok 20) .u8 (P2 ++ (t.outs.take k.1).flatMap outI)), (1, .bool false), (2, .bp 0 0)]) (fun k => ⟨[(0, .agg [.int .u32 t.ver, .sl .no 36 (insD t.ins), .sl .no 2 (outsD t.outs), .int .u32 t.lock])], [(20, ((P2 ++ (t.outs.take k.1).flatMap outI).length, 1))], 124⟩) (fun k => t.outs.length - k.1) 0 (fun _ => rfl) ?_ ?_
      · refine ⟨⟨wkD_eq rfl, rfl, wkD_eq ?_, rfl, wkD_eq rfl, rfl, wkD_eq rfl, rfl, trivial⟩, ⟨rfl, Nat.le_of_ble_eq_true rfl, rfl, trivial⟩, ⟨?_, Nat.le_of_ble_eq_true rfl, trivial⟩⟩
        · exact some_sli (by rw [hP2]; simp)
        · exact some_tok (by rw [hP2]; simp only [List.length_append, Fin.val_zero, List.take_zero, List.flatMap_nil, List.length_nil]; omega)
      rintro ⟨k, hk⟩
      simp (config := {dsimp := false}) only [↓vp0, vz, vn, nq, tys, cellD, wideIR, if_true, if_false, implies_true, forall_const, ne_eq, reduceIte, reduceCtorEq, Nat.reduceEqDiff, Nat.reduceAdd, Nat.reduceMul, Nat.reduceLT, Nat.reduceSub, Nat.reduceLeDiff, Nat.reduceBNe, Nat.reduceBEq, Nat.reduceBeqDiff, List.range, List.range.loop, gl0, Tryz.ntmps62, Tryz.results62]
      refine ⟨fun hh => ?_, fun hh => ?_⟩
      · have hh := of_decide_eq_true hh
        have hk' : k < t.outs.length := by omega
        have g1 := outsD_get t.outs k hk'
        have hx := ht.outs _ (getD_memI hk')
        have hfl := flat_le outI t.outs k hk'
        have hsn := flat_snoc outI t.outs k hk'
        have hs2 := hx.script.2
        have hil : (outI (t.outs.getD k default)).length = 8 + (textI (t.outs.getD k default).script).length := by simp only [outI, List.length_append, leI_len]
        have hsl : (t.outs.getD k default).script.length ≤ (textI (t.outs.getD k default).script).length := by simp only [textI, List.length_append]; omega
        obtain ⟨Y, hY⟩ : ∃ Y, Y = P2 ++ (t.outs.take k).flatMap outI := ⟨_, rfl⟩
        have hYl : Y.length + (outI (t.outs.getD k default)).length < 1000000 := by rw [hY]; simp only [List.length_append]; omega
        have w1 : IntKind.wrap .u64 (t.outs.getD k default).value = (t.outs.getD k default).value % 18446744073709551616 := rfl
        have m1 := Int.emod_nonneg (t.outs.getD k default).value (show (18446744073709551616 : Int) ≠ 0 by decide)
        have m2 := Int.emod_lt_of_pos (t.outs.getD k default).value (show (0 : Int) < 18446744073709551616 by decide)
        have t8 : Int.toNat 8 = 8 := rfl
        rw [← hY]
        simp (config := {dsimp := false}) only [↓vp0, vz, vn, nq, tys, cellD, wideIR, if_true, if_false, implies_true, forall_const, ne_eq, reduceIte, reduceCtorEq, Nat.reduceEqDiff, Nat.reduceAdd, Nat.reduceMul, Nat.reduceLT, Nat.reduceSub, Nat.reduceLeDiff, Nat.reduceBNe, Nat.reduceBEq, Nat.reduceBeqDiff, List.range, List.range.loop, gl0, Tryz.ntmps62, Tryz.results62, vb, PF.toR, givesIf, Int.toNat_natCast, g1, outD, w1, spec_tdigits, sp_tdigits, c_tdigits, b_tdigits, spec_rtext, sp_rtext, c_rtext, b_rtext]
        refine ⟨by omega, by omega, by decide, by decide, ⟨m1, m2⟩, by simp only [leI_len, t8]; omega, by omega, by omega, by omega, some_tok (by simp only [List.length_append, leI_len, t8]), by simp only [List.length_append, leI_len, t8]; omega, ⟨k + 1, by omega⟩, ⟨⟨wkD_eq ?_, rfl, wkD_eq ?_, rfl, wkD_eq rfl, rfl, wkD_eq rfl, rfl, trivial⟩, ⟨rfl, Nat.le_of_ble_eq_true rfl, rfl, trivial⟩, ⟨?_, Nat.le_of_ble_eq_true rfl, trivial⟩⟩, by (try simp only); omega⟩
        · exact some_i64 (by (try simp only); omega)
        · exact some_sli (by rw [hsn, hY]; simp only [outI, List.append_assoc]; rfl)
        · exact some_tok (by rw [hsn, ← List.append_assoc, ← hY]; simp only [List.length_append, hil, leI_len, t8]; omega)
      have hh := of_decide_eq_false hh
      obtain rfl : k = t.outs.length := by omega
      simp only [List.take_length]
      obtain ⟨P3, hP3⟩ : ∃ P3, P3 = P2 ++ t.outs.flatMap outI := ⟨_, rfl⟩
      have hP3l : P3.length = P2.length + (t.outs.flatMap outI).length := by rw [hP3]; simp only [List.length_append]
      have hall : P3 = leI 4 t.ver ++ ([] ++ ((countI t.ins.length ++ t.ins.flatMap inI) ++ (countI t.outs.length ++ t.outs.flatMap outI))) := by
        rw [hP3, hP2, hP]; simp only [List.append_assoc, List.cons_append, List.nil_append]
      rw [← hP3]
      refine loopI (Fin 1) (fun _ => [(10, .int .i64 0), (5, .sli (.tok 20) .u8 P3), (1, .bool false), (2, .bp 0 0)]) (fun _ => ⟨[(0, .agg [.int .u32 t.ver, .sl .no 36 (insD t.ins), .sl .no 2 (outsD t.outs), .int .u32 t.lock])], [(20, (P3.length, 1))], 148⟩) (fun _ => 0) 0 (fun _ => rfl) ?_ ?_
      · exact ⟨⟨wkD_eq rfl, rfl, wkD_eq rfl, rfl, wkD_eq rfl, rfl, wkD_eq rfl, rfl, trivial⟩, ⟨rfl, Nat.le_of_ble_eq_true rfl, rfl, trivial⟩, ⟨rfl, Nat.le_of_ble_eq_true rfl, trivial⟩⟩
      rintro ⟨_, _⟩
      cases hd : decide ((0 : Int) < (t.ins.length : Nat))
      all_goals simp (config := {dsimp := false}) only [↓vp0, vz, vn, nq, tys, cellD, wideIR, if_true, if_false, implies_true, forall_const, ne_eq, reduceIte, reduceCtorEq, Nat.reduceEqDiff, Nat.reduceAdd, Nat.reduceMul, Nat.reduceLT, Nat.reduceSub, Nat.reduceLeDiff, Nat.reduceBNe, Nat.reduceBEq, Nat.reduceBeqDiff, List.range, List.range.loop, gl0, Tryz.ntmps62, Tryz.results62, vb, givesIf, hd, hlay, u2, spec_tdigits, sp_tdigits, c_tdigits, b_tdigits]
      all_goals exact ⟨by decide, by decide, ⟨ht.lock.1, by have := ht.lock.2; omega⟩, by simp only [leI_len, t4]; omega, congrArg (D.sli .no .u8) (by rw [hall]; simp only [List.append_assoc, List.nil_append]; rfl)⟩
  · obtain ⟨P, hP⟩ : ∃ P, P = leI 4 t.ver ++ 0 :: 1 :: countI t.ins.length := ⟨_, rfl⟩
    have hPl : P.length = 4 + 2 + (countI t.ins.length).length := by rw [hP]; simp only [List.length_append, List.length_cons, leI_len]; try omega
    simp only [if_true, List.length_nil, List.length_cons] at hlen
    simp (config := {dsimp := false}) only [↓vp0, vz, vn, nq, tys, cellD, wideIR, if_true, if_false, implies_true, forall_const, ne_eq, reduceIte, reduceCtorEq, Nat.reduceEqDiff, Nat.reduceAdd, Nat.reduceMul, Nat.reduceLT, Nat.reduceSub, Nat.reduceLeDiff, Nat.reduceBNe, Nat.reduceBEq, Nat.reduceBeqDiff, List.range, List.range.loop, gl0, Tryz.ntmps62, Tryz.results62, vb, u1, n1, spec_tdigits, sp_tdigits, c_tdigits, b_tdigits, spec_rcount, sp_rcount, c_rcount, b_rcount]
    refine ⟨by decide, by decide, ⟨ht.ver.1, by have := ht.ver.2; omega⟩, some_tok (by rw [leI_len]), by rw [leI_len, t4]; decide, ⟨by omega, by omega⟩, some_tok (by simp only [List.length_append, List.length_cons, List.length_nil, leI_len]), by simp only [List.length_append, List.length_cons, List.length_nil, leI_len, t4]; omega, ?_⟩
    refine loopI (Fin (t.ins.length + 1)) (fun k => [(6, .int .i64 (k.1 : Nat)), (5, .sli (.tok 20) .u8 (P ++ (t.ins.take k.1).flatMap inI)), (1, .bool true), (2, .bp 0 0)]) (fun k => ⟨[(0, .agg [.int .u32 t.ver, .sl .no 36 (insD t.ins), .sl .no 2 (outsD t.outs), .int .u32 t.lock])], [(20, ((P ++ (t.ins.take k.1).flatMap inI).length, 1))], 84⟩) (fun k => t.ins.length - k.1) 0 (fun _ => rfl) ?_ ?_
    · refine ⟨⟨wkD_eq rfl, rfl, wkD_eq ?_, rfl, wkD_eq rfl, rfl, wkD_eq rfl, rfl, trivial⟩, ⟨rfl, Nat.le_of_ble_eq_true rfl, rfl, trivial⟩, ⟨?_, Nat.le_of_ble_eq_true rfl, trivial⟩⟩
      · exact some_sli (by rw [hP]; simp [t4])
      · exact some_tok (by rw [hP]; simp only [List.length_append, List.length_cons, leI_len, t4, Fin.val_zero, List.take_zero, List.flatMap_nil, List.length_nil]; omega)
    · rintro ⟨k, hk⟩
      simp (config := {dsimp := false}) only [↓vp0, vz, vn, nq, tys, cellD, wideIR, if_true, if_false, implies_true, forall_const, ne_eq, reduceIte, reduceCtorEq, Nat.reduceEqDiff, Nat.reduceAdd, Nat.reduceMul, Nat.reduceLT, Nat.reduceSub, Nat.reduceLeDiff, Nat.reduceBNe, Nat.reduceBEq, Nat.reduceBeqDiff, List.range, List.range.loop, gl0, Tryz.ntmps62, Tryz.results62, vb, n2, spec_rcount, sp_rcount, c_rcount, b_rcount]
      refine ⟨fun hh => ?_, fun hh => ?_⟩
      · have hh := of_decide_eq_true hh
        have hk' : k < t.ins.length := by omega
        have g1 := insD_get t.ins k hk'
        have hx := ht.ins _ (getD_memI hk')
        have hfl := flat_le inI t.ins k hk'
        have hsn := flat_snoc inI t.ins k hk'
        have hs2 := hx.script.2
        have hil : (inI (t.ins.getD k default)).length = 32 + 4 + (textI (t.ins.getD k default).script).length + 4 := by simp only [inI, List.length_append, leI_len, hx.prev]
        have hsl : (t.ins.getD k default).script.length ≤ (textI (t.ins.getD k default).script).length := by simp only [textI, List.length_append]; omega
        obtain ⟨Y, hY⟩ : ∃ Y, Y = P ++ (t.ins.take k).flatMap inI := ⟨_, rfl⟩
        have hYl : Y.length + (inI (t.ins.getD k default)).length < 1000000 := by rw [hY]; simp only [List.length_append]; omega
        have w1 : IntKind.wrap .u64 (t.ins.getD k default).ix = (t.ins.getD k default).ix := IntWalk.u64_in _ (by have := hx.ix.1; have := hx.ix.2; omega)
        have w2 : IntKind.wrap .u64 (t.ins.getD k default).seq = (t.ins.getD k default).seq := IntWalk.u64_in _ (by have := hx.seq.1; have := hx.seq.2; omega)
        rw [← hY]
        simp (config := {dsimp := false}) only [↓vp0, vz, vn, nq, tys, cellD, wideIR, if_true, if_false, implies_true, forall_const, ne_eq, reduceIte, reduceCtorEq, Nat.reduceEqDiff, Nat.reduceAdd, Nat.reduceMul, Nat.reduceLT, Nat.reduceSub, Nat.reduceLeDiff, Nat.reduceBNe, Nat.reduceBEq, Nat.reduceBeqDiff, List.range, List.range.loop, gl0, Tryz.ntmps62, Tryz.results62, Int.toNat_natCast, g1, inD]
        refine ⟨by omega, by omega, ?_⟩
        refine loopI (Fin 33) (fun m => [(8, .int .i64 (m.1 : Nat)), (7, .bp 124 0), (5, .sli (.tok 20) .u8 (Y ++ (t.ins.getD k default).prev.take m.1)), (6, .int .i64 (k : Nat)), (1, .bool true), (2, .bp 0 0)]) (fun m => ⟨[(0, .agg [.int .u32 t.ver, .sl .no 36 (insD t.ins), .sl .no 2 (outsD t.outs), .int .u32 t.lock]), (124, inD (t.ins.getD k default))], [(20, ((Y ++ (t.ins.getD k default).prev.take m.1).length, 1))], 136⟩) (fun m => 32 - m.1) 0 (fun _ => rfl) ?_ ?_
        · refine ⟨⟨wkD_eq rfl, rfl, wkD_eq rfl, rfl, wkD_eq ?_, rfl, wkD_eq rfl, rfl, wkD_eq rfl, rfl, wkD_eq rfl, rfl, trivial⟩, ⟨rfl, Nat.le_of_ble_eq_true rfl, rfl, rfl, Nat.le_of_ble_eq_true rfl, rfl, trivial⟩, ⟨?_, Nat.le_of_ble_eq_true rfl, trivial⟩⟩
          · exact some_sli (by simp)
          · exact some_tok (by simp)
        · rintro ⟨m, hm⟩
          simp (config := {dsimp := false}) only [↓vp0, vz, vn, nq, tys, cellD, wideIR, if_true, if_false, implies_true, forall_const, ne_eq, reduceIte, reduceCtorEq, Nat.reduceEqDiff, Nat.reduceAdd, Nat.reduceMul, Nat.reduceLT, Nat.reduceSub, Nat.reduceLeDiff, Nat.reduceBNe, Nat.reduceBEq, Nat.reduceBeqDiff, List.range, List.range.loop, gl0, Tryz.ntmps62, Tryz.results62, inD]
          refine ⟨fun h2 => ?_, fun h2 => ?_⟩
          · have h2 := of_decide_eq_true h2
            have e := tk (t.ins.getD k default).prev m (by rw [hx.prev]; omega)
            simp (config := {dsimp := false}) only [↓vp0, vz, vn, nq, tys, cellD, wideIR, if_true, if_false, implies_true, forall_const, ne_eq, reduceIte, reduceCtorEq, Nat.reduceEqDiff, Nat.reduceAdd, Nat.reduceMul, Nat.reduceLT, Nat.reduceSub, Nat.reduceLeDiff, Nat.reduceBNe, Nat.reduceBEq, Nat.reduceBeqDiff, List.range, List.range.loop, gl0, Tryz.ntmps62, Tryz.results62, Int.toNat_natCast, inD]
            refine ⟨by omega, by omega, by simp only [List.length_append, List.length_take, hx.prev]; omega, ⟨m + 1, by omega⟩, ⟨⟨wkD_eq ?_, rfl, wkD_eq rfl, rfl, wkD_eq ?_, rfl, wkD_eq rfl, rfl, wkD_eq rfl, rfl, wkD_eq rfl, rfl, trivial⟩, ⟨rfl, Nat.le_of_ble_eq_true rfl, rfl, rfl, Nat.le_of_ble_eq_true rfl, rfl, trivial⟩, ⟨?_, Nat.le_of_ble_eq_true rfl, trivial⟩⟩, by (try simp only); omega⟩
            · exact some_i64 (by (try simp only); omega)
            · exact some_sli (by rw [e, List.append_assoc])
            · exact some_tok (by rw [e]; simp only [List.length_append, List.length_cons, List.length_nil]; omega)
          · have h2 := of_decide_eq_false h2
            obtain rfl : m = 32 := by omega
            have e : (t.ins.getD k default).prev.take 32 = (t.ins.getD k default).prev := List.take_of_length_le (by rw [hx.prev]; exact Nat.le_refl _)
            simp (config := {dsimp := false}) only [↓vp0, vz, vn, nq, tys, cellD, wideIR, if_true, if_false, implies_true, forall_const, ne_eq, reduceIte, reduceCtorEq, Nat.reduceEqDiff, Nat.reduceAdd, Nat.reduceMul, Nat.reduceLT, Nat.reduceSub, Nat.reduceLeDiff, Nat.reduceBNe, Nat.reduceBEq, Nat.reduceBeqDiff, List.range, List.range.loop, gl0, Tryz.ntmps62, Tryz.results62, vb, PF.toR, givesIf, inD, e, w1, w2, spec_tdigits, sp_tdigits, c_tdigits, b_tdigits, spec_rtext, sp_rtext, c_rtext, b_rtext]
            refine ⟨by decide, by decide, ⟨hx.ix.1, by have := hx.ix.2; omega⟩, by simp only [List.length_append, List.length_cons, List.length_nil, leI_len, hx.prev, t4]; omega, by omega, some_tok (by simp only [List.length_append, List.length_cons, List.length_nil, leI_len, hx.prev, t4]; try omega), by simp only [List.length_append, List.length_cons, List.length_nil, leI_len, hx.prev, t4]; omega, by decide, by decide, ⟨hx.seq.1, by have := hx.seq.2; omega⟩, some_tok (by simp only [List.length_append, List.length_cons, List.length_nil, leI_len, hx.prev, t4]; try omega), by simp only [List.length_append, List.length_cons, List.length_nil, leI_len, hx.prev, t4]; omega, ⟨k + 1, by omega⟩, ⟨⟨wkD_eq ?_, rfl, wkD_eq ?_, rfl, wkD_eq rfl, rfl, wkD_eq rfl, rfl, trivial⟩, ⟨rfl, Nat.le_of_ble_eq_true rfl, rfl, trivial⟩, ⟨?_, Nat.le_of_ble_eq_true rfl, trivial⟩⟩, by (try simp only); omega⟩
            · exact some_i64 (by (try simp only); omega)
            · exact some_sli (by rw [hsn, hY]; simp only [inI, List.append_assoc]; rfl)
            · exact some_tok (by have e := congrArg List.length hY; rw [hsn]; simp only [List.length_append] at e ⊢; simp only [hil, leI_len, hx.prev, t4]; omega)
      have hh := of_decide_eq_false hh
      obtain rfl : k = t.ins.length := by omega
      simp only [List.take_length]
      obtain ⟨P2, hP2⟩ : ∃ P2, P2 = P ++ t.ins.flatMap inI ++ countI t.outs.length := ⟨_, rfl⟩
      have hP2l : P2.length = P.length + (t.ins.flatMap inI).length + (countI t.outs.length).length := by rw [hP2]; simp only [List.length_append]
      refine ⟨⟨by omega, by omega⟩, by simp only [List.length_append]; omega, ?_⟩
      refine loopI (Fin (t.outs.length + 1)) (fun k => [(9, .int .i64 (k.1 : Nat)), (5, .sli (.tok 20) .u8 (P2 ++ (t.outs.take k.1).flatMap outI)), (1, .bool true), (2, .bp 0 0)]) (fun k => ⟨[(0, .agg [.int .u32 t.ver, .sl .no 36 (insD t.ins), .sl .no 2 (outsD t.outs), .int .u32 t.lock])], [(20, ((P2 ++ (t.outs.take k.1).flatMap outI).length, 1))], 140⟩) (fun k => t.outs.length - k.1) 0 (fun _ => rfl) ?_ ?_
      · refine ⟨⟨wkD_eq rfl, rfl, wkD_eq ?_, rfl, wkD_eq rfl, rfl, wkD_eq rfl, rfl, trivial⟩, ⟨rfl, Nat.le_of_ble_eq_true rfl, rfl, trivial⟩, ⟨?_, Nat.le_of_ble_eq_true rfl, trivial⟩⟩
        · exact some_sli (by rw [hP2]; simp)
        · exact some_tok (by rw [hP2]; simp only [List.length_append, Fin.val_zero, List.take_zero, List.flatMap_nil, List.length_nil]; omega)
      rintro ⟨k, hk⟩
      simp (config := {dsimp := false}) only [↓vp0, vz, vn, nq, tys, cellD, wideIR, if_true, if_false, implies_true, forall_const, ne_eq, reduceIte, reduceCtorEq, Nat.reduceEqDiff, Nat.reduceAdd, Nat.reduceMul, Nat.reduceLT, Nat.reduceSub, Nat.reduceLeDiff, Nat.reduceBNe, Nat.reduceBEq, Nat.reduceBeqDiff, List.range, List.range.loop, gl0, Tryz.ntmps62, Tryz.results62]
      refine ⟨fun hh => ?_, fun hh => ?_⟩
      · have hh := of_decide_eq_true hh
        have hk' : k < t.outs.length := by omega
        have g1 := outsD_get t.outs k hk'
        have hx := ht.outs _ (getD_memI hk')
        have hfl := flat_le outI t.outs k hk'
        have hsn := flat_snoc outI t.outs k hk'
        have hs2 := hx.script.2
        have hil : (outI (t.outs.getD k default)).length = 8 + (textI (t.outs.getD k default).script).length := by simp only [outI, List.length_append, leI_len]
        have hsl : (t.outs.getD k default).script.length ≤ (textI (t.outs.getD k default).script).length := by simp only [textI, List.length_append]; omega
        obtain ⟨Y, hY⟩ : ∃ Y, Y = P2 ++ (t.outs.take k).flatMap outI := ⟨_, rfl⟩
        have hYl : Y.length + (outI (t.outs.getD k default)).length < 1000000 := by rw [hY]; simp only [List.length_append]; omega
        have w1 : IntKind.wrap .u64 (t.outs.getD k default).value = (t.outs.getD k default).value % 18446744073709551616 := rfl
        have m1 := Int.emod_nonneg (t.outs.getD k default).value (show (18446744073709551616 : Int) ≠ 0 by decide)
        have m2 := Int.emod_lt_of_pos (t.outs.getD k default).value (show (0 : Int) < 18446744073709551616 by decide)
        have t8 : Int.toNat 8 = 8 := rfl
        rw [← hY]
        simp (config := {dsimp := false}) only [↓vp0, vz, vn, nq, tys, cellD, wideIR, if_true, if_false, implies_true, forall_const, ne_eq, reduceIte, reduceCtorEq, Nat.reduceEqDiff, Nat.reduceAdd, Nat.reduceMul, Nat.reduceLT, Nat.reduceSub, Nat.reduceLeDiff, Nat.reduceBNe, Nat.reduceBEq, Nat.reduceBeqDiff, List.range, List.range.loop, gl0, Tryz.ntmps62, Tryz.results62, vb, PF.toR, givesIf, Int.toNat_natCast, g1, outD, w1, spec_tdigits, sp_tdigits, c_tdigits, b_tdigits, spec_rtext, sp_rtext, c_rtext, b_rtext]
        refine ⟨by omega, by omega, by decide, by decide, ⟨m1, m2⟩, by simp only [leI_len, t8]; omega, by omega, by omega, by omega, some_tok (by simp only [List.length_append, leI_len, t8]), by simp only [List.length_append, leI_len, t8]; omega, ⟨k + 1, by omega⟩, ⟨⟨wkD_eq ?_, rfl, wkD_eq ?_, rfl, wkD_eq rfl, rfl, wkD_eq rfl, rfl, trivial⟩, ⟨rfl, Nat.le_of_ble_eq_true rfl, rfl, trivial⟩, ⟨?_, Nat.le_of_ble_eq_true rfl, trivial⟩⟩, by (try simp only); omega⟩
        · exact some_i64 (by (try simp only); omega)
        · exact some_sli (by rw [hsn, hY]; simp only [outI, List.append_assoc]; rfl)
        · exact some_tok (by rw [hsn, ← List.append_assoc, ← hY]; simp only [List.length_append, hil, leI_len, t8]; omega)
      have hh := of_decide_eq_false hh
      obtain rfl : k = t.outs.length := by omega
      simp only [List.take_length]
      obtain ⟨P3, hP3⟩ : ∃ P3, P3 = P2 ++ t.outs.flatMap outI := ⟨_, rfl⟩
      have hP3l : P3.length = P2.length + (t.outs.flatMap outI).length := by rw [hP3]; simp only [List.length_append]
      have hall : P3 = leI 4 t.ver ++ ([0, 1] ++ ((countI t.ins.length ++ t.ins.flatMap inI) ++ (countI t.outs.length ++ t.outs.flatMap outI))) := by
        rw [hP3, hP2, hP]; simp only [List.append_assoc, List.cons_append, List.nil_append]
      rw [← hP3]
      refine loopI (Fin (t.ins.length + 1)) (fun k => [(10, .int .i64 (k.1 : Nat)), (5, .sli (.tok 20) .u8 (P3 ++ (t.ins.take k.1).flatMap witI)), (1, .bool true), (2, .bp 0 0)]) (fun k => ⟨[(0, .agg [.int .u32 t.ver, .sl .no 36 (insD t.ins), .sl .no 2 (outsD t.outs), .int .u32 t.lock])], [(20, ((P3 ++ (t.ins.take k.1).flatMap witI).length, 1))], 164⟩) (fun k => t.ins.length - k.1) 0 (fun _ => rfl) ?_ ?_
      · refine ⟨⟨wkD_eq rfl, rfl, wkD_eq ?_, rfl, wkD_eq rfl, rfl, wkD_eq rfl, rfl, trivial⟩, ⟨rfl, Nat.le_of_ble_eq_true rfl, rfl, trivial⟩, ⟨?_, Nat.le_of_ble_eq_true rfl, trivial⟩⟩
        · exact some_sli (by simp)
        · exact some_tok (by simp)
      rintro ⟨k, hk⟩
      by_cases hk' : k < t.ins.length
      · have hd : decide (((k : Nat) : Int) < ((t.ins.length : Nat) : Int)) = true := decide_eq_true (by omega)
        have g1 := insD_get t.ins k hk'
        have hx := ht.ins _ (getD_memI hk')
        have hfl := flat_le witI t.ins k hk'
        have hsn := flat_snoc witI t.ins k hk'
        have hmw := hx.many
        have c3 := count_len ((t.ins.getD k default).wit.length : Int)
        have n3 : IntKind.wrap .u64 ((t.ins.getD k default).wit.length : Int) = ((t.ins.getD k default).wit.length : Int) := IntWalk.u64_in _ (by omega)
        have hwl : (witI (t.ins.getD k default)).length = (countI (t.ins.getD k default).wit.length).length + ((t.ins.getD k default).wit.flatMap textI).length := by simp only [witI, List.length_append]
        obtain ⟨Y, hY⟩ : ∃ Y, Y = P3 ++ (t.ins.take k).flatMap witI := ⟨_, rfl⟩
        have hYl : Y.length + (witI (t.ins.getD k default)).length < 1000000 := by rw [hY]; simp only [List.length_append]; omega
        rw [← hY]
        simp (config := {dsimp := false}) only [↓vp0, vz, vn, nq, tys, cellD, wideIR, if_true, if_false, implies_true, forall_const, ne_eq, reduceIte, reduceCtorEq, Nat.reduceEqDiff, Nat.reduceAdd, Nat.reduceMul, Nat.reduceLT, Nat.reduceSub, Nat.reduceLeDiff, Nat.reduceBNe, Nat.reduceBEq, Nat.reduceBeqDiff, List.range, List.range.loop, gl0, Tryz.ntmps62, Tryz.results62, vb, Int.toNat_natCast, g1, inD, hd, n3, spec_rcount, sp_rcount, c_rcount, b_rcount]
        refine ⟨by omega, by omega, ⟨by omega, by omega⟩, by omega, ?_⟩
        refine loopI (Fin ((t.ins.getD k default).wit.length + 1)) (fun m => [(11, .int .i64 (m.1 : Nat)), (10, .int .i64 (k : Nat)), (5, .sli (.tok 20) .u8 (Y ++ (countI (t.ins.getD k default).wit.length ++ ((t.ins.getD k default).wit.take m.1).flatMap textI))), (1, .bool true), (2, .bp 0 0)]) (fun m => ⟨[(0, .agg [.int .u32 t.ver, .sl .no 36 (insD t.ins), .sl .no 2 (outsD t.outs), .int .u32 t.lock])], [(20, ((Y ++ (countI (t.ins.getD k default).wit.length ++ ((t.ins.getD k default).wit.take m.1).flatMap textI)).length, 1))], 248⟩) (fun m => (t.ins.getD k default).wit.length - m.1) 0 (fun _ => rfl) ?_ ?_
        · refine ⟨⟨wkD_eq rfl, rfl, wkD_eq rfl, rfl, wkD_eq ?_, rfl, wkD_eq rfl, rfl, wkD_eq rfl, rfl, trivial⟩, ⟨rfl, Nat.le_of_ble_eq_true rfl, rfl, trivial⟩, ⟨?_, Nat.le_of_ble_eq_true rfl, trivial⟩⟩
          · exact some_sli (by simp)
          · exact some_tok (by simp)
        rintro ⟨m, hm⟩
        simp (config := {dsimp := false}) only [↓vp0, vz, vn, nq, tys, cellD, wideIR, if_true, if_false, implies_true, forall_const, ne_eq, reduceIte, reduceCtorEq, Nat.reduceEqDiff, Nat.reduceAdd, Nat.reduceMul, Nat.reduceLT, Nat.reduceSub, Nat.reduceLeDiff, Nat.reduceBNe, Nat.reduceBEq, Nat.reduceBeqDiff, List.range, List.range.loop, gl0, Tryz.ntmps62, Tryz.results62, Int.toNat_natCast, g1, inD]
        refine ⟨by omega, by omega, fun h2 => ?_, fun h2 => ?_⟩
        · have h2 := of_decide_eq_true h2
          have hm' : m < (t.ins.getD k default).wit.length := by omega
          have g2 : (slis (t.ins.getD k default).wit).getD m .any = .sli .no .u8 ((t.ins.getD k default).wit.getD m default) := slis_get _ m hm'
          have hw := (hx.wit _ (getD_memI hm')).2
          have hf2 := flat_le textI (t.ins.getD k default).wit m hm'
          have hs2 := flat_snoc textI (t.ins.getD k default).wit m hm'
          have hsl : ((t.ins.getD k default).wit.getD m default).length ≤ (textI ((t.ins.getD k default).wit.getD m default)).length := by simp only [textI, List.length_append]; omega
          simp (config := {dsimp := false}) only [↓vp0, vz, vn, nq, tys, cellD, wideIR, if_true, if_false, implies_true, forall_const, ne_eq, reduceIte, reduceCtorEq, Nat.reduceEqDiff, Nat.reduceAdd, Nat.reduceMul, Nat.reduceLT, Nat.reduceSub, Nat.reduceLeDiff, Nat.reduceBNe, Nat.reduceBEq, Nat.reduceBeqDiff, List.range, List.range.loop, gl0, Tryz.ntmps62, Tryz.results62, vb, PF.toR, givesIf, Int.toNat_natCast, g1, g2, inD, spec_rtext, sp_rtext, c_rtext, b_rtext]
          refine ⟨by omega, by omega, by omega, by omega, by omega, by simp only [List.length_append]; omega, ⟨m + 1, by omega⟩, ⟨⟨wkD_eq ?_, rfl, wkD_eq rfl, rfl, wkD_eq ?_, rfl, wkD_eq rfl, rfl, wkD_eq rfl, rfl, trivial⟩, ⟨rfl, Nat.le_of_ble_eq_true rfl, rfl, trivial⟩, ⟨?_, Nat.le_of_ble_eq_true rfl, trivial⟩⟩, by (try simp only); omega⟩
          · exact some_i64 (by (try simp only); omega)
          · exact some_sli (by rw [hs2])
          · exact some_tok (by rw [hs2]; simp only [List.length_append, Nat.add_assoc])
        · have h2 := of_decide_eq_false h2
          obtain rfl : m = (t.ins.getD k default).wit.length := by omega
          simp only [List.take_length]
          have hwe : witI (t.ins.getD k default) = countI (t.ins.getD k default).wit.length ++ (t.ins.getD k default).wit.flatMap textI := rfl
          refine ⟨⟨k + 1, by omega⟩, ⟨⟨wkD_eq ?_, rfl, wkD_eq ?_, rfl, wkD_eq rfl, rfl, wkD_eq rfl, rfl, trivial⟩, ⟨rfl, Nat.le_of_ble_eq_true rfl, rfl, trivial⟩, ⟨?_, Nat.le_of_ble_eq_true rfl, trivial⟩⟩, by (try simp only); omega⟩
          · exact some_i64 (by (try simp only); omega)
          · exact some_sli (by rw [hsn, hY, hwe]; simp only [List.append_assoc])
          · exact some_tok (by rw [hsn, hY, hwe]; simp only [List.length_append, Nat.add_assoc])
      · have hd : decide (((k : Nat) : Int) < ((t.ins.length : Nat) : Int)) = false := decide_eq_false (by omega)
        obtain rfl : k = t.ins.length := by omega
        simp only [List.take_length]
        simp (config := {dsimp := false}) only [↓vp0, vz, vn, nq, tys, cellD, wideIR, if_true, if_false, implies_true, forall_const, ne_eq, reduceIte, reduceCtorEq, Nat.reduceEqDiff, Nat.reduceAdd, Nat.reduceMul, Nat.reduceLT, Nat.reduceSub, Nat.reduceLeDiff, Nat.reduceBNe, Nat.reduceBEq, Nat.reduceBeqDiff, List.range, List.range.loop, gl0, Tryz.ntmps62, Tryz.results62, vb, givesIf, hd, hlay, u2, spec_tdigits, sp_tdigits, c_tdigits, b_tdigits]
        exact ⟨by decide, by decide, ⟨ht.lock.1, by have := ht.lock.2; omega⟩, by simp only [List.length_append, leI_len, t4]; omega, congrArg (D.sli .no .u8) (by rw [hall]; simp only [List.append_assoc, List.cons_append, List.nil_append]; rfl)⟩
end Go.Vi.CZ
end

section
set_option linter.unusedVariables false
set_option linter.unusedSimpArgs false
set_option maxHeartbeats 0
set_option maxRecDepth 20000
namespace Go.Vi.CZ
open Go.Proofs

theorem refSize_len (n : Int) : ∀ k, (refSize n k).1.length = 8
  | 0 => rfl
  | k + 1 => by simp [refSize, refSize_len n k]
theorem c_refClosing : Contract E 64 := by
  refine contract_seeT hE hgl (show E.P.funcs[64]? = some Tryz.f64 from Tryz.func64) rfl (p := sp_refClosing) (fun _ _ _ => rfl) ?_
  intro args hv
  unfold sp_refClosing at hv ⊢
  split at hv
  case h_2 => exact hv.elim
  rename_i n
  refine ⟨by simp, Nat.le_of_ble_eq_true rfl, ?_⟩
  simp (config := {dsimp := false}) only [↓vp0, vz, vn, nq, tys, cellD, wideIR, if_true, if_false, implies_true, forall_const, ne_eq, reduceIte, reduceCtorEq, Nat.reduceEqDiff, Nat.reduceAdd, Nat.reduceMul, Nat.reduceLT, Nat.reduceSub, Nat.reduceLeDiff, Nat.reduceBNe, Nat.reduceBEq, Nat.reduceBeqDiff, List.range, List.range.loop, gl0, Tryz.ntmps64, Tryz.results64]
  simp only [givesIf] at hv ⊢
  refine ⟨by decide, by decide, ?_⟩
  refine loopI (Fin 9) (fun k => [(5, .int .i64 (7 - (k.1 : Int))), (4, .int .u64 (refSize n k.1).2), (3, .bsl 4 0 8 0 8), (0, .int .i64 n)]) (fun k => ⟨[(4, .arr .u8 8 (refSize n k.1).1)], [], 32⟩) (fun k => 8 - k.1) 0 (fun _ => rfl) ?_ ?_
  · exact ⟨⟨wkD_eq rfl, rfl, wkD_eq rfl, rfl, wkD_eq rfl, rfl, wkD_eq rfl, rfl, trivial⟩, ⟨rfl, Nat.le_of_ble_eq_true rfl, rfl, trivial⟩, trivial⟩
  rintro ⟨k, hk⟩
  simp (config := {dsimp := false}) only [↓vp0, vz, vn, nq, tys, cellD, wideIR, if_true, if_false, implies_true, forall_const, ne_eq, reduceIte, reduceCtorEq, Nat.reduceEqDiff, Nat.reduceAdd, Nat.reduceMul, Nat.reduceLT, Nat.reduceSub, Nat.reduceLeDiff, Nat.reduceBNe, Nat.reduceBEq, Nat.reduceBeqDiff, List.range, List.range.loop, gl0, Tryz.ntmps64, Tryz.results64]
  refine ⟨fun h => ?_, fun h => ?_⟩
  · have h := of_decide_eq_true h
    refine ⟨by decide, by omega, by omega, by decide, ⟨k + 1, by omega⟩, ⟨⟨wkD_eq ?_, rfl, wkD_eq rfl, rfl, wkD_eq rfl, rfl, wkD_eq rfl, rfl, trivial⟩, ⟨?_, Nat.le_of_ble_eq_true rfl, rfl, trivial⟩, trivial⟩, by (try simp only); omega⟩
    · exact some_i64 (by (try simp only); omega)
    · refine some_arr ?_
      rw [show ((0 : Int) + (7 - (k : Int))).toNat = 7 - k by omega]
      rfl
  · have h := of_decide_eq_false h
    obtain rfl : k = 8 := by omega
    have hp : pad n < 64 := by unfold pad; omega
    have hpz : ∀ z : Nat, z < 64 → ((n + 1 + z + 8) % 64 = 0 ↔ z = pad n) := by intro z hz; unfold pad; omega
    refine loopI (Fin (pad n + 1)) (fun z => [(6, .int .i64 (z.1 : Int)), (3, .bsl 4 0 8 0 8), (0, .int .i64 n)]) (fun _ => ⟨[(4, .arr .u8 8 (refSize n 8).1)], [], 44⟩) (fun z => pad n - z.1) 0 (fun _ => rfl) ?_ ?_
    · exact ⟨⟨wkD_eq rfl, rfl, wkD_eq rfl, rfl, wkD_eq rfl, rfl, trivial⟩, ⟨rfl, Nat.le_of_ble_eq_true rfl, rfl, trivial⟩, trivial⟩
    rintro ⟨z, hz⟩
    simp (config := {dsimp := false}) only [↓vp0, vz, vn, nq, tys, cellD, wideIR, if_true, if_false, implies_true, forall_const, ne_eq, reduceIte, reduceCtorEq, Nat.reduceEqDiff, Nat.reduceAdd, Nat.reduceMul, Nat.reduceLT, Nat.reduceSub, Nat.reduceLeDiff, Nat.reduceBNe, Nat.reduceBEq, Nat.reduceBeqDiff, List.range, List.range.loop, gl0, Tryz.ntmps64, Tryz.results64]
    have e : (IntKind.wrap .i64 (IntKind.wrap .i64 (IntKind.wrap .i64 (n + 1) + (z : Int)) + 8)).tmod 64 = (n + 1 + z + 8) % 64 := by
      rw [IntWalk.i64_in (n + 1) (by omega), IntWalk.i64_in (n + 1 + z) (by omega), IntWalk.i64_in _ (by omega), Int.tmod_eq_emod_of_nonneg (by omega)]
    rw [e]
    refine ⟨by decide, fun h => ?_, fun h => ?_⟩
    · have h := of_decide_eq_true h
      have hzp := (hpz z (by omega)).1 h
      subst hzp
      have hl := refSize_len n 8
      have ht : List.take (Int.toNat 8) (List.drop (Int.toNat 0) (refSize n 8).fst) = (refSize n 8).1 := by
        rw [show Int.toNat 0 = 0 from rfl, List.drop_zero]
        exact List.take_of_length_le (by rw [hl]; decide)
      rw [ht]
      exact ⟨by simp; omega, fun kk m e => by cases e; omega, by simp [Nat.add_comm], by simp [hl]; omega, by simp⟩
    · have h := of_decide_eq_false h
      have hzp : z ≠ pad n := fun e => h ((hpz z (by omega)).2 e)
      refine ⟨⟨z + 1, by omega⟩, ⟨⟨wkD_eq ?_, rfl, wkD_eq rfl, rfl, wkD_eq rfl, rfl, trivial⟩, ⟨rfl, Nat.le_of_ble_eq_true rfl, rfl, trivial⟩, trivial⟩, by (try simp only); omega⟩
      exact some_i64 (by (try simp only); omega)
end Go.Vi.CZ
end

section
set_option linter.unusedVariables false
set_option linter.unusedSimpArgs false
set_option maxHeartbeats 0
set_option maxRecDepth 20000
namespace Go.Vi.CZ
open Go.Proofs

theorem c_three : Contract E 91 := by
  refine contract_seeT hE hgl (show E.P.funcs[91]? = some Tryz.f91 from Tryz.func91) rfl (p := sp_three) (fun _ _ _ => rfl) ?_
  intro args hv
  unfold sp_three at hv ⊢
  split at hv
  case h_2 => exact hv.elim
  refine ⟨by simp, Nat.le_of_ble_eq_true rfl, ?_⟩
  simp (config := {dsimp := false}) only [↓vp0, vz, vn, nq, tys, cellD, wideIR, if_true, if_false, implies_true, forall_const, ne_eq, reduceIte, reduceCtorEq, Nat.reduceEqDiff, Nat.reduceAdd, Nat.reduceMul, Nat.reduceLT, Nat.reduceSub, Nat.reduceLeDiff, Nat.reduceBNe, Nat.reduceBEq, Nat.reduceBeqDiff, List.range, List.range.loop, gl0, Tryz.ntmps91, Tryz.results91]
  rfl
theorem c_Right : Contract E 92 := by
  refine contract_seeT hE hgl (show E.P.funcs[92]? = some Tryz.f92 from Tryz.func92) rfl (p := sp_Right) (fun _ _ _ => rfl) ?_
  intro args hv
  unfold sp_Right at hv ⊢
  split at hv
  case h_2 => exact hv.elim
  rename_i x n
  refine ⟨by simp, Nat.le_of_ble_eq_true rfl, ?_⟩
  simp (config := {dsimp := false}) only [↓vp0, vz, vn, nq, tys, cellD, wideIR, if_true, if_false, implies_true, forall_const, ne_eq, reduceIte, reduceCtorEq, Nat.reduceEqDiff, Nat.reduceAdd, Nat.reduceMul, Nat.reduceLT, Nat.reduceSub, Nat.reduceLeDiff, Nat.reduceBNe, Nat.reduceBEq, Nat.reduceBeqDiff, List.range, List.range.loop, gl0, Tryz.ntmps92, Tryz.results92]
  simp only [givesIf] at hv
  refine loopI (Fin (n.toNat + 1)) (fun i => [(5, .int .i64 (i.1 : Int)), (0, .int .u32 (iterI rstep i.1 x)), (1, .int .i64 n)]) (fun _ => ⟨[], [], 8⟩) (fun i => n.toNat - i.1) 0 (fun _ => rfl) ?_ ?_
  · simp [Wk, wkSl, wkD, wkBs, wkTs, look, D.under, iterI]
  rintro ⟨i, hi⟩
  simp (config := {dsimp := false}) only [↓vp0, vz, vn, nq, tys, cellD, wideIR, if_true, if_false, implies_true, forall_const, ne_eq, reduceIte, reduceCtorEq, Nat.reduceEqDiff, Nat.reduceAdd, Nat.reduceMul, Nat.reduceLT, Nat.reduceSub, Nat.reduceLeDiff, Nat.reduceBNe, Nat.reduceBEq, Nat.reduceBeqDiff, List.range, List.range.loop, gl0, Tryz.ntmps92, Tryz.results92]
  refine ⟨fun h => ?_, fun h => ?_⟩
  · have h := of_decide_eq_true h
    refine ⟨by decide, by decide, ⟨i + 1, by omega⟩, ?_, by simp only; omega⟩
    simp [Wk, wkSl, wkD, wkBs, wkTs, look, D.under, iterI, rstep, IntWalk.i64_in ((i : Int) + 1) (by omega)]
  · have h := of_decide_eq_false h
    obtain rfl : i = n.toNat := by omega
    rfl
theorem c_Shift : Contract E 101 := by
  refine contract_seeT hE hgl (show E.P.funcs[101]? = some Tryz.f101 from Tryz.func101) rfl (p := sp_Shift) (fun _ _ _ => rfl) ?_
  intro args hv
  unfold sp_Shift at hv ⊢
  split at hv
  case h_2 => exact hv.elim
  rename_i x n
  refine ⟨by simp, Nat.le_of_ble_eq_true rfl, ?_⟩
  simp (config := {dsimp := false}) only [↓vp0, vz, vn, nq, tys, cellD, wideIR, if_true, if_false, implies_true, forall_const, ne_eq, reduceIte, reduceCtorEq, Nat.reduceEqDiff, Nat.reduceAdd, Nat.reduceMul, Nat.reduceLT, Nat.reduceSub, Nat.reduceLeDiff, Nat.reduceBNe, Nat.reduceBEq, Nat.reduceBeqDiff, List.range, List.range.loop, gl0, Tryz.ntmps101, Tryz.results101]
  simp only [givesIf] at hv
  refine loopI (Fin (n.toNat + 1)) (fun i => [(5, .int .i64 (i.1 : Int)), (0, .int .u32 (iterI hstep i.1 x)), (1, .int .i64 n)]) (fun _ => ⟨[], [], 8⟩) (fun i => n.toNat - i.1) 0 (fun _ => rfl) ?_ ?_
  · simp [Wk, wkSl, wkD, wkBs, wkTs, look, D.under, iterI]
  rintro ⟨i, hi⟩
  simp (config := {dsimp := false}) only [↓vp0, vz, vn, nq, tys, cellD, wideIR, if_true, if_false, implies_true, forall_const, ne_eq, reduceIte, reduceCtorEq, Nat.reduceEqDiff, Nat.reduceAdd, Nat.reduceMul, Nat.reduceLT, Nat.reduceSub, Nat.reduceLeDiff, Nat.reduceBNe, Nat.reduceBEq, Nat.reduceBeqDiff, List.range, List.range.loop, gl0, Tryz.ntmps101, Tryz.results101]
  refine ⟨fun h => ?_, fun h => ?_⟩
  · have h := of_decide_eq_true h
    refine ⟨by decide, ⟨i + 1, by omega⟩, ?_, by simp only; omega⟩
    simp [Wk, wkSl, wkD, wkBs, wkTs, look, D.under, iterI, hstep, IntWalk.i64_in ((i : Int) + 1) (by omega)]
  · have h := of_decide_eq_false h
    obtain rfl : i = n.toNat := by omega
    rfl
theorem c_refNumber : Contract E 90 := by
  refine contract_seeT hE hgl (show E.P.funcs[90]? = some Tryz.f90 from Tryz.func90) rfl (p := sp_refNumber) (fun _ _ _ => rfl) ?_
  intro args hv
  unfold sp_refNumber at hv ⊢
  split at hv
  case h_2 => exact hv.elim
  rename_i b ws i
  refine ⟨by simp, Nat.le_of_ble_eq_true rfl, ?_⟩
  simp (config := {dsimp := false}) only [↓vp0, vz, vn, nq, tys, cellD, wideIR, if_true, if_false, implies_true, forall_const, ne_eq, reduceIte, reduceCtorEq, Nat.reduceEqDiff, Nat.reduceAdd, Nat.reduceMul, Nat.reduceLT, Nat.reduceSub, Nat.reduceLeDiff, Nat.reduceBNe, Nat.reduceBEq, Nat.reduceBeqDiff, List.range, List.range.loop, gl0, Tryz.ntmps90, Tryz.results90]
  simp only [givesIf] at hv ⊢
  refine ⟨fun h => ?_, fun h => ?_⟩
  · have h := of_decide_eq_true h
    refine loopI (Fin 5) (fun j => [(7, .int .u32 (wordN b i.toNat j.1)), (8, .int .i64 (j.1 : Int)), (0, .sli .no .u8 b), (2, .int .i64 i)]) (fun _ => ⟨[], [], 20⟩) (fun j => 4 - j.1) 0 (fun _ => rfl) ?_ ?_
    · simp [Wk, wkSl, wkD, wkBs, wkTs, look, D.under, underO, wordN]
    rintro ⟨j, hj⟩
    simp (config := {dsimp := false}) only [↓vp0, vz, vn, nq, tys, cellD, wideIR, if_true, if_false, implies_true, forall_const, ne_eq, reduceIte, reduceCtorEq, Nat.reduceEqDiff, Nat.reduceAdd, Nat.reduceMul, Nat.reduceLT, Nat.reduceSub, Nat.reduceLeDiff, Nat.reduceBNe, Nat.reduceBEq, Nat.reduceBeqDiff, List.range, List.range.loop, gl0, Tryz.ntmps90, Tryz.results90]
    have hb := hv.2.2.1
    refine ⟨fun hj4 => ?_, fun hj4 => ?_⟩
    · have hj4 := of_decide_eq_true hj4
      have e : IntKind.wrap .i64 (IntKind.wrap .i64 (4 * i) + (j : Int)) = 4 * i + j := by rw [IntWalk.i64_in (4 * i) (by omega), IntWalk.i64_in _ (by omega)]
      have e2 : (4 * i + (j : Int)).toNat = 4 * i.toNat + j := by omega
      rw [e, e2]
      refine ⟨by omega, by omega, ⟨j + 1, by omega⟩, ?_, by simp only; omega⟩
      simp [Wk, wkSl, wkD, wkBs, wkTs, look, D.under, underO, wordN, a32, IntWalk.i64_in ((j : Int) + 1) (by omega)]
    · have hj4 := of_decide_eq_false hj4
      obtain rfl : j = 4 := by omega
      have : i.toNat < 16 := by omega
      simp [numI, this]
  · have h := of_decide_eq_false h
    have hw := hv.2.2.2 (by omega)
    have e15 : IntKind.wrap .i64 (i - 15) = i - 15 := IntWalk.i64_in _ (by omega)
    have e2 : IntKind.wrap .i64 (i - 2) = i - 2 := IntWalk.i64_in _ (by omega)
    have e16 : IntKind.wrap .i64 (i - 16) = i - 16 := IntWalk.i64_in _ (by omega)
    have e7 : IntKind.wrap .i64 (i - 7) = i - 7 := IntWalk.i64_in _ (by omega)
    rw [e15, e2]
    refine ⟨by omega, by omega, by omega, by omega, ?_⟩
    refine drawI [1, 2, 9, 10] (by kernel_rfl) ?_
    simp (config := {dsimp := false}) only [↓vp0, vz, vn, nq, tys, cellD, wideIR, if_true, if_false, implies_true, forall_const, ne_eq, reduceIte, reduceCtorEq, Nat.reduceEqDiff, Nat.reduceAdd, Nat.reduceMul, Nat.reduceLT, Nat.reduceSub, Nat.reduceLeDiff, Nat.reduceBNe, Nat.reduceBEq, Nat.reduceBeqDiff, List.range, List.range.loop, gl0, Tryz.ntmps90, Tryz.results90, PF.toR, gives, givesIf, e16, e7, spec_three, sp_three, c_three, b_three, spec_Right, sp_Right, c_Right, b_Right, spec_Shift, sp_Shift, c_Shift, b_Shift]
    have n15 : (i - 15).toNat = i.toNat - 15 := by omega
    have n2 : (i - 2).toNat = i.toNat - 2 := by omega
    have n16 : (i - 16).toNat = i.toNat - 16 := by omega
    have n7 : (i - 7).toNat = i.toNat - 7 := by omega
    have nn : ¬ i.toNat < 16 := by omega
    refine ⟨by omega, by omega, by decide, by decide, by decide, by decide, by decide, by decide, by omega, by omega, by decide, by decide, by decide, by decide, by decide, by decide, ?_⟩
    rw [n15, n2, n16, n7]
    unfold numI
    rw [if_neg nn]
    rfl
theorem c_refFirst : Contract E 66 := by
  refine contract_seeT hE hgl (show E.P.funcs[66]? = some Tryz.f66 from Tryz.func66) rfl (p := sp_refFirst) (fun _ _ _ => rfl) ?_
  intro args hv
  unfold sp_refFirst at hv ⊢
  split at hv
  case h_2 => exact hv.elim
  refine ⟨by simp, Nat.le_of_ble_eq_true rfl, ?_⟩
  simp (config := {dsimp := false}) only [↓vp0, vz, vn, nq, tys, cellD, wideIR, if_true, if_false, implies_true, forall_const, ne_eq, reduceIte, reduceCtorEq, Nat.reduceEqDiff, Nat.reduceAdd, Nat.reduceMul, Nat.reduceLT, Nat.reduceSub, Nat.reduceLeDiff, Nat.reduceBNe, Nat.reduceBEq, Nat.reduceBeqDiff, List.range, List.range.loop, gl0, Tryz.ntmps66, Tryz.results66]
  rfl
theorem c_refRoundNumbers : Contract E 65 := by
  refine contract_seeT hE hgl (show E.P.funcs[65]? = some Tryz.f65 from Tryz.func65) rfl (p := sp_refRoundNumbers) (fun _ _ _ => rfl) ?_
  intro args hv
  unfold sp_refRoundNumbers at hv ⊢
  split at hv
  case h_2 => exact hv.elim
  refine ⟨by simp, Nat.le_of_ble_eq_true rfl, ?_⟩
  simp (config := {dsimp := false}) only [↓vp0, vz, vn, nq, tys, cellD, wideIR, if_true, if_false, implies_true, forall_const, ne_eq, reduceIte, reduceCtorEq, Nat.reduceEqDiff, Nat.reduceAdd, Nat.reduceMul, Nat.reduceLT, Nat.reduceSub, Nat.reduceLeDiff, Nat.reduceBNe, Nat.reduceBEq, Nat.reduceBeqDiff, List.range, List.range.loop, gl0, Tryz.ntmps65, Tryz.results65]
  rfl
end Go.Vi.CZ
end

section
set_option linter.unusedVariables false
set_option linter.unusedSimpArgs false
set_option maxHeartbeats 0
set_option maxRecDepth 20000
namespace Go.Vi.CZ
open Go.Proofs

theorem chStep_len (st : List Int) (w k : Int) (h : st.length = 8) : (chStep st w k).length = 8 := by
  simp [chStep, h]
theorem chRun_len (st b ks : List Int) (h : st.length = 8) : ∀ i, (chRun st b ks i).1.length = i ∧ (chRun st b ks i).2.length = 8
  | 0 => ⟨rfl, h⟩
  | i + 1 => by
    obtain ⟨h1, h2⟩ := chRun_len st b ks h i
    exact ⟨by simp [chRun, h1], chStep_len _ _ _ h2⟩
theorem c_refChange : Contract E 67 := by
  refine contract_seeT hE hgl (show E.P.funcs[67]? = some Tryz.f67 from Tryz.func67) rfl (p := sp_refChange) (fun _ _ _ => rfl) ?_
  intro args hv
  unfold sp_refChange at hv ⊢
  split at hv
  case h_2 => exact hv.elim
  rename_i st b ks
  refine ⟨by simp, Nat.le_of_ble_eq_true rfl, ?_⟩
  simp (config := {dsimp := false}) only [↓vp0, vz, vn, nq, tys, cellD, wideIR, if_true, if_false, implies_true, forall_const, ne_eq, reduceIte, reduceCtorEq, Nat.reduceEqDiff, Nat.reduceAdd, Nat.reduceMul, Nat.reduceLT, Nat.reduceSub, Nat.reduceLeDiff, Nat.reduceBNe, Nat.reduceBEq, Nat.reduceBeqDiff, List.range, List.range.loop, gl0, Tryz.ntmps67, Tryz.results67]
  simp only [givesIf] at hv
  refine loopA [(7, some .u32, 0)] ?_
  simp only [adopt, look, reduceIte, Nat.reduceEqDiff, if_false, setL, Nat.reduceAdd]
  refine ⟨Fin 65, fun i => [(0, .sli .no .u32 st), (1, .sli .no .u8 b), (2, .sli .no .u32 ks), (7, .sli (.tok 20) .u32 (chRun st b ks i.1).1), (8, .sli .no .u32 (chRun st b ks i.1).2), (9, .int .i64 (i.1 : Int))], fun i => ⟨[], [(20, (i.1, 1))], 24⟩, fun i => 64 - i.1, 0, fun _ => rfl, ?_, ?_⟩
  · simp [Wk, wkSl, wkD, wkBs, wkTs, look, D.under, underO, S.tok, chRun]
  rintro ⟨i, hi⟩
  simp (config := {dsimp := false}) only [↓vp0, vz, vn, nq, tys, cellD, wideIR, if_true, if_false, implies_true, forall_const, ne_eq, reduceIte, reduceCtorEq, Nat.reduceEqDiff, Nat.reduceAdd, Nat.reduceMul, Nat.reduceLT, Nat.reduceSub, Nat.reduceLeDiff, Nat.reduceBNe, Nat.reduceBEq, Nat.reduceBeqDiff, List.range, List.range.loop, gl0, Tryz.ntmps67, Tryz.results67, PF.toR, givesIf, spec_refNumber, sp_refNumber, c_refNumber, b_refNumber]
  refine ⟨fun h => ?_, fun h => ?_⟩
  · have h := of_decide_eq_true h
    have hi64 : i < 64 := by omega
    obtain ⟨hl1, hl2⟩ := chRun_len st b ks hv.1 i
    refine ⟨by omega, by omega, by omega, by omega, by rw [hl1], by omega, by decide, by omega, ?_⟩
    refine drawI [0, 1, 2, 7, 8, 9, 10, 11] (by kernel_rfl) ?_
    simp (config := {dsimp := false}) only [↓vp0, vz, vn, nq, tys, cellD, wideIR, if_true, if_false, implies_true, forall_const, ne_eq, reduceIte, reduceCtorEq, Nat.reduceEqDiff, Nat.reduceAdd, Nat.reduceMul, Nat.reduceLT, Nat.reduceSub, Nat.reduceLeDiff, Nat.reduceBNe, Nat.reduceBEq, Nat.reduceBeqDiff, List.range, List.range.loop, gl0, Tryz.ntmps67, Tryz.results67, PF.toR, gives, givesIf, spec_three, sp_three, c_three, b_three, spec_Right, sp_Right, c_Right, b_Right]
    refine ⟨by omega, by omega, by omega, by omega, by omega, by omega, by omega, by omega, by omega, by omega, by omega, by omega, by omega, by omega, ?_⟩
    refine drawI [0, 1, 2, 7, 8, 9, 12] (by kernel_rfl) ?_
    simp (config := {dsimp := false}) only [↓vp0, vz, vn, nq, tys, cellD, wideIR, if_true, if_false, implies_true, forall_const, ne_eq, reduceIte, reduceCtorEq, Nat.reduceEqDiff, Nat.reduceAdd, Nat.reduceMul, Nat.reduceLT, Nat.reduceSub, Nat.reduceLeDiff, Nat.reduceBNe, Nat.reduceBEq, Nat.reduceBeqDiff, List.range, List.range.loop, gl0, Tryz.ntmps67, Tryz.results67, PF.toR, gives, givesIf, spec_three, sp_three, c_three, b_three, spec_Right, sp_Right, c_Right, b_Right]
    refine ⟨by omega, by omega, by omega, by omega, by omega, by omega, by omega, by omega, by omega, by omega, by omega, by omega, by omega, by omega, by omega, by omega, by omega, by omega, by omega, by omega, by omega, by omega, by omega, by omega, ?_⟩
    refine drawI [0, 1, 2, 7, 8, 9, 12, 13] (by kernel_rfl) ?_
    simp (config := {dsimp := false}) only [↓vp0, vz, vn, nq, tys, cellD, wideIR, if_true, if_false, implies_true, forall_const, ne_eq, reduceIte, reduceCtorEq, Nat.reduceEqDiff, Nat.reduceAdd, Nat.reduceMul, Nat.reduceLT, Nat.reduceSub, Nat.reduceLeDiff, Nat.reduceBNe, Nat.reduceBEq, Nat.reduceBeqDiff, List.range, List.range.loop, gl0, Tryz.ntmps67, Tryz.results67]
    refine ⟨by omega, by omega, by omega, by omega, by omega, by omega, by omega, by omega, by omega, by omega, by omega, by omega, by simp; omega, by kernel_rfl, ?_⟩
    refine ⟨⟨i + 1, by omega⟩, ⟨⟨wkD_eq rfl, rfl, wkD_eq rfl, rfl, wkD_eq rfl, rfl, wkD_eq rfl, rfl, .inr ⟨_, rfl⟩, rfl, wkD_eq ?_, rfl, trivial⟩, trivial, ⟨?_, Nat.le_of_ble_eq_true rfl, trivial⟩⟩, by simp only; omega⟩
    · exact congrArg (fun x => some (D.int .i64 x)) (IntWalk.i64_in ((i : Int) + 1) (by omega))
    · exact congrArg (fun x => some (x, 1)) (by simp [hl1])
  · have h := of_decide_eq_false h
    obtain rfl : i = 64 := by omega
    refine loopA [(14, some .u32, 0)] ?_
    simp only [adopt, look, reduceIte, Nat.reduceEqDiff, if_false, setL, Nat.reduceAdd]
    refine ⟨Fin 9, fun i => [(14, .sli (.tok 40) .u32 ((changeI st b ks).take i.1)), (0, .sli .no .u32 st), (8, .sli .no .u32 (chRun st b ks 64).2), (15, .int .i64 (i.1 : Int))], fun i => ⟨[], [(40, (i.1, 1))], 44⟩, fun i => 8 - i.1, 0, fun _ => rfl, ?_, ?_⟩
    · exact ⟨⟨wkD_eq rfl, rfl, wkD_eq rfl, rfl, wkD_eq rfl, rfl, wkD_eq rfl, rfl, trivial⟩, trivial, ⟨rfl, Nat.le_of_ble_eq_true rfl, trivial⟩⟩
    rintro ⟨i, hi⟩
    simp (config := {dsimp := false}) only [↓vp0, vz, vn, nq, tys, cellD, wideIR, if_true, if_false, implies_true, forall_const, ne_eq, reduceIte, reduceCtorEq, Nat.reduceEqDiff, Nat.reduceAdd, Nat.reduceMul, Nat.reduceLT, Nat.reduceSub, Nat.reduceLeDiff, Nat.reduceBNe, Nat.reduceBEq, Nat.reduceBeqDiff, List.range, List.range.loop, gl0, Tryz.ntmps67, Tryz.results67]
    have hl2 := (chRun_len st b ks hv.1 64).2
    have hcl : (changeI st b ks).length = 8 := by simp [changeI]
    refine ⟨fun h => ?_, fun h => ?_⟩
    · have h := of_decide_eq_true h
      refine drawI [0, 8, 14, 15] (by kernel_rfl) ?_
      simp (config := {dsimp := false}) only [↓vp0, vz, vn, nq, tys, cellD, wideIR, if_true, if_false, implies_true, forall_const, ne_eq, reduceIte, reduceCtorEq, Nat.reduceEqDiff, Nat.reduceAdd, Nat.reduceMul, Nat.reduceLT, Nat.reduceSub, Nat.reduceLeDiff, Nat.reduceBNe, Nat.reduceBEq, Nat.reduceBeqDiff, List.range, List.range.loop, gl0, Tryz.ntmps67, Tryz.results67]
      have hlt : ((changeI st b ks).take i).length = i := by simp; omega
      refine ⟨by omega, by omega, by omega, by omega, by rw [hlt], by omega, by kernel_rfl, ⟨i + 1, by omega⟩, ⟨⟨wkD_eq ?_, rfl, wkD_eq rfl, rfl, wkD_eq rfl, rfl, wkD_eq ?_, rfl, trivial⟩, trivial, ⟨?_, Nat.le_of_ble_eq_true rfl, trivial⟩⟩, by simp only; omega⟩
      · refine congrArg (fun x => some (D.sli (.tok 40) .u32 x)) ?_
        have : i < (changeI st b ks).length := by omega
        rw [List.take_add_one, List.getElem?_eq_getElem this]
        simp [changeI, a32]
      · exact congrArg (fun x => some (D.int .i64 x)) (IntWalk.i64_in ((i : Int) + 1) (by omega))
      · exact congrArg (fun x => some (x, 1)) (by rw [hlt])
    · have h := of_decide_eq_false h
      obtain rfl : i = 8 := by omega
      rw [List.take_of_length_le (by omega)]
      rfl
end Go.Vi.CZ
end

section
set_option linter.unusedVariables false
set_option linter.unusedSimpArgs false
set_option maxHeartbeats 0
set_option maxRecDepth 20000
namespace Go.Vi.CZ
open Go.Proofs

theorem changeI_len (s b k : List Int) : (changeI s b k).length = 8 := by simp [changeI]
theorem refBlocks_len (k all : List Int) (s : List Int) (h : s.length = 8) : ∀ i, (refBlocks k all i s).length = 8
  | 0 => h
  | i + 1 => changeI_len _ _ _
theorem refPadded_len (b : List Int) (h : b.length < 1000000000) : ∃ m, (refPadded b).length = 64 * m ∧ m < 16000000 := by
  have := refSize_len b.length 8
  refine ⟨(refPadded b).length / 64, ?_, ?_⟩ <;> simp [refPadded, this] <;> unfold pad <;> omega
theorem outBytes_len (s : List Int) : (outBytes s).length = 32 := by simp [outBytes]
theorem c_refSum : Contract E 49 := by
  refine contract_seeT hE hgl (show E.P.funcs[49]? = some Tryz.f49 from Tryz.func49) rfl (p := sp_refSum) (fun _ _ _ => rfl) ?_
  intro args hv
  unfold sp_refSum at hv ⊢
  split at hv
  case h_2 => exact hv.elim
  rename_i b
  refine ⟨by simp, Nat.le_of_ble_eq_true rfl, ?_⟩
  simp (config := {dsimp := false}) only [↓vp0, vz, vn, nq, tys, cellD, wideIR, if_true, if_false, implies_true, forall_const, ne_eq, reduceIte, reduceCtorEq, Nat.reduceEqDiff, Nat.reduceAdd, Nat.reduceMul, Nat.reduceLT, Nat.reduceSub, Nat.reduceLeDiff, Nat.reduceBNe, Nat.reduceBEq, Nat.reduceBeqDiff, List.range, List.range.loop, gl0, Tryz.ntmps49, Tryz.results49, PF.toR, gives, givesIf, spec_refClosing, sp_refClosing, c_refClosing, b_refClosing, spec_refRoundNumbers, sp_refRoundNumbers, c_refRoundNumbers, b_refRoundNumbers, spec_refFirst, sp_refFirst, c_refFirst, b_refFirst]
  simp only [givesIf] at hv ⊢
  obtain ⟨m, hm, hm2⟩ := refPadded_len b hv
  have hpl : b.length + (refPadded b).length < 3000000000 := by omega
  have hpd : b ++ 128 :: (List.replicate (pad b.length) 0 ++ (refSize b.length 8).1) = refPadded b := by simp [refPadded]
  have hlen : b.length + ((List.replicate (pad ↑b.length) (0 : Int) ++ (refSize (↑b.length) 8).fst).length + 1) = (refPadded b).length := by rw [← hpd]; simp
  refine ⟨by omega, by omega, by omega, by simp, by rw [hlen]; omega, ?_⟩
  rw [hpd, hlen]
  refine loopI (Fin (m + 1)) (fun i => [(6, .int .i64 (64 * (i.1 : Int))), (3, .sli (.tok 16) .u8 (refPadded b)), (4, .sli .full .u32 kList), (5, .sli .no .u32 (refBlocks kList (refPadded b) i.1 h0)), (2, .bp 0 0)]) (fun _ => ⟨[(0, .arr .u8 32 (List.replicate 32 0))], [(16, ((refPadded b).length, 1))], 68⟩) (fun i => m - i.1) 0 (fun _ => rfl) ?_ ?_
  · exact ⟨⟨wkD_eq rfl, rfl, wkD_eq rfl, rfl, wkD_eq rfl, rfl, .inr ⟨_, rfl⟩, rfl, wkD_eq rfl, rfl, trivial⟩, ⟨rfl, Nat.le_of_ble_eq_true rfl, rfl, trivial⟩, ⟨rfl, Nat.le_of_ble_eq_true rfl, trivial⟩⟩
  rintro ⟨i, hi⟩
  simp (config := {dsimp := false}) only [↓vp0, vz, vn, nq, tys, cellD, wideIR, if_true, if_false, implies_true, forall_const, ne_eq, reduceIte, reduceCtorEq, Nat.reduceEqDiff, Nat.reduceAdd, Nat.reduceMul, Nat.reduceLT, Nat.reduceSub, Nat.reduceLeDiff, Nat.reduceBNe, Nat.reduceBEq, Nat.reduceBeqDiff, List.range, List.range.loop, gl0, Tryz.ntmps49, Tryz.results49, PF.toR, gives, givesIf, spec_refChange, sp_refChange, c_refChange, b_refChange]
  have hbl := refBlocks_len kList (refPadded b) h0 rfl i
  refine ⟨fun h => ?_, fun h => ?_⟩
  · have h := of_decide_eq_true h
    have e1 : IntKind.wrap .i64 (64 * (i : Int) + 64) = 64 * i + 64 := IntWalk.i64_in _ (by omega)
    have e2 : (64 * (i : Int) + 64).toNat = 64 * i + 64 := by omega
    have e3 : (64 * (i : Int)).toNat = 64 * i := by omega
    rw [e1, e2, e3]
    have hd : 64 ≤ (List.drop (64 * i) (List.take (64 * i + 64) (refPadded b))).length := by simp; omega
    refine ⟨by omega, by omega, by omega, Int.le_refl _, hbl, hd, rfl, ⟨i + 1, by omega⟩, ⟨⟨wkD_eq ?_, rfl, wkD_eq rfl, rfl, wkD_eq rfl, rfl, wkD_eq rfl, rfl, wkD_eq rfl, rfl, trivial⟩, ⟨rfl, Nat.le_of_ble_eq_true rfl, rfl, trivial⟩, ⟨rfl, Nat.le_of_ble_eq_true rfl, trivial⟩⟩, by (try simp only); omega⟩
    exact some_int (by simp only; omega)
  · have h := of_decide_eq_false h
    obtain rfl : i = m := by omega
    generalize hst : refBlocks kList (refPadded b) i h0 = st at hbl ⊢
    refine loopI (Fin 33) (fun j => [(8, .int .i64 (j.1 : Int)), (7, .bp 84 0), (5, .sli .no .u32 st), (2, .bp 0 0)]) (fun j => ⟨[(0, .arr .u8 32 (List.replicate 32 0)), (84, .arr .u8 32 ((outBytes st).take j.1 ++ List.replicate (32 - j.1) 0))], [], 92⟩) (fun j => 32 - j.1) 0 (fun _ => rfl) ?_ ?_
    · exact ⟨⟨wkD_eq rfl, rfl, wkD_eq rfl, rfl, wkD_eq rfl, rfl, wkD_eq rfl, rfl, trivial⟩, ⟨rfl, Nat.le_of_ble_eq_true rfl, rfl, rfl, Nat.le_of_ble_eq_true rfl, rfl, trivial⟩, trivial⟩
    rintro ⟨j, hj⟩
    simp (config := {dsimp := false}) only [↓vp0, vz, vn, nq, tys, cellD, wideIR, if_true, if_false, implies_true, forall_const, ne_eq, reduceIte, reduceCtorEq, Nat.reduceEqDiff, Nat.reduceAdd, Nat.reduceMul, Nat.reduceLT, Nat.reduceSub, Nat.reduceLeDiff, Nat.reduceBNe, Nat.reduceBEq, Nat.reduceBeqDiff, List.range, List.range.loop, gl0, Tryz.ntmps49, Tryz.results49]
    refine ⟨fun h => ?_, fun h => ?_⟩
    · have h := of_decide_eq_true h
      have e4 : IntKind.wrap .i64 ((j : Int).tdiv 4) = j / 4 := by rw [Int.tdiv_eq_ediv_of_nonneg (by omega), IntWalk.i64_in _ (by omega)]
      have e5 : (j : Int).tmod 4 = ((j % 4 : Nat) : Int) := by rw [Int.tmod_eq_emod_of_nonneg (by omega)]; omega
      have e6 : ((j : Int) / 4).toNat = j / 4 := by omega
      rw [e4, e5, e6]
      refine ⟨by decide, by omega, by omega, by decide, ?_⟩
      refine loopI (Fin (4 - j % 4)) (fun k => [(10, .int .i64 (j % 4 + (k.1 : Int))), (9, .int .u32 (iterI (fun x => IntKind.wrap .u32 (x.tdiv 256)) k.1 (st.getD (j / 4) 0))), (8, .int .i64 (j : Int)), (7, .bp 84 0), (5, .sli .no .u32 st), (2, .bp 0 0)]) (fun _ => ⟨[(0, .arr .u8 32 (List.replicate 32 0)), (84, .arr .u8 32 ((outBytes st).take j ++ List.replicate (32 - j) 0))], [], 136⟩) (fun k => 4 - k.1) ⟨0, by omega⟩ (fun _ => rfl) ?_ ?_
      · refine ⟨⟨wkD_eq ?_, rfl, wkD_eq rfl, rfl, wkD_eq rfl, rfl, wkD_eq rfl, rfl, wkD_eq rfl, rfl, wkD_eq rfl, rfl, trivial⟩, ⟨rfl, Nat.le_of_ble_eq_true rfl, rfl, rfl, Nat.le_of_ble_eq_true rfl, rfl, trivial⟩, trivial⟩
        exact some_int (by simp)
      rintro ⟨k, hk⟩
      simp (config := {dsimp := false}) only [↓vp0, vz, vn, nq, tys, cellD, wideIR, if_true, if_false, implies_true, forall_const, ne_eq, reduceIte, reduceCtorEq, Nat.reduceEqDiff, Nat.reduceAdd, Nat.reduceMul, Nat.reduceLT, Nat.reduceSub, Nat.reduceLeDiff, Nat.reduceBNe, Nat.reduceBEq, Nat.reduceBeqDiff, List.range, List.range.loop, gl0, Tryz.ntmps49, Tryz.results49]
      refine ⟨fun h => ?_, fun h => ?_⟩
      · have h := of_decide_eq_true h
        refine ⟨by decide, ⟨k + 1, by omega⟩, ⟨⟨wkD_eq ?_, rfl, wkD_eq rfl, rfl, wkD_eq rfl, rfl, wkD_eq rfl, rfl, wkD_eq rfl, rfl, wkD_eq rfl, rfl, trivial⟩, ⟨rfl, Nat.le_of_ble_eq_true rfl, rfl, rfl, Nat.le_of_ble_eq_true rfl, rfl, trivial⟩, trivial⟩, by (try simp only); omega⟩
        exact some_i64 (by (try simp only); omega)
      · have h := of_decide_eq_false h
        obtain rfl : k = 3 - j % 4 := by omega
        refine ⟨by decide, by omega, by omega, ⟨j + 1, by omega⟩, ⟨⟨wkD_eq ?_, rfl, wkD_eq rfl, rfl, wkD_eq rfl, rfl, wkD_eq rfl, rfl, trivial⟩, ⟨rfl, Nat.le_of_ble_eq_true rfl, rfl, ?_, Nat.le_of_ble_eq_true rfl, rfl, trivial⟩, trivial⟩, by (try simp only); omega⟩
        · exact some_i64 (by (try simp only); omega)
        · refine some_arr ?_
          have hol := outBytes_len st
          have hj' : j < 32 := by omega
          have ht : ((outBytes st).take j).length = j := by simp; omega
          rw [show ((j : Int)).toNat = j from rfl, List.set_append_right _ _ (by omega), ht, Nat.sub_self, show 32 - j = (32 - (j + 1)) + 1 by omega, List.replicate_succ, List.set_cons_zero, List.take_add_one, List.getElem?_eq_getElem (by omega)]
          simp [outBytes]
    · have h := of_decide_eq_false h
      obtain rfl : j = 32 := by omega
      have hol := outBytes_len st
      rw [List.take_of_length_le (by omega)]
      subst hst
      have : (refPadded b).length / 64 = i := by omega
      simp [refSumI, this]
theorem c_refTwice : Contract E 34 := by
  refine contract_seeT hE hgl (show E.P.funcs[34]? = some Tryz.f34 from Tryz.func34) rfl (p := sp_refTwice) (fun _ _ _ => rfl) ?_
  intro args hv
  unfold sp_refTwice at hv ⊢
  split at hv
  case h_2 => exact hv.elim
  rename_i b
  refine ⟨by simp, Nat.le_of_ble_eq_true rfl, ?_⟩
  simp only [givesIf] at hv
  simp (config := {dsimp := false}) only [↓vp0, vz, vn, nq, tys, cellD, wideIR, if_true, if_false, implies_true, forall_const, ne_eq, reduceIte, reduceCtorEq, Nat.reduceEqDiff, Nat.reduceAdd, Nat.reduceMul, Nat.reduceLT, Nat.reduceSub, Nat.reduceLeDiff, Nat.reduceBNe, Nat.reduceBEq, Nat.reduceBeqDiff, List.range, List.range.loop, gl0, Tryz.ntmps34, Tryz.results34, PF.toR, gives, givesIf, spec_refSum, sp_refSum, c_refSum, b_refSum]
  refine ⟨hv, ?_⟩
  have hl : (refSumI b).length = 32 := outBytes_len _
  refine loopA [(4, some .u8, 0)] ?_
  simp only [adopt, look, reduceIte, Nat.reduceEqDiff, if_false, setL, Nat.reduceAdd]
  refine ⟨Fin 33, fun i => [(4, .sli (.tok 28) .u8 ((refSumI b).take i.1)), (5, .int .i64 (i.1 : Int)), (3, .bp 12 0), (2, .bp 0 0)], fun i => ⟨[(0, .arr .u8 32 (List.replicate 32 0)), (12, .arr .u8 32 (refSumI b))], [(28, (i.1, 1))], 32⟩, fun i => 32 - i.1, 0, fun _ => rfl, ⟨⟨wkD_eq rfl, rfl, wkD_eq rfl, rfl, wkD_eq rfl, rfl, wkD_eq rfl, rfl, trivial⟩, ⟨rfl, Nat.le_of_ble_eq_true rfl, rfl, rfl, Nat.le_of_ble_eq_true rfl, rfl, trivial⟩, ⟨rfl, Nat.le_of_ble_eq_true rfl, trivial⟩⟩, ?_⟩
  rintro ⟨i, hi⟩
  simp (config := {dsimp := false}) only [↓vp0, vz, vn, nq, tys, cellD, wideIR, if_true, if_false, implies_true, forall_const, ne_eq, reduceIte, reduceCtorEq, Nat.reduceEqDiff, Nat.reduceAdd, Nat.reduceMul, Nat.reduceLT, Nat.reduceSub, Nat.reduceLeDiff, Nat.reduceBNe, Nat.reduceBEq, Nat.reduceBeqDiff, List.range, List.range.loop, gl0, Tryz.ntmps34, Tryz.results34, PF.toR, gives, givesIf, spec_refSum, sp_refSum, c_refSum, b_refSum]
  have hti : ((refSumI b).take i).length = i := by simp; omega
  refine ⟨fun hh => ?_, fun hh => ?_⟩
  · have hh := of_decide_eq_true hh
    rw [hti]
    refine ⟨by omega, by omega, rfl, by omega, ⟨i + 1, by omega⟩, ⟨⟨wkD_eq ?_, rfl, wkD_eq ?_, rfl, wkD_eq rfl, rfl, wkD_eq rfl, rfl, trivial⟩, ⟨rfl, Nat.le_of_ble_eq_true rfl, rfl, rfl, Nat.le_of_ble_eq_true rfl, rfl, trivial⟩, ⟨?_, Nat.le_of_ble_eq_true rfl, trivial⟩⟩, by (try simp only); omega⟩
    · refine some_sli ?_
      rw [List.take_add_one, List.getElem?_eq_getElem (by omega)]
      simp [List.getD, List.getElem?_eq_getElem (show i < (refSumI b).length by omega)]
    · exact some_i64 (by (try simp only); omega)
    · rfl
  · have hh := of_decide_eq_false hh
    obtain rfl : i = 32 := by omega
    rw [List.take_of_length_le (by omega)]
    first | exact ⟨by omega, rfl⟩ | (rw [outBytes_len]; omega) | trace_state
end Go.Vi.CZ
end

section
set_option linter.unusedVariables false
set_option linter.unusedSimpArgs false
set_option maxHeartbeats 0
set_option maxRecDepth 20000
namespace Go.Vi.CZ
open Go.Proofs

theorem c_tbare : Contract E 37 := by
  refine contract_seeT hE hgl (show E.P.funcs[37]? = some Tryz.f37 from Tryz.func37) rfl (p := sp_tbare) (fun _ _ _ => rfl) ?_
  intro args hv
  unfold sp_tbare at hv ⊢
  split at hv
  case h_2 => exact hv.elim
  rename_i b v is os l
  refine ⟨by simp, Nat.le_of_ble_eq_true rfl, ?_⟩
  simp only [givesIf] at hv
  obtain ⟨hok, hb⟩ := hv
  obtain ⟨t, rfl, rfl, rfl, rfl, ht, -⟩ := okT_tx hok
  have eta : (⟨t.ver, t.ins, t.outs, t.lock⟩ : TxP) = t := rfl
  have hc : okT t.ver (insD t.ins) (outsD t.outs) t.lock := hok
  by_cases h : checkP t = 0
  · have hlen := lay_len ht h false
    have hd : decide (checkP t = 0) = true := decide_eq_true h
    simp (config := {dsimp := false}) only [↓vp0, vz, vn, nq, tys, cellD, wideIR, if_true, if_false, implies_true, forall_const, ne_eq, reduceIte, reduceCtorEq, Nat.reduceEqDiff, Nat.reduceAdd, Nat.reduceMul, Nat.reduceLT, Nat.reduceSub, Nat.reduceLeDiff, Nat.reduceBNe, Nat.reduceBEq, Nat.reduceBeqDiff, List.range, List.range.loop, gl0, Tryz.ntmps37, Tryz.results37, vb, PF.toR, givesIf, eta, hd, put_0 h, spec_tcheck, sp_tcheck, c_tcheck, b_tcheck, spec_laid, sp_laid, c_laid, b_laid]
    exact ⟨hc, hc, by simp only [List.length_append]; omega⟩
  · have hd : decide (checkP t = 0) = false := decide_eq_false h
    simp (config := {dsimp := false}) only [↓vp0, vz, vn, nq, tys, cellD, wideIR, if_true, if_false, implies_true, forall_const, ne_eq, reduceIte, reduceCtorEq, Nat.reduceEqDiff, Nat.reduceAdd, Nat.reduceMul, Nat.reduceLT, Nat.reduceSub, Nat.reduceLeDiff, Nat.reduceBNe, Nat.reduceBEq, Nat.reduceBeqDiff, List.range, List.range.loop, gl0, Tryz.ntmps37, Tryz.results37, PF.toR, givesIf, eta, hd, put_e h, spec_tcheck, sp_tcheck, c_tcheck, b_tcheck]
    exact hc
theorem c_tid : Contract E 18 := by
  refine contract_seeT hE hgl (show E.P.funcs[18]? = some Tryz.f18 from Tryz.func18) rfl (p := sp_tid) (fun _ _ _ => rfl) ?_
  intro args hv
  unfold sp_tid at hv ⊢
  split at hv
  case h_2 => exact hv.elim
  rename_i v is os l
  refine ⟨by simp, Nat.le_of_ble_eq_true rfl, ?_⟩
  simp only [givesIf] at hv
  have hok := hv
  obtain ⟨t, rfl, rfl, rfl, rfl, ht, -⟩ := okT_tx hok
  have eta : (⟨t.ver, t.ins, t.outs, t.lock⟩ : TxP) = t := rfl
  by_cases h : checkP t = 0
  · have hlen := lay_len ht h false
    have hf : idP t = sumP (sumP (layI t false)) := if_pos h
    simp (config := {dsimp := false}) only [↓vp0, vz, vn, nq, tys, cellD, wideIR, if_true, if_false, implies_true, forall_const, ne_eq, reduceIte, reduceCtorEq, Nat.reduceEqDiff, Nat.reduceAdd, Nat.reduceMul, Nat.reduceLT, Nat.reduceSub, Nat.reduceLeDiff, Nat.reduceBNe, Nat.reduceBEq, Nat.reduceBeqDiff, List.range, List.range.loop, gl0, Tryz.ntmps18, Tryz.results18, PF.toR, givesIf, eta, put_0 h, hf, eq_self, spec_tbare, sp_tbare, c_tbare, b_tbare, spec_tname, sp_tname, c_tname, b_tname]
    exact ⟨hok, by omega⟩
  · have hf : idP t = List.replicate 32 0 := if_neg h
    simp (config := {dsimp := false}) only [↓vp0, vz, vn, nq, tys, cellD, wideIR, if_true, if_false, implies_true, forall_const, ne_eq, reduceIte, reduceCtorEq, Nat.reduceEqDiff, Nat.reduceAdd, Nat.reduceMul, Nat.reduceLT, Nat.reduceSub, Nat.reduceLeDiff, Nat.reduceBNe, Nat.reduceBEq, Nat.reduceBeqDiff, List.range, List.range.loop, gl0, Tryz.ntmps18, Tryz.results18, PF.toR, givesIf, eta, put_e h, hf, h, spec_tbare, sp_tbare, c_tbare, b_tbare, spec_tname, sp_tname, c_tname, b_tname]
    exact hok
theorem c_rbare : Contract E 47 := by
  refine contract_seeT hE hgl (show E.P.funcs[47]? = some Tryz.f47 from Tryz.func47) rfl (p := sp_rbare) (fun _ _ _ => rfl) ?_
  intro args hv
  unfold sp_rbare at hv ⊢
  split at hv
  case h_2 => exact hv.elim
  rename_i v is os l
  refine ⟨by simp, Nat.le_of_ble_eq_true rfl, ?_⟩
  simp only [givesIf] at hv
  have hok := hv
  obtain ⟨t, rfl, rfl, rfl, rfl, ht, -⟩ := okT_tx hok
  have eta : (⟨t.ver, t.ins, t.outs, t.lock⟩ : TxP) = t := rfl
  by_cases h : checkP t = 0
  · have hlen := lay_len ht h false
    have hd : decide (checkP t = 0) = true := decide_eq_true h
    simp (config := {dsimp := false}) only [↓vp0, vz, vn, nq, tys, cellD, wideIR, if_true, if_false, implies_true, forall_const, ne_eq, reduceIte, reduceCtorEq, Nat.reduceEqDiff, Nat.reduceAdd, Nat.reduceMul, Nat.reduceLT, Nat.reduceSub, Nat.reduceLeDiff, Nat.reduceBNe, Nat.reduceBEq, Nat.reduceBeqDiff, List.range, List.range.loop, gl0, Tryz.ntmps47, Tryz.results47, PF.toR, givesIf, eta, hd, put_0 h, spec_rcheck, sp_tcheck, c_rcheck, b_rcheck, spec_rlay, sp_rlay, c_rlay, b_rlay]
    exact ⟨hok, hok, by omega⟩
  · have hd : decide (checkP t = 0) = false := decide_eq_false h
    simp (config := {dsimp := false}) only [↓vp0, vz, vn, nq, tys, cellD, wideIR, if_true, if_false, implies_true, forall_const, ne_eq, reduceIte, reduceCtorEq, Nat.reduceEqDiff, Nat.reduceAdd, Nat.reduceMul, Nat.reduceLT, Nat.reduceSub, Nat.reduceLeDiff, Nat.reduceBNe, Nat.reduceBEq, Nat.reduceBeqDiff, List.range, List.range.loop, gl0, Tryz.ntmps47, Tryz.results47, PF.toR, givesIf, eta, hd, put_e h, spec_rcheck, sp_tcheck, c_rcheck, b_rcheck]
    exact hok
theorem c_rid : Contract E 32 := by
  refine contract_seeT hE hgl (show E.P.funcs[32]? = some Tryz.f32 from Tryz.func32) rfl (p := sp_tid) (fun _ _ _ => rfl) ?_
  intro args hv
  unfold sp_tid at hv ⊢
  split at hv
  case h_2 => exact hv.elim
  rename_i v is os l
  refine ⟨by simp, Nat.le_of_ble_eq_true rfl, ?_⟩
  simp only [givesIf] at hv
  have hok := hv
  obtain ⟨t, rfl, rfl, rfl, rfl, ht, -⟩ := okT_tx hok
  have eta : (⟨t.ver, t.ins, t.outs, t.lock⟩ : TxP) = t := rfl
  by_cases h : checkP t = 0
  · have hlen := lay_len ht h false
    have hby := lay_bytes ht false
    have hf : idP t = sumP (sumP (layI t false)) := if_pos h
    simp (config := {dsimp := false}) only [↓vp0, vz, vn, nq, tys, cellD, wideIR, if_true, if_false, implies_true, forall_const, ne_eq, reduceIte, reduceCtorEq, Nat.reduceEqDiff, Nat.reduceAdd, Nat.reduceMul, Nat.reduceLT, Nat.reduceSub, Nat.reduceLeDiff, Nat.reduceBNe, Nat.reduceBEq, Nat.reduceBeqDiff, List.range, List.range.loop, gl0, Tryz.ntmps32, Tryz.results32, PF.toR, givesIf, eta, put_0 h, hf, eq_self, decide_true, List.nil_append, spec_rbare, sp_rbare, c_rbare, b_rbare, spec_refTwice, sp_refTwice, c_refTwice, b_refTwice]
    exact ⟨hok, by omega, by rw [twice_eq _ hby (by omega)]⟩
  · have hf : idP t = List.replicate 32 0 := if_neg h
    simp (config := {dsimp := false}) only [↓vp0, vz, vn, nq, tys, cellD, wideIR, if_true, if_false, implies_true, forall_const, ne_eq, reduceIte, reduceCtorEq, Nat.reduceEqDiff, Nat.reduceAdd, Nat.reduceMul, Nat.reduceLT, Nat.reduceSub, Nat.reduceLeDiff, Nat.reduceBNe, Nat.reduceBEq, Nat.reduceBeqDiff, List.range, List.range.loop, gl0, Tryz.ntmps32, Tryz.results32, PF.toR, givesIf, eta, put_e h, hf, h, decide_false, spec_rbare, sp_rbare, c_rbare, b_rbare, spec_refTwice, sp_refTwice, c_refTwice, b_refTwice]
    exact hok
end Go.Vi.CZ
end

section
set_option linter.unusedVariables false
set_option linter.unusedSimpArgs false
set_option maxHeartbeats 0
set_option maxRecDepth 20000
namespace Go.Vi.CZ
open Go.Proofs

theorem c_fulls1 : Contract E 84 := by
  refine contract_seeT hE hgl (show E.P.funcs[84]? = some Tryz.f84 from Tryz.func84) rfl (p := sp_fulls1) (fun _ _ _ => rfl) ?_
  intro args hv
  unfold sp_fulls1 at hv ⊢
  split at hv
  case h_2 => exact hv.elim
  rename_i i v is os l
  refine ⟨by simp, Nat.le_of_ble_eq_true rfl, ?_⟩
  simp only [givesIf] at hv
  have hok := hv
  obtain ⟨t, rfl, rfl, rfl, rfl, ht, -⟩ := okT_tx hok
  by_cases h : i = 0
  · subst h
    simp (config := {dsimp := false}) only [↓vp0, vz, vn, nq, tys, cellD, wideIR, if_true, if_false, implies_true, forall_const, ne_eq, reduceIte, reduceCtorEq, Nat.reduceEqDiff, Nat.reduceAdd, Nat.reduceMul, Nat.reduceLT, Nat.reduceSub, Nat.reduceLeDiff, Nat.reduceBNe, Nat.reduceBEq, Nat.reduceBeqDiff, List.range, List.range.loop, gl0, Tryz.ntmps84, Tryz.results84, PF.toR, givesIf, eq_self, decide_true, spec_tfull, sp_tfull, c_tfull, b_tfull]
    all_goals rfl
  · simp (config := {dsimp := false}) only [↓vp0, vz, vn, nq, tys, cellD, wideIR, if_true, if_false, implies_true, forall_const, ne_eq, reduceIte, reduceCtorEq, Nat.reduceEqDiff, Nat.reduceAdd, Nat.reduceMul, Nat.reduceLT, Nat.reduceSub, Nat.reduceLeDiff, Nat.reduceBNe, Nat.reduceBEq, Nat.reduceBeqDiff, List.range, List.range.loop, gl0, Tryz.ntmps84, Tryz.results84, PF.toR, givesIf, h, decide_false, spec_tfull, sp_tfull, c_tfull, b_tfull]
    exact hok
theorem c_ids1 : Contract E 42 := by
  refine contract_seeT hE hgl (show E.P.funcs[42]? = some Tryz.f42 from Tryz.func42) rfl (p := sp_ids1) (fun _ _ _ => rfl) ?_
  intro args hv
  unfold sp_ids1 at hv ⊢
  split at hv
  case h_2 => exact hv.elim
  rename_i i v is os l
  refine ⟨by simp, Nat.le_of_ble_eq_true rfl, ?_⟩
  simp only [givesIf] at hv
  have hok := hv
  obtain ⟨t, rfl, rfl, rfl, rfl, ht, -⟩ := okT_tx hok
  simp (config := {dsimp := false}) only [↓vp0, vz, vn, nq, tys, cellD, wideIR, if_true, if_false, implies_true, forall_const, ne_eq, reduceIte, reduceCtorEq, Nat.reduceEqDiff, Nat.reduceAdd, Nat.reduceMul, Nat.reduceLT, Nat.reduceSub, Nat.reduceLeDiff, Nat.reduceBNe, Nat.reduceBEq, Nat.reduceBeqDiff, List.range, List.range.loop, gl0, Tryz.ntmps42, Tryz.results42, PF.toR, givesIf, spec_tid, sp_tid, c_tid, b_tid]
  exact hok
theorem hashes_get (f : Bool) (l : List TxP) (k : Nat) (h : k < l.length) : (hashesP f l).take (k + 1) = (hashesP f l).take k ++ [if f = true then (if k = 0 then List.replicate 32 0 else fullP (l.getD k default)) else idP (l.getD k default)] := by
  rw [List.take_add_one]
  simp [hashesP, h]
theorem c_names : Contract E 41 := by
  refine contract_seeT hE hgl (show E.P.funcs[41]? = some Tryz.f41 from Tryz.func41) rfl (p := (sp_names 84 42)) (fun _ _ _ => rfl) ?_
  intro args hv
  unfold sp_names at hv ⊢
  split at hv
  case h_2 => exact hv.elim
  rename_i h0' hp hr h1 h2 h3 es h
  refine ⟨by simp, Nat.le_of_ble_eq_true rfl, ?_⟩
  simp only [givesIf] at hv
  obtain ⟨hh, hff, hhd, ⟨l, rfl, hok, hl⟩, hlen⟩ := hv
  simp only [txsD_length] at hlen
  have hx : ∀ (a : L2) (x : List Int), arrs a ++ [D.arr .u8 32 x] = arrs (a ++ [x]) := fun a x => arrs_append a [x]
  have htl : ∀ f, (hashesP f l).take l.length = hashesP f l := fun f => List.take_of_length_le (by rw [hashes_len]; exact Nat.le_refl _)
  rcases hh with rfl | ⟨rfl, h0⟩
  · skip
    simp (config := {dsimp := false}) only [↓vp0, vz, vn, nq, tys, cellD, wideIR, if_true, if_false, implies_true, forall_const, ne_eq, reduceIte, reduceCtorEq, Nat.reduceEqDiff, Nat.reduceAdd, Nat.reduceMul, Nat.reduceLT, Nat.reduceSub, Nat.reduceLeDiff, Nat.reduceBNe, Nat.reduceBEq, Nat.reduceBeqDiff, List.range, List.range.loop, gl0, Tryz.ntmps41, Tryz.results41]
    refine loopA [(4, none, 32)] ?_
    simp only [adopt, look, if_true, if_false, reduceIte, Nat.reduceEqDiff, setL, List.length_nil]
    refine ⟨Fin (l.length + 1), fun k => [(10, .int .i64 (k.1 : Nat)), (9, .int .i64 (l.length : Nat)), (8, .sl .no 4 (txsD l)), (4, .sl (.tok 24) 32 (arrs ((hashesP true l).take k.1))), (2, .bp 0 0), (1, .fn 84 [])], fun k => ⟨[(0, .agg [.agg [.int .u32 h0', .arr .u8 32 hp, .arr .u8 32 hr, .int .u32 h1, .int .u32 h2, .int .u32 h3], .sl .no 4 (txsD l)])], [(24, (k.1, 32))], 28⟩, fun k => l.length - k.1, 0, fun _ => rfl, ?_, ?_⟩
    · exact ⟨⟨wkD_eq rfl, rfl, wkD_eq rfl, rfl, wkD_eq rfl, rfl, wkD_eq rfl, rfl, wkD_eq rfl, rfl, wkD_eq rfl, rfl, trivial⟩, ⟨rfl, Nat.le_of_ble_eq_true rfl, rfl, trivial⟩, ⟨rfl, Nat.le_of_ble_eq_true rfl, trivial⟩⟩
    rintro ⟨k, hk⟩
    have hal : (arrs ((hashesP true l).take k)).length = k := by rw [arrs_length, List.length_take, hashes_len]; omega
    simp (config := {dsimp := false}) only [↓vp0, vz, vn, nq, tys, cellD, wideIR, if_true, if_false, implies_true, forall_const, ne_eq, reduceIte, reduceCtorEq, Nat.reduceEqDiff, Nat.reduceAdd, Nat.reduceMul, Nat.reduceLT, Nat.reduceSub, Nat.reduceLeDiff, Nat.reduceBNe, Nat.reduceBEq, Nat.reduceBeqDiff, List.range, List.range.loop, gl0, Tryz.ntmps41, Tryz.results41]
    refine ⟨fun hh => ?_, fun hh => ?_⟩
    · have hh := of_decide_eq_true hh
      have hk' : k < l.length := by omega
      have g1 := txsD_get l k hk'
      have ht := hok _ (getD_memI hk')
      have hg := hashes_get true l k hk'
      simp (config := {dsimp := false}) only [↓vp0, vz, vn, nq, tys, cellD, wideIR, if_true, if_false, implies_true, forall_const, ne_eq, reduceIte, reduceCtorEq, Nat.reduceEqDiff, Nat.reduceAdd, Nat.reduceMul, Nat.reduceLT, Nat.reduceSub, Nat.reduceLeDiff, Nat.reduceBNe, Nat.reduceBEq, Nat.reduceBeqDiff, List.range, List.range.loop, gl0, Tryz.ntmps41, Tryz.results41, PF.toR, givesIf, Int.toNat_natCast, g1, txD, hal, spec_fulls1, sp_fulls1, c_fulls1, b_fulls1]
      refine ⟨by omega, by omega, tx_okT ht, by omega, .inr trivial, .inr trivial, ⟨k + 1, by omega⟩, ⟨⟨wkD_eq ?_, rfl, wkD_eq rfl, rfl, wkD_eq rfl, rfl, wkD_eq ?_, rfl, wkD_eq rfl, rfl, wkD_eq rfl, rfl, trivial⟩, ⟨rfl, Nat.le_of_ble_eq_true rfl, rfl, trivial⟩, ⟨rfl, Nat.le_of_ble_eq_true rfl, trivial⟩⟩, by (try simp only); omega⟩
      · exact some_i64 (by (try simp only); omega)
      · rw [hg, bare_arr, hx]
        rw [if_pos rfl]
        by_cases hz : k = 0
        · subst hz; rfl
        · rw [if_neg hz, if_neg (by omega)]; rfl
    · have hh := of_decide_eq_false hh
      obtain rfl : k = l.length := by omega
      simp (config := {dsimp := false}) only [↓vp0, vz, vn, nq, tys, cellD, wideIR, if_true, if_false, implies_true, forall_const, ne_eq, reduceIte, reduceCtorEq, Nat.reduceEqDiff, Nat.reduceAdd, Nat.reduceMul, Nat.reduceLT, Nat.reduceSub, Nat.reduceLeDiff, Nat.reduceBNe, Nat.reduceBEq, Nat.reduceBeqDiff, List.range, List.range.loop, gl0, Tryz.ntmps41, Tryz.results41, givesIf, htl, strips_arrs, ts_slis, eq_self, decide_true]
      all_goals rfl
  · skip
    simp (config := {dsimp := false}) only [↓vp0, vz, vn, nq, tys, cellD, wideIR, if_true, if_false, implies_true, forall_const, ne_eq, reduceIte, reduceCtorEq, Nat.reduceEqDiff, Nat.reduceAdd, Nat.reduceMul, Nat.reduceLT, Nat.reduceSub, Nat.reduceLeDiff, Nat.reduceBNe, Nat.reduceBEq, Nat.reduceBeqDiff, List.range, List.range.loop, gl0, Tryz.ntmps41, Tryz.results41]
    refine loopA [(4, none, 32)] ?_
    simp only [adopt, look, if_true, if_false, reduceIte, Nat.reduceEqDiff, setL, List.length_nil]
    refine ⟨Fin (l.length + 1), fun k => [(10, .int .i64 (k.1 : Nat)), (9, .int .i64 (l.length : Nat)), (8, .sl .no 4 (txsD l)), (4, .sl (.tok 24) 32 (arrs ((hashesP false l).take k.1))), (2, .bp 0 0), (1, .fn 42 [])], fun k => ⟨[(0, .agg [.agg [.int .u32 h0', .arr .u8 32 hp, .arr .u8 32 hr, .int .u32 h1, .int .u32 h2, .int .u32 h3], .sl .no 4 (txsD l)])], [(24, (k.1, 32))], 28⟩, fun k => l.length - k.1, 0, fun _ => rfl, ?_, ?_⟩
    · exact ⟨⟨wkD_eq rfl, rfl, wkD_eq rfl, rfl, wkD_eq rfl, rfl, wkD_eq rfl, rfl, wkD_eq rfl, rfl, wkD_eq rfl, rfl, trivial⟩, ⟨rfl, Nat.le_of_ble_eq_true rfl, rfl, trivial⟩, ⟨rfl, Nat.le_of_ble_eq_true rfl, trivial⟩⟩
    rintro ⟨k, hk⟩
    have hal : (arrs ((hashesP false l).take k)).length = k := by rw [arrs_length, List.length_take, hashes_len]; omega
    simp (config := {dsimp := false}) only [↓vp0, vz, vn, nq, tys, cellD, wideIR, if_true, if_false, implies_true, forall_const, ne_eq, reduceIte, reduceCtorEq, Nat.reduceEqDiff, Nat.reduceAdd, Nat.reduceMul, Nat.reduceLT, Nat.reduceSub, Nat.reduceLeDiff, Nat.reduceBNe, Nat.reduceBEq, Nat.reduceBeqDiff, List.range, List.range.loop, gl0, Tryz.ntmps41, Tryz.results41]
    refine ⟨fun hh => ?_, fun hh => ?_⟩
    · have hh := of_decide_eq_true hh
      have hk' : k < l.length := by omega
      have g1 := txsD_get l k hk'
      have ht := hok _ (getD_memI hk')
      have hg := hashes_get false l k hk'
      simp (config := {dsimp := false}) only [↓vp0, vz, vn, nq, tys, cellD, wideIR, if_true, if_false, implies_true, forall_const, ne_eq, reduceIte, reduceCtorEq, Nat.reduceEqDiff, Nat.reduceAdd, Nat.reduceMul, Nat.reduceLT, Nat.reduceSub, Nat.reduceLeDiff, Nat.reduceBNe, Nat.reduceBEq, Nat.reduceBeqDiff, List.range, List.range.loop, gl0, Tryz.ntmps41, Tryz.results41, PF.toR, givesIf, Int.toNat_natCast, g1, txD, hal, spec_ids1, sp_ids1, c_ids1, b_ids1]
      refine ⟨by omega, by omega, tx_okT ht, by omega, .inr trivial, .inr trivial, ⟨k + 1, by omega⟩, ⟨⟨wkD_eq ?_, rfl, wkD_eq rfl, rfl, wkD_eq rfl, rfl, wkD_eq ?_, rfl, wkD_eq rfl, rfl, wkD_eq rfl, rfl, trivial⟩, ⟨rfl, Nat.le_of_ble_eq_true rfl, rfl, trivial⟩, ⟨rfl, Nat.le_of_ble_eq_true rfl, trivial⟩⟩, by (try simp only); omega⟩
      · exact some_i64 (by (try simp only); omega)
      · rw [hg, bare_arr, hx]
        all_goals rfl
    · have hh := of_decide_eq_false hh
      obtain rfl : k = l.length := by omega
      simp (config := {dsimp := false}) only [↓vp0, vz, vn, nq, tys, cellD, wideIR, if_true, if_false, implies_true, forall_const, ne_eq, reduceIte, reduceCtorEq, Nat.reduceEqDiff, Nat.reduceAdd, Nat.reduceMul, Nat.reduceLT, Nat.reduceSub, Nat.reduceLeDiff, Nat.reduceBNe, Nat.reduceBEq, Nat.reduceBeqDiff, List.range, List.range.loop, gl0, Tryz.ntmps41, Tryz.results41, givesIf, htl, strips_arrs, ts_slis, eq_self, decide_true]
      all_goals rfl
theorem c_fulls : Contract E 60 := by
  refine contract_seeT hE hgl (show E.P.funcs[60]? = some Tryz.f60 from Tryz.func60) rfl (p := sp_fulls) (fun _ _ _ => rfl) ?_
  intro args hv
  unfold sp_fulls at hv ⊢
  split at hv
  case h_2 => exact hv.elim
  rename_i h0 hp hr h1 h2 h3 es
  refine ⟨by simp, Nat.le_of_ble_eq_true rfl, ?_⟩
  simp only [givesIf] at hv
  obtain ⟨hhd, ⟨l, rfl, hok, hl⟩, hlen⟩ := hv
  simp (config := {dsimp := false}) only [↓vp0, vz, vn, nq, tys, cellD, wideIR, if_true, if_false, implies_true, forall_const, ne_eq, reduceIte, reduceCtorEq, Nat.reduceEqDiff, Nat.reduceAdd, Nat.reduceMul, Nat.reduceLT, Nat.reduceSub, Nat.reduceLeDiff, Nat.reduceBNe, Nat.reduceBEq, Nat.reduceBeqDiff, List.range, List.range.loop, gl0, Tryz.ntmps60, Tryz.results60, PF.toR, givesIf, strips_arrs, eq_self, decide_true, spec_names, sp_names, c_names, b_names]
  exact ⟨.inl trivial, hhd, ⟨l, rfl, hok, hl⟩, by simp only [txsD_length] at hlen ⊢; omega⟩
theorem c_ids : Contract E 28 := by
  refine contract_seeT hE hgl (show E.P.funcs[28]? = some Tryz.f28 from Tryz.func28) rfl (p := sp_ids) (fun _ _ _ => rfl) ?_
  intro args hv
  unfold sp_ids at hv ⊢
  split at hv
  case h_2 => exact hv.elim
  rename_i h0 hp hr h1 h2 h3 es
  refine ⟨by simp, Nat.le_of_ble_eq_true rfl, ?_⟩
  simp only [givesIf] at hv
  obtain ⟨hhd, ⟨l, rfl, hok, hl⟩, hlen⟩ := hv
  simp (config := {dsimp := false}) only [↓vp0, vz, vn, nq, tys, cellD, wideIR, if_true, if_false, implies_true, forall_const, ne_eq, reduceIte, reduceCtorEq, Nat.reduceEqDiff, Nat.reduceAdd, Nat.reduceMul, Nat.reduceLT, Nat.reduceSub, Nat.reduceLeDiff, Nat.reduceBNe, Nat.reduceBEq, Nat.reduceBeqDiff, List.range, List.range.loop, gl0, Tryz.ntmps28, Tryz.results28, PF.toR, givesIf, strips_arrs, decide_false, spec_names, sp_names, c_names, b_names]
  exact ⟨.inr trivial, hhd, ⟨l, rfl, hok, hl⟩, by simp only [txsD_length] at hlen ⊢; omega⟩
end Go.Vi.CZ
end

section
set_option linter.unusedVariables false
set_option linter.unusedSimpArgs false
set_option maxHeartbeats 0
set_option maxRecDepth 20000
namespace Go.Vi.CZ
open Go.Proofs

theorem wrapI64 {n : Int} (h1 : -9223372036854775808 ≤ n) (h2 : n ≤ 9223372036854775807) : IntKind.wrap .i64 n = n := by rw [IntKind.wrap_i64]; omega
theorem tx_eta (t : TxP) : (⟨t.ver, ins (insD t.ins), outs (outsD t.outs), t.lock⟩ : TxP) = t := by rw [ins_D, outs_D]
theorem c_cbase : Contract E 9 := by
  refine contract_seeT hE hgl (show E.P.funcs[9]? = some Tryz.f9 from Tryz.func9) rfl (p := sp_cbase) (fun _ _ _ => rfl) ?_
  intro args hv
  unfold sp_cbase at hv ⊢
  split at hv
  case h_2 => exact hv.elim
  rename_i v is os l
  refine ⟨by simp, Nat.le_of_ble_eq_true rfl, ?_⟩
  simp only [givesIf] at hv
  obtain ⟨t, rfl, rfl, rfl, rfl, ht⟩ := hv
  rw [tx_eta]
  by_cases h1 : t.ins.length = 1
  case neg =>
    have d1 : decide (((t.ins.length : Nat) : Int) = 1) = false := decide_eq_false (by omega)
    simp (config := {dsimp := false}) only [↓vp0, vz, vn, nq, tys, cellD, wideIR, if_true, if_false, implies_true, forall_const, ne_eq, reduceIte, reduceCtorEq, Nat.reduceEqDiff, Nat.reduceAdd, Nat.reduceMul, Nat.reduceLT, Nat.reduceSub, Nat.reduceLeDiff, Nat.reduceBNe, Nat.reduceBEq, Nat.reduceBeqDiff, List.range, List.range.loop, gl0, Tryz.ntmps9, Tryz.results9, d1, base_not1 h1, givesIf]
    all_goals rfl
  obtain ⟨tv, ti, to, tl⟩ := t
  obtain ⟨x, rfl⟩ : ∃ x, ti = [x] := by
    match ti, h1 with
    | [x], _ => exact ⟨x, rfl⟩
  have hx := ht.ins x (List.mem_cons_self ..)
  have he : eqFs E (eqB E 7) 0 [(0, 24), (32, 22)] [D.arr IntKind.u8 32 x.prev, D.int IntKind.u32 x.ix] [D.arr IntKind.u8 32 (List.replicate 32 0), D.int IntKind.u32 4294967295] = some (decide (x.prev = List.replicate 32 0) && decide (x.ix = 4294967295)) := by
    simp [eqFs, eqB, D.size, tsize, known, E, tyC]
  simp (config := {dsimp := false}) only [↓vp0, vz, vn, nq, tys, cellD, wideIR, if_true, if_false, implies_true, forall_const, ne_eq, reduceIte, reduceCtorEq, Nat.reduceEqDiff, Nat.reduceAdd, Nat.reduceMul, Nat.reduceLT, Nat.reduceSub, Nat.reduceLeDiff, Nat.reduceBNe, Nat.reduceBEq, Nat.reduceBeqDiff, List.range, List.range.loop, gl0, Tryz.ntmps9, Tryz.results9, show insD [x] = [inD x] from rfl, inD, show decide (((1 : Nat) : Int) = 1) = true from rfl, show Int.toNat 0 = 0 from rfl, List.getD_cons_zero, he, baseP, inBase, givesIf]
  exact ⟨Int.le_refl _, by decide⟩
theorem c_csum : Contract E 25 := by
  refine contract_seeT hE hgl (show E.P.funcs[25]? = some Tryz.f25 from Tryz.func25) rfl (p := sp_csum) (fun _ _ _ => rfl) ?_
  intro args hv
  unfold sp_csum at hv ⊢
  split at hv
  case h_2 => exact hv.elim
  rename_i v is os l
  refine ⟨by simp, Nat.le_of_ble_eq_true rfl, ?_⟩
  simp only [givesIf] at hv
  obtain ⟨t, rfl, rfl, rfl, rfl, ht⟩ := hv
  have hmo := ht.mo
  simp only [outs_D]
  simp (config := {dsimp := false}) only [↓vp0, vz, vn, nq, tys, cellD, wideIR, if_true, if_false, implies_true, forall_const, ne_eq, reduceIte, reduceCtorEq, Nat.reduceEqDiff, Nat.reduceAdd, Nat.reduceMul, Nat.reduceLT, Nat.reduceSub, Nat.reduceLeDiff, Nat.reduceBNe, Nat.reduceBEq, Nat.reduceBeqDiff, List.range, List.range.loop, gl0, Tryz.ntmps25, Tryz.results25]
  refine loopI {p : Nat × Int // p.1 ≤ t.outs.length ∧ sumG 0 (t.outs.take p.1) = some p.2 ∧ 0 ≤ p.2 ∧ p.2 ≤ 2100000000000000} (fun p => [(10, .int .i64 (p.1.1 : Nat)), (9, .int .i64 (t.outs.length : Nat)), (8, .sl .no 2 (outsD t.outs)), (4, .int .i64 p.1.2), (1, .bp 0 0)]) (fun _ => ⟨[(0, .agg [.int .u32 t.ver, .sl .no 36 (insD t.ins), .sl .no 2 (outsD t.outs), .int .u32 t.lock])], [], 32⟩) (fun p => t.outs.length - p.1.1) ⟨(0, 0), by simp [sumG]⟩ (fun _ => rfl) ?_ ?_
  · exact ⟨⟨wkD_eq rfl, rfl, wkD_eq rfl, rfl, wkD_eq rfl, rfl, wkD_eq rfl, rfl, wkD_eq rfl, rfl, trivial⟩, ⟨rfl, Nat.le_of_ble_eq_true rfl, rfl, trivial⟩, trivial⟩
  rintro ⟨⟨k, s⟩, hk, hs, hs0, hs1⟩
  simp only at hk hs hs0 hs1
  simp (config := {dsimp := false}) only [↓vp0, vz, vn, nq, tys, cellD, wideIR, if_true, if_false, implies_true, forall_const, ne_eq, reduceIte, reduceCtorEq, Nat.reduceEqDiff, Nat.reduceAdd, Nat.reduceMul, Nat.reduceLT, Nat.reduceSub, Nat.reduceLeDiff, Nat.reduceBNe, Nat.reduceBEq, Nat.reduceBeqDiff, List.range, List.range.loop, gl0, Tryz.ntmps25, Tryz.results25]
  refine ⟨fun hh => ?_, fun hh => ?_⟩
  case refine_2 =>
    have hh := of_decide_eq_false hh
    obtain rfl : k = t.outs.length := by omega
    rw [List.take_of_length_le (Nat.le_refl _)] at hs
    simp (config := {dsimp := false}) only [↓vp0, vz, vn, nq, tys, cellD, wideIR, if_true, if_false, implies_true, forall_const, ne_eq, reduceIte, reduceCtorEq, Nat.reduceEqDiff, Nat.reduceAdd, Nat.reduceMul, Nat.reduceLT, Nat.reduceSub, Nat.reduceLeDiff, Nat.reduceBNe, Nat.reduceBEq, Nat.reduceBeqDiff, List.range, List.range.loop, gl0, Tryz.ntmps25, Tryz.results25, hs, sumV, givesIf]
    all_goals rfl
  have hh := of_decide_eq_true hh
  have hk' : k < t.outs.length := by omega
  have g0 := outsD_get t.outs k hk'
  have hno := sumG_no hk' hs
  have hyes := sumG_step hk' hs
  have hv64 := (ht.outs _ (getD_memI hk')).value
  generalize t.outs.getD k default = x at *
  by_cases c1 : x.value < 0
  · have d1 : decide (x.value < 0) = true := decide_eq_true c1
    simp (config := {dsimp := false}) only [↓vp0, vz, vn, nq, tys, cellD, wideIR, if_true, if_false, implies_true, forall_const, ne_eq, reduceIte, reduceCtorEq, Nat.reduceEqDiff, Nat.reduceAdd, Nat.reduceMul, Nat.reduceLT, Nat.reduceSub, Nat.reduceLeDiff, Nat.reduceBNe, Nat.reduceBEq, Nat.reduceBeqDiff, List.range, List.range.loop, gl0, Tryz.ntmps25, Tryz.results25, Int.toNat_natCast, g0, outD, d1, hno (.inl c1), sumV, givesIf]
    exact ⟨by omega, by omega⟩
  have d1 : decide (x.value < 0) = false := decide_eq_false c1
  by_cases c2 : 2100000000000000 < x.value
  · have d2 : decide (2100000000000000 < x.value) = true := decide_eq_true c2
    simp (config := {dsimp := false}) only [↓vp0, vz, vn, nq, tys, cellD, wideIR, if_true, if_false, implies_true, forall_const, ne_eq, reduceIte, reduceCtorEq, Nat.reduceEqDiff, Nat.reduceAdd, Nat.reduceMul, Nat.reduceLT, Nat.reduceSub, Nat.reduceLeDiff, Nat.reduceBNe, Nat.reduceBEq, Nat.reduceBeqDiff, List.range, List.range.loop, gl0, Tryz.ntmps25, Tryz.results25, Int.toNat_natCast, g0, outD, d1, d2, hno (.inr (.inl c2)), sumV, givesIf]
    exact ⟨by omega, by omega⟩
  have d2 : decide (2100000000000000 < x.value) = false := decide_eq_false c2
  have hw : IntKind.wrap .i64 (s + x.value) = s + x.value := wrapI64 (by omega) (by omega)
  by_cases c3 : 2100000000000000 < s + x.value
  · have d3 : decide (2100000000000000 < s + x.value) = true := decide_eq_true c3
    simp (config := {dsimp := false}) only [↓vp0, vz, vn, nq, tys, cellD, wideIR, if_true, if_false, implies_true, forall_const, ne_eq, reduceIte, reduceCtorEq, Nat.reduceEqDiff, Nat.reduceAdd, Nat.reduceMul, Nat.reduceLT, Nat.reduceSub, Nat.reduceLeDiff, Nat.reduceBNe, Nat.reduceBEq, Nat.reduceBeqDiff, List.range, List.range.loop, gl0, Tryz.ntmps25, Tryz.results25, Int.toNat_natCast, g0, outD, d1, d2, hw, d3, hno (.inr (.inr c3)), sumV, givesIf]
    exact ⟨by omega, by omega⟩
  have d3 : decide (2100000000000000 < s + x.value) = false := decide_eq_false c3
  simp (config := {dsimp := false}) only [↓vp0, vz, vn, nq, tys, cellD, wideIR, if_true, if_false, implies_true, forall_const, ne_eq, reduceIte, reduceCtorEq, Nat.reduceEqDiff, Nat.reduceAdd, Nat.reduceMul, Nat.reduceLT, Nat.reduceSub, Nat.reduceLeDiff, Nat.reduceBNe, Nat.reduceBEq, Nat.reduceBeqDiff, List.range, List.range.loop, gl0, Tryz.ntmps25, Tryz.results25, Int.toNat_natCast, g0, outD, d1, d2, d3, hw]
  refine ⟨by omega, by omega, ⟨(k + 1, s + x.value), by simp only; omega, hyes ?_, by simp only; omega, by simp only; omega⟩, ⟨⟨wkD_eq ?_, rfl, wkD_eq rfl, rfl, wkD_eq rfl, rfl, wkD_eq rfl, rfl, wkD_eq rfl, rfl, trivial⟩, ⟨rfl, Nat.le_of_ble_eq_true rfl, rfl, trivial⟩, trivial⟩, by (try simp only); omega⟩
  · unfold badO; omega
  · exact some_i64 (by (try simp only); omega)
theorem c_cval : Contract E 24 := by
  refine contract_seeT hE hgl (show E.P.funcs[24]? = some Tryz.f24 from Tryz.func24) rfl (p := sp_cval) (fun _ _ _ => rfl) ?_
  intro args hv
  unfold sp_cval at hv ⊢
  split at hv
  case h_2 => exact hv.elim
  rename_i v is os l
  refine ⟨by simp, Nat.le_of_ble_eq_true rfl, ?_⟩
  simp only [givesIf] at hv
  obtain ⟨t, rfl, rfl, rfl, rfl, ht⟩ := hv
  rw [tx_eta]
  cases h : sumG 0 t.outs
  · have hb : badP t = true := by unfold badP; rw [h]; rfl
    simp (config := {dsimp := false}) only [↓vp0, vz, vn, nq, tys, cellD, wideIR, if_true, if_false, implies_true, forall_const, ne_eq, reduceIte, reduceCtorEq, Nat.reduceEqDiff, Nat.reduceAdd, Nat.reduceMul, Nat.reduceLT, Nat.reduceSub, Nat.reduceLeDiff, Nat.reduceBNe, Nat.reduceBEq, Nat.reduceBeqDiff, List.range, List.range.loop, gl0, Tryz.ntmps24, Tryz.results24, PF.toR, givesIf, outs_D, h, hb, sumV, spec_csum, sp_csum, c_csum, b_csum]
    exact anyT_tx ht
  · have hb : badP t = false := by unfold badP; rw [h]; rfl
    simp (config := {dsimp := false}) only [↓vp0, vz, vn, nq, tys, cellD, wideIR, if_true, if_false, implies_true, forall_const, ne_eq, reduceIte, reduceCtorEq, Nat.reduceEqDiff, Nat.reduceAdd, Nat.reduceMul, Nat.reduceLT, Nat.reduceSub, Nat.reduceLeDiff, Nat.reduceBNe, Nat.reduceBEq, Nat.reduceBeqDiff, List.range, List.range.loop, gl0, Tryz.ntmps24, Tryz.results24, PF.toR, givesIf, outs_D, h, hb, sumV, spec_csum, sp_csum, c_csum, b_csum]
    exact anyT_tx ht
end Go.Vi.CZ
end

section
/-
  A SET OF WHAT INPUTS NAME: how many there are, beside how many inputs.
-/
set_option linter.unusedVariables false
set_option linter.unusedSimpArgs false
namespace Go.Vi
open Go.Maps Go.WideShapes

/-- The map, behind the keys ks were counted. -/
def Counted (D : DataW Unit) (ks : List Lit) : Prop := Tidy D ∧ (∀ k, Maps.has D k = ks.any fun y => y.sameKey k) ∧ Maps.size D ≤ ks.length ∧ (Maps.size D = ks.length ↔ ks.Nodup)
theorem counted_nil : Counted (.map []) [] := ⟨tidy_empty, fun _ => rfl, Nat.le_refl _, by simp [Maps.size]⟩
theorem counted_step {D : DataW Unit} {ks : List Lit} {x : Lit} (d : DataW Unit) (hx : WideAt.IsKeyLit x) (h : Counted D ks) : Counted (D.put x d) (ks ++ [x]) := by
  obtain ⟨ht, hh, hl, hs⟩ := h
  have hsz := size_put (k := x) ht d
  have hin : Maps.has D x = true ↔ x ∈ ks := by
    rw [hh x, List.any_eq_true]
    constructor
    · rintro ⟨y, hy, he⟩
      rw [← WideAt.sameKey_eq he]; exact hy
    · intro hm
      exact ⟨x, hm, WideAt.sameKey_self hx⟩
  refine ⟨ht.put hx d, fun k => ?_, ?_, ?_⟩
  · by_cases e : k = x
    · subst e
      rw [has_put_same ht.isMap hx]
      simp [WideAt.sameKey_self hx]
    · rw [has_put_other e, hh k]
      simp [sameKey_ne (fun e' => e e'.symm)]
  · rw [hsz, List.length_append]
    simp only [List.length_cons, List.length_nil]
    split <;> omega
  · rw [hsz, List.length_append]
    simp only [List.length_cons, List.length_nil]
    cases hc : Maps.has D x
    · have hni : x ∉ ks := fun hm => by rw [hin.2 hm] at hc; cases hc
      simp only [Bool.false_eq_true, if_false]
      rw [List.nodup_append]
      constructor
      · intro h
        refine ⟨hs.1 (by omega), by simp, ?_⟩
        intro a ha b hb e
        obtain rfl := List.mem_singleton.1 hb
        exact hni (e ▸ ha)
      · intro h
        rw [hs.2 h.1]
    · have hm := hin.1 hc
      simp only [if_true]
      constructor
      · intro h; omega
      · intro h
        exfalso
        rw [List.nodup_append] at h
        exact h.2.2 x hm x (by simp) rfl
theorem nodup_map_iff {α β γ : Type} {f : α → β} {g : α → γ} {l : List α} (h : ∀ x ∈ l, ∀ y ∈ l, f x = f y ↔ g x = g y) : (l.map f).Nodup ↔ (l.map g).Nodup := by
  unfold List.Nodup
  rw [List.pairwise_map, List.pairwise_map]
  constructor
  · intro hp
    exact hp.imp_of_mem fun {a b} ha hb hne e => hne ((h a ha b hb).2 e)
  · intro hp
    exact hp.imp_of_mem fun {a b} ha hb hne e => hne ((h a ha b hb).1 e)
theorem mapM_some {α β : Type} (f : α → Option β) : ∀ l : List α, (∀ x ∈ l, ∃ y, f x = some y) → ∃ ys, l.mapM f = some ys
  | [], _ => ⟨[], rfl⟩
  | a :: r, h => by
    obtain ⟨y, hy⟩ := h a (by simp)
    obtain ⟨ys, hys⟩ := mapM_some f r fun x hx => h x (by simp [hx])
    exact ⟨y :: ys, by rw [List.mapM_cons, hy, hys]; rfl⟩
/-- What an input names, as a value. -/
def keyV (x : InP) : Value := .agg (Go.Vi.ints .u8 x.prev ++ [Value.int .u32 x.ix]).toArray
theorem ints_inj {k : IntKind} : ∀ {a b : List Int}, Go.Vi.ints k a = Go.Vi.ints k b → a = b
  | [], [], _ => rfl
  | [], y :: b, h => by simp [Go.Vi.ints] at h
  | x :: a, [], h => by simp [Go.Vi.ints] at h
  | x :: a, y :: b, h => by
    simp only [Go.Vi.ints, List.map_cons, List.cons.injEq, Value.int.injEq, true_and] at h
    rw [h.1, ints_inj (k := k) h.2]
theorem keyV_inj {x y : InP} (h : keyV x = keyV y) : keyI x = keyI y := by
  simp only [keyV, Value.agg.injEq] at h
  have h := congrArg Array.toList h
  simp only [List.toList_toArray] at h
  have h1 := List.append_inj_left' h rfl
  have h2 := List.append_inj_right' h rfl
  simp only [List.cons.injEq, Value.int.injEq, true_and, and_true] at h2
  unfold keyI
  rw [ints_inj h1, h2]
theorem keyI_V {x y : InP} (h : keyI x = keyI y) : keyV x = keyV y := by
  unfold keyI at h
  simp only [Prod.mk.injEq] at h
  unfold keyV
  rw [h.1, h.2]
theorem key_some {P : Program} {K A B U : TypeId} {fs : Array Field} (hK : P.underlying K = some (.struct fs)) (hA : P.underlying A = some (.array 32 B)) (hB : P.underlying B = some (.int .u8)) (hU : P.underlying U = some (.int .u32))
    (cK : P.cellsOf K = 33) (cA : P.cellsOf A = 32) (cB : P.cellsOf B = 1) (cU : P.cellsOf U = 1) (hfs : ∀ f ∈ fs.toList, (f.type = A ∧ f.offset = 0) ∨ (f.type = U ∧ f.offset = 32)) (hn : fs.all (·.name != "_") = true)
    (hkt : P.keyType K = true) (hsz : ∃ m, P.types.size = m + 2) {x : InP} (hp : x.prev.length = 32) (hb : bytes x.prev) (hi : u32ok x.ix) : ∃ kl, keyOf P K (keyV x) = some kl := by
  obtain ⟨m, hm⟩ := hsz
  have hlen : (Go.Vi.ints .u8 x.prev ++ [Value.int .u32 x.ix]).length = 33 := by simp [Go.Vi.ints, hp]
  have hform : (keyV x).formed P K = true := by simp [keyV, Value.formed, hK, cK, Go.Vi.ints, hp]
  have hl : ∃ ls, P.keyLits (P.types.size + 1) K (keyV x).cells.toList = some ls := by
    rw [hm]
    show ∃ ls, P.keyLits (m + 3) K (keyV x).cells.toList = some ls
    have hc : (keyV x).cells.toList = Go.Vi.ints .u8 x.prev ++ [Value.int .u32 x.ix] := by simp [keyV, Value.cells]
    rw [hc]
    obtain ⟨ys, hys⟩ := mapM_some (fun f : Field => P.keyLits (m + 2) f.type (((Go.Vi.ints .u8 x.prev ++ [Value.int .u32 x.ix]).drop f.offset).take (P.cellsOf f.type))) fs.toList (by
      intro f hf
      rcases hfs f hf with ⟨h1, h2⟩ | ⟨h1, h2⟩
      · rw [h1, h2, cA]
        have e1 : ((Go.Vi.ints .u8 x.prev ++ [Value.int .u32 x.ix]).drop 0).take 32 = Go.Vi.ints .u8 x.prev := by
          rw [List.drop_zero, List.take_append_of_le_length (by simp [Go.Vi.ints, hp]), List.take_of_length_le (by simp [Go.Vi.ints, hp])]
        rw [e1]
        obtain ⟨zs, hzs⟩ := mapM_some (fun i => P.keyLits (m + 1) B (((Go.Vi.ints .u8 x.prev).drop (i * P.cellsOf B)).take (P.cellsOf B))) (List.range 32) (by
          intro i hi
          have hi : i < 32 := by simpa using hi
          rw [cB, Nat.mul_one]
          have e2 : ((Go.Vi.ints .u8 x.prev).drop i).take 1 = [.int .u8 (x.prev.getD i 0)] := by
            have hil : i < (Go.Vi.ints .u8 x.prev).length := by simp [Go.Vi.ints, hp, hi]
            rw [List.drop_eq_getElem_cons hil]
            simp [Go.Vi.ints, List.getD, hp, hi]
          rw [e2]
          have hby := hb (x.prev.getD i 0) (getD_memI (by omega))
          refine ⟨[.int .u8 (x.prev.getD i 0)], ?_⟩
          simp only [Program.keyLits, hB]
          rw [if_pos ⟨trivial, by simp only [Lit.wf, Bool.and_eq_true, decide_eq_true_eq, show IntKind.u8.min = 0 from rfl, show IntKind.u8.max = 255 from rfl]; omega⟩])
        refine ⟨zs.flatten, ?_⟩
        rw [Program.keyLits.eq_def]
        simp only [hA]
        rw [if_pos (by rw [cA]; simp [Go.Vi.ints, hp])]
        show Option.map List.flatten ((List.range 32).mapM fun i => P.keyLits (m + 1) B (((Go.Vi.ints .u8 x.prev).drop (i * P.cellsOf B)).take (P.cellsOf B))) = _
        rw [hzs]; rfl
      · rw [h1, h2, cU]
        have e1 : ((Go.Vi.ints .u8 x.prev ++ [Value.int .u32 x.ix]).drop 32).take 1 = [Value.int .u32 x.ix] := by
          rw [List.drop_append_of_le_length (by simp [Go.Vi.ints, hp]), List.drop_of_length_le (by simp [Go.Vi.ints, hp])]
          rfl
        rw [e1]
        refine ⟨[.int .u32 x.ix], ?_⟩
        simp only [Program.keyLits, hU]
        unfold u32ok at hi
        rw [if_pos ⟨trivial, by simp only [Lit.wf, Bool.and_eq_true, decide_eq_true_eq, show IntKind.u32.min = 0 from rfl, show IntKind.u32.max = 4294967295 from rfl]; omega⟩])
    refine ⟨ys.flatten, ?_⟩
    rw [Program.keyLits.eq_def]
    simp only [hK]
    rw [if_pos ⟨by rw [cK]; exact hlen, hn⟩, hys]; rfl
  obtain ⟨ls, hls⟩ := hl
  refine ⟨.string (keyBytes ls), ?_⟩
  unfold keyOf
  simp only [hK, hkt, hform, Bool.and_self, if_true]
  rw [hls]; rfl
end Go.Vi
end

section
/-
  OPERATIONS ON A MAP THAT IS COUNTED IN, at the operation: a look-up, an entry, its store; loads and stores of wide values.
-/
set_option linter.unusedVariables false
set_option linter.unusedSimpArgs false
namespace Go.Vi
open Go.Maps Go.WideShapes Go.ChangeMaps Go.MapKept
open Go.WideElems (Fit rd rg pl rd_val elemAt entry_then_store)
open Go.WideMaps (KeyLaw)

theorem owp_eq {P : Program} {o : Oper} {a : Act} {w w' : World} {K : Act → World → Prop} {Q : Exit → Act → World → Prop} {v : Value} (hrun : (execOp a.eval o).run P w = .ok (.value v) w') (h : K (a.put o.dst v) w') : o.wp P a w K Q := by
  unfold Oper.wp
  rw [hrun]
  exact h
theorem owp_skip {P : Program} {o : Oper} {a : Act} {w w' : World} {K : Act → World → Prop} {Q : Exit → Act → World → Prop} (hrun : (execOp a.eval o).run P w = .ok .skip w') (h : K (a.put o.dst undef) w') : o.wp P a w K Q := by
  unfold Oper.wp
  rw [hrun]
  exact h
theorem any_step {P : Program} {md : Region.Mode} {ops : Array Oper} {Q : Exit → Act → World → Prop} {fuel : Nat} {listed : Array Bool} {a : Act} {w w' : World} {i : Nat} {rs : List Nat} {o : Oper} {v : Value} (ho : ops[i]? = some o) (hg : o.guard = none)
    (hrun : (execOp a.eval o).run P w = .ok (.value v) w') (h : wpAny P md ops Q fuel (listed.setIfInBounds i true) (a.put o.dst v) w') (hs : AllReady P md ops Q fuel listed a w rs) : AllReady P md ops Q fuel listed a w (i :: rs) :=
  AllReady.cons ho (fun K hK => by rw [if_pos (by simp [Region.wanted, hg])]; exact owp_eq hrun (hK _ _ h)) hs
theorem any_skip {P : Program} {md : Region.Mode} {ops : Array Oper} {Q : Exit → Act → World → Prop} {fuel : Nat} {listed : Array Bool} {a : Act} {w w' : World} {i : Nat} {rs : List Nat} {o : Oper} (ho : ops[i]? = some o) (hg : o.guard = none)
    (hrun : (execOp a.eval o).run P w = .ok .skip w') (h : wpAny P md ops Q fuel (listed.setIfInBounds i true) (a.put o.dst undef) w') (hs : AllReady P md ops Q fuel listed a w rs) : AllReady P md ops Q fuel listed a w (i :: rs) :=
  AllReady.cons ho (fun K hK => by rw [if_pos (by simp [Region.wanted, hg])]; exact owp_skip hrun (hK _ _ h)) hs
theorem wpAny_as {P : Program} {md : Region.Mode} {ops : Array Oper} {Q : Exit → Act → World → Prop} {fuel : Nat} {listed : Array Bool} {a : Act} {w : World} (a' : Act) (ha : a = a') (h : wpAny P md ops Q fuel listed a' w) : wpAny P md ops Q fuel listed a w := ha ▸ h
section
variable {P : Program} {w w' : World} {ρ : Operand → Value} {o : Oper}
theorem exec_load {t : TypeId} {x : Operand} {p v : Value} (h : o.op = .load t x) (hp : ρ x = p) (hrun : (Instr.loadAt t p).run P w = .ok v w') : (execOp ρ o).run P w = .ok (.value v) w' := by
  simp [execOp, h, hp, hrun, Result.andThen]
theorem exec_lookup {t : TypeId} {m x : Operand} {mv key v : Value} (h : o.op = .lookup t m x false) (hm : ρ m = mv) (hx : ρ x = key) (hrun : (Instr.lookup t mv key false).run P w = .ok v w') : (execOp ρ o).run P w = .ok (.value v) w' := by
  simp [execOp, h, hm, hx, hrun, Result.andThen]
theorem exec_entry {t : TypeId} {m x : Operand} {mv key v : Value} (h : o.op = .mapEntry t m x) (hm : ρ m = mv) (hx : ρ x = key) (hrun : (Instr.mapEntry t mv key).run P w = .ok v w') : (execOp ρ o).run P w = .ok (.value v) w' := by
  simp [execOp, h, hm, hx, hrun, Result.andThen]
theorem exec_entryStore {t : TypeId} {m x y : Operand} {mv st v : Value} (h : o.op = .entryStore t m x y) (hm : ρ m = mv) (hx : ρ x = st) (hy : ρ y = v) (hrun : (Instr.entryStore t mv st v).run P w = .ok () w') : (execOp ρ o).run P w = .ok .skip w' := by
  simp [execOp, h, hm, hx, hy, hrun, Result.andThen]
end
section
variable {P : Program} (w : World) {ops : Array Oper} {rest : List Oper} {o : Oper} {a : Act} {Q : Exit → Act → World → Prop}
theorem wpList_load_eq (hg : o.guard = none) (t : TypeId) (x : Operand) (hop : o.op = Op.load t x) (p v : Value) (hx : a.eval x = p) (hrun : (Instr.loadAt t p).run P w = .ok v w) (hK : wpList P ops Q rest (a.put o.dst v) w) : wpList P ops Q (o :: rest) a w := by
  refine wpList_plain hg fun K' hK' => ?_
  unfold Oper.wp
  simp [execOp, hop, hx, hrun, Result.andThen]
  exact hK' _ _ hK
theorem wpList_store_eq (hg : o.guard = none) (t : TypeId) (x y : Operand) (hop : o.op = Op.store t x y) (p v : Value) (hx : a.eval x = p) (hy : a.eval y = v) (w' : World) (hrun : (Instr.storeAt t p v).run P w = .ok () w') (hK : wpList P ops Q rest (a.put o.dst undef) w') : wpList P ops Q (o :: rest) a w := by
  refine wpList_plain hg fun K' hK' => ?_
  unfold Oper.wp
  simp [execOp, hop, hx, hy, hrun, Result.andThen]
  exact hK' _ _ hK
end
theorem run_loadAt_cells {P : Program} {w : World} {t : TypeId} {b off : Nat} {cs : List Value} (ha : (isAgg t).run P w = .ok true w) (hs : (sizeOf t).run P w = .ok cs.length w)
    (h : ∀ j v, cs[j]? = some v → w.cell? ⟨b, off + j, none⟩ = some v) : (Instr.loadAt t (.pointer (some ⟨b, off, none⟩))).run P w = .ok (.agg cs.toArray) w := by
  have hadd : ∀ j, (⟨b, off, none⟩ : Addr).add j = ⟨b, off + j, none⟩ := fun j => by unfold Addr.add; split <;> simp_all
  have := run_loadCells_list (P := P) w ⟨b, off, none⟩ cs (fun j v hv => by rw [hadd]; exact h j v hv)
  simp only [Instr.loadAt, Instr.sureAddr, loadVar, Sem.run_bind, Sem.run_pure, Result.andThen, ha, hs, if_true]
  rw [this]
theorem loadW {P : Program} {w : World} {t : TypeId} {n : Nat} {z : Option Value} (ha : (isAgg t).run P w = .ok true w) (hi : (P.info? t).map (fun i => (i.zero, i.size)) = some (z, n)) {b off : Nat} {cs : List Value} (hl : cs.length = n)
    (h : ∀ j v, cs[j]? = some v → w.cell? ⟨b, off + j, none⟩ = some v) : (Instr.loadAt t (.pointer (some ⟨b, off, none⟩))).run P w = .ok (.agg cs.toArray) w := by
  refine run_loadAt_cells ha ?_ h
  cases hq : P.info? t with
  | none => simp [hq] at hi
  | some i =>
    simp [hq] at hi
    simp [sizeOf, typeInfo, hq, hi.2, hl]

/-- A map's entry, and its store. -/
theorem entry3 {P : Program} {k t e : TypeId} {b n : Nat} {w : World} {D : DataW Unit} (K : KeyLaw P k) (ht : P.underlying t = some (.map k e)) (he : P.underlying e = some (.int .i64)) (hz : ∀ u : World, (zeroValue e).run P u = .ok (.int .i64 0) u)
    (hown : w.ownsMap P k (plainElem P e) b n D) (hn : n < maxLen) {key : Value} {kl : Lit} (hkey : keyOf P k key = some kl) :
    ∃ (v0 : Value) (st : Nat) (W1 : World), (Instr.mapEntry t (.map (some b)) key).run P w = .ok (.tuple #[v0, goInt st]) W1 ∧ (∃ D1 : DataW Unit, W1.ownsMap P k (plainElem P e) b (n + 1) D1) ∧ w.grownBy W1 (some b) ∧
      ∀ (x : Int), (Lit.int .i64 x).wf = true → ∃ W4, (Instr.entryStore t (.map (some b)) (goInt st) (.int .i64 x)).run P W1 = .ok () W4 ∧ W4.ownsMap P k (plainElem P e) b (n + 1) (D.put kl (.lit (.int .i64 x))) ∧ w.grownBy W4 (some b) := by
  have KD : Keyed P k := Keyed.of_law K
  have hown0 := hown
  obtain ⟨es, clock, hb, F, hs, rfl⟩ := hown
  obtain ⟨v0, st, es1, clock1, hE, hv0, hS⟩ := entry_then_store K ht hz hb F hkey
  have hW1 : (setBlock w b (.map es1 clock1)).heap[b]? = some (.map es1 clock1) := heap_setBlock_same hb _
  have hg1 : w.grownBy (setBlock w b (.map es1 clock1)) (some b) := ⟨rfl, rfl, rfl, by simp [setBlock], fun i _ hi => heap_setBlock_other hb _ (fun e => hi (by rw [e]))⟩
  refine ⟨v0, st, _, hE, ?_, hg1, fun x hx => ?_⟩
  · rcases K.find w hkey es.toList F.keys with ⟨h1, h2⟩ | ⟨j, e0, h1, h2, h3⟩
    · have hE' : (Instr.mapEntry t (.map (some b)) key).run P w = .ok (.tuple #[.int .i64 0, goInt clock]) (setBlock w b (.map (es.push ⟨key, .int .i64 0, clock⟩) (clock + 1))) := by
        simp [Instr.mapEntry, run_underlying ht, MapKept.run_getObj_map hb, K.check w false hkey, h1, hz, MapKept.run_setObj_map _ hb, Result.andThen, setBlock]
      have hU : (Instr.mapUpdate t (.map (some b)) key (.int .i64 0)).run P w = .ok () (setBlock w b (.map (es.push ⟨key, .int .i64 0, clock⟩) (clock + 1))) := by
        simp [Instr.mapUpdate, run_underlying ht, MapKept.run_getObj_map hb, K.check w false hkey, h1, MapKept.run_setObj_map _ hb, Result.andThen, setBlock]
      rw [hE] at hE'
      simp only [Result.ok.injEq] at hE'
      rw [hE'.2]
      obtain ⟨w', hr, ho, _⟩ := hown0.update KD ht hn hkey (plainElem_int (H := Unit) he (show (Lit.int .i64 0).wf = true by decide))
      rw [hU] at hr
      simp only [Result.ok.injEq, true_and] at hr
      rw [hr]
      exact ⟨_, ho⟩
    · have hj : es[j]? = some e0 := by simpa using h2
      have hsame : es.modify j (fun e => { e with key := key }) = es := by
        apply Array.ext'
        rw [Array.toList_modify, modify_eq_set _ _ _ _ h2]
        have : ({ e0 with key := key } : MapEntry) = e0 := by rw [← h3]
        rw [this]
        exact Go.WideElems.set_self _ _ _ h2
      have hE' : (Instr.mapEntry t (.map (some b)) key).run P w = .ok (.tuple #[e0.val, goInt e0.born]) (setBlock w b (.map es clock)) := by
        simp [Instr.mapEntry, run_underlying ht, MapKept.run_getObj_map hb, K.check w false hkey, h1, hj, h3, K.stays w hkey, hsame, MapKept.run_setObj_map _ hb, Result.andThen, setBlock]
      rw [hE] at hE'
      simp only [Result.ok.injEq] at hE'
      rw [hE'.2]
      exact ⟨_, es, clock, heap_setBlock_same hb _, F, by omega, rfl⟩
  · obtain ⟨es', clock', hst, hup⟩ := hS _ (.int .i64 x) hW1
    obtain ⟨w', hr, ⟨es2, clock2, hb2, F2, hs2, hD2⟩, hg⟩ := hown0.update KD ht hn hkey (plainElem_int (H := Unit) he hx)
    rw [hup] at hr
    simp only [Result.ok.injEq, true_and] at hr
    subst hr
    have hbb : (setBlock w b (.map es' clock')).heap[b]? = some (.map es' clock') := heap_setBlock_same hb _
    rw [hbb] at hb2
    simp only [Option.some.injEq, Obj.map.injEq] at hb2
    obtain ⟨rfl, rfl⟩ := hb2
    refine ⟨_, hst, ⟨es', clock', heap_setBlock_same hW1 _, F2, hs2, hD2⟩, ⟨rfl, rfl, rfl, by simp [setBlock], fun i hi hi2 => ?_⟩⟩
    have hne : i ≠ b := fun e => hi2 (by rw [e])
    rw [heap_setBlock_other hW1 _ hne]
    exact heap_setBlock_other hb _ hne
end Go.Vi
end

section
set_option linter.unusedVariables false
set_option linter.unusedSimpArgs false
namespace Go.Proofs
open Go.RowKit Go.Shelf Go.Maps Go.Vi
attribute [local go_sem] Oper.semAt_some
def Tryz.zin : Array Value := #[.int .u8 0, .int .u8 0, .int .u8 0, .int .u8 0, .int .u8 0, .int .u8 0, .int .u8 0, .int .u8 0, .int .u8 0, .int .u8 0, .int .u8 0, .int .u8 0, .int .u8 0, .int .u8 0, .int .u8 0, .int .u8 0, .int .u8 0, .int .u8 0, .int .u8 0, .int .u8 0, .int .u8 0, .int .u8 0, .int .u8 0, .int .u8 0, .int .u8 0, .int .u8 0, .int .u8 0, .int .u8 0, .int .u8 0, .int .u8 0, .int .u8 0, .int .u8 0, .int .u32 0, .slice none 0 0, .int .u32 0, .slice none 0 0]
theorem Tryz.lay_ok : laidOutB Tryz.prog = true := by kernel_rfl
theorem Tryz.key_row : (40 : TypeId) < Tryz.prog.types.size := of_decide_eq_true (by kernel_rfl)
theorem Tryz.key_law : Go.WideMaps.KeyLaw Tryz.prog 40 := deep_law_laid Tryz.lay_ok (m := 3) (by omega) Tryz.key_row (by kernel_rfl) (by kernel_rfl)
theorem Tryz.key_keyed : Keyed Tryz.prog 40 := Keyed.of_law Tryz.key_law
theorem Tryz.zero_int (w : World) : (zeroValue 3).run Tryz.prog w = .ok (.int .i64 0) w := by kernel_rfl
theorem Tryz.agg_in (w : World) : (isAgg 44).run Tryz.prog w = .ok true w := by kernel_rfl
theorem Tryz.agg_op (w : World) : (isAgg 40).run Tryz.prog w = .ok true w := by kernel_rfl
theorem Tryz.info_in : (Tryz.prog.info? 44).map (fun i => (i.zero, i.size)) = some (some (.agg Tryz.zin), 36) := by kernel_rfl
theorem Tryz.info_op : (Tryz.prog.info? 40).map (fun i => (i.zero, i.size)) = some (some (.agg (Tryz.zin.extract 0 33)), 33) := by kernel_rfl
theorem hbx0_of {wr : World} {o : Obj} {b off : Nat} {v : Value} (h : wr.cell? ⟨b, off, none⟩ = some v) : (World.drew (wr.alloc o)).cell? ⟨b, off, none⟩ = some v := by
  have hb : b < wr.heap.size := by
    rcases Nat.lt_or_ge b wr.heap.size with h1 | h1
    · exact h1
    · simp [World.cell?, Array.getElem?_eq_none h1] at h
  exact (((Below.refl wr.heap.size wr).alloc (Nat.le_refl _) o).drew.cell (p := ⟨b, off, none⟩) hb).trans h
theorem grown_cell {w w' : World} {r b o : Nat} {v : Value} (hg : w.grownBy w' (some r)) (h : w.cell? ⟨b, o, none⟩ = some v) (hne : b ≠ r) : w'.cell? ⟨b, o, none⟩ = some v := by
  have hb : b < w.heap.size := by
    rcases Nat.lt_or_ge b w.heap.size with h1 | h1
    · exact h1
    · simp [World.cell?, Array.getElem?_eq_none h1] at h
  unfold World.cell? at h ⊢
  rw [hg.block b hb (by simpa using hne)]
  exact h
theorem cell_two (w : World) (xs : Array Value) (T : TypeId) (o : Obj) (j : Nat) (v : Value) (h : xs[j]? = some v) : ((w.alloc (.cells xs T)).alloc o).cell? ⟨w.heap.size, j, none⟩ = some v := by
  have h1 : ((w.alloc (.cells xs T)).alloc o).heap[w.heap.size]? = some (.cells xs T (0, 0)) := by rw [Below.heap_alloc _ _ _ (by simp)]; exact World.alloc_heap_new w _
  rw [cell_of_row _ _ j _ _ (0, 0) h1]; exact h
theorem wrap_wf (x : Int) : (Lit.int .i64 (IntKind.i64.wrap x)).wf = true := by
  simp only [Lit.wf, Bool.and_eq_true, decide_eq_true_eq, show IntKind.i64.min = -9223372036854775808 from rfl, show IntKind.i64.max = 9223372036854775807 from rfl]
  rw [IntKind.wrap_i64]; omega
set_option maxRecDepth 100000 in
set_option maxHeartbeats 2000000 in
theorem Tryz.double_w (Kl : Nat → Lit) (v0 v3 os : Value) (a : Option Addr) (b off len cap : Nat) (cs : Nat → List Value) (w : World) (hlen : len ≤ cap) (hb2 : len < 1000000000) (hb : len ≠ 0 → b < w.heap.size) (hsome : len ≠ 0 → a = some ⟨b, off, none⟩)
    (hcl : ∀ k, k < len → (cs k).length = 36) (hc : ∀ k, k < len → ∀ j v, (cs k)[j]? = some v → w.cell? ⟨b, off + k * 36 + j, none⟩ = some v) (hone : ∀ k, k < len → (cs k).toArray.all (·.oneCell') = true)
    (hkey : ∀ k, k < len → keyOf Tryz.prog 40 (.agg ((cs k).take 33).toArray) = some (Kl k)) :
    Calls Tryz.prog 22 #[.agg #[v0, .slice a len cap, os, v3]] w fun e w' => ∃ D : DataW Unit, Counted D ((List.range len).map Kl) ∧ e = .returned (.bool (decide (Maps.size D < len))) ∧ Below w.heap.size w w' := by
  have hmm := @run_makeMap Tryz.prog
  refine calls_of_wp Tryz.func22 rfl ?_
  simp only [Tryz.ntmps22, List.size_toArray, List.length_cons, List.length_nil, Nat.reduceAdd, Nat.reduceSub, Array.replicate_succ, Array.replicate_zero, List.push_toArray, List.append_toArray, List.nil_append, List.cons_append]
  go_wp2
  go_loopw [10] (fun i wr => ∃ (k : Nat) (D : DataW Unit), k ≤ len ∧ i = .int .i64 (k : Int) ∧ Counted D ((List.range k).map Kl) ∧ wr.ownsMap Tryz.prog 40 (plainElem Tryz.prog 3) (w.heap.size + 1) k D ∧ wr.cell? ⟨w.heap.size, 1, none⟩ = some (.slice a len cap) ∧ Below w.heap.size w wr)
    (fun i _ => len - (intOf i).toNat)
  case atStart => exact ⟨0, .map [], Nat.zero_le _, rfl, counted_nil, (by have := World.ownsMap_made (w.alloc (.cells #[v0, .slice a len cap, os, v3] 38)) Tryz.prog 40 (plainElem (H := Unit) Tryz.prog 3); rwa [World.size_alloc] at this), cell_two w _ _ _ 1 _ rfl, ((Below.refl _ _).alloc (Nat.le_refl _) _).alloc (by rw [World.size_alloc]; exact Nat.le_succ _) _⟩
  case round =>
    obtain ⟨k, D, hk, rfl, hcnt, hown, hbx, hnx⟩ := hrel
    by_cases hlt : k < len
    · obtain rfl := hsome (by omega)
      have hbb := hb (by omega)
      have hld : (Instr.loadAt 44 (.pointer (some ⟨b, off + k * 36, none⟩))).run Tryz.prog wr = .ok (.agg (cs k).toArray) wr :=
        loadW (Tryz.agg_in wr) Tryz.info_in (hcl k hlt) fun j v hv => (hnx.cell (p := ⟨b, off + k * 36 + j, none⟩) hbb).trans (hc k hlt j v hv)
      have hst := run_storeAt_new (P := Tryz.prog) wr 44 Tryz.zin (cs k).toArray (by rw [List.size_toArray, hcl k hlt]; kernel_rfl) (Eq.trans (b := 36) (by kernel_rfl) (by rw [List.size_toArray, hcl k hlt])) (hone k hlt)
      have hkk := hkey k hlt
      go_wp2_with (first
        | (refine wpList_load_eq _ rfl 44 _ rfl (.pointer (some ⟨b, off + k * 36, none⟩)) (.agg (cs k).toArray) rfl hld ?_)
        | (refine wpList_store_eq _ rfl 44 _ _ rfl (.pointer (some ⟨wr.heap.size, 0, none⟩)) (.agg (cs k).toArray) rfl rfl _ hst ?_))
      have hp0 : (World.drew (wr.alloc (.cells (cs k).toArray 44))).heap[wr.heap.size]? = some (.cells (cs k).toArray 44 (0, 0)) := World.alloc_heap_new wr _
      have hown0 : (World.drew (wr.alloc (.cells (cs k).toArray 44))).ownsMap Tryz.prog 40 (plainElem Tryz.prog 3) (w.heap.size + 1) k D := (hown.alloc _).drew
      have hnx0 : Below w.heap.size w (World.drew (wr.alloc (.cells (cs k).toArray 44))) := (hnx.alloc hnx.size _).drew
      have hbx0 : (World.drew (wr.alloc (.cells (cs k).toArray 44))).cell? ⟨w.heap.size, 1, none⟩ = some (.slice (some ⟨b, off, none⟩) len cap) := hbx0_of hbx
      refine wp_region_any (by kernel_rfl) ?_
      change wpAny _ _ _ _ _ _ _ (World.drew _)
      generalize World.drew (wr.alloc (.cells (cs k).toArray 44)) = W at *
      have hld2 : (Instr.loadAt 40 (.pointer (some ⟨wr.heap.size, 0, none⟩))).run Tryz.prog W = .ok (.agg ((cs k).take 33).toArray) W :=
        loadW (Tryz.agg_op W) Tryz.info_op (by rw [List.length_take, hcl k hlt]; rfl) fun j v hv => by
          rw [Nat.zero_add, cell_of_row W wr.heap.size j _ _ (0, 0) hp0]
          have hj : j < 33 := by
            have := (List.getElem?_eq_some_iff.1 hv).1
            rw [List.length_take] at this; omega
          rw [List.getElem?_take_of_lt hj] at hv
          simpa using hv
      obtain ⟨c0, hl0, -, hw0⟩ := hown0.lookup_int Tryz.key_keyed Tryz.underlying68 Tryz.underlying3 (Tryz.zero_int W) hkk
      obtain ⟨z0, st, W1, hE, ⟨D1, hown1⟩, hg1, hS⟩ := entry3 Tryz.key_law Tryz.underlying68 Tryz.underlying3 Tryz.zero_int hown0 (by unfold maxLen; omega) hkk
      obtain ⟨c1, hl1, -, hw1⟩ := hown1.lookup_int Tryz.key_keyed Tryz.underlying68 Tryz.underlying3 (Tryz.zero_int W1) hkk
      refine wpAny_take (i := 0) (v := .map (some (w.heap.size + 1))) rfl (by kernel_rfl) (by kernel_rfl) (by kernel_rfl) (fun _ _ _ h => h) (Or.inl ⟨by rfl, fun w => by rfl⟩) ?_
      refine wpAny_as ⟨#[.agg #[v0, .slice (some ⟨b, off, none⟩) len cap, os, v3], .pointer (some ⟨w.heap.size, 0, none⟩), .bool false, .map (some (w.heap.size + 1)), undef, .pointer (some ⟨wr.heap.size, 0, none⟩), .map (some (w.heap.size + 1)), .pointer (some ⟨w.heap.size, 1, none⟩), .slice (some ⟨b, off, none⟩) len cap, .int .i64 len, .int .i64 k, .bool true, .pointer (some ⟨b, off + k * 36, none⟩), .agg (cs k).toArray, .map (some (w.heap.size + 1)), u15, u16, u17, u18, u19, u20, u21, undef, undef, undef, undef, undef, undef], []⟩ (by rfl) ?_
      refine wpAny_take (i := 1) (v := .pointer (some ⟨wr.heap.size, 0, none⟩)) rfl (by kernel_rfl) (by kernel_rfl) (by kernel_rfl) (fun _ _ _ h => h) (Or.inl ⟨by rfl, fun w => by go_simp⟩) ?_
      refine wpAny_as ⟨#[.agg #[v0, .slice (some ⟨b, off, none⟩) len cap, os, v3], .pointer (some ⟨w.heap.size, 0, none⟩), .bool false, .map (some (w.heap.size + 1)), undef, .pointer (some ⟨wr.heap.size, 0, none⟩), .map (some (w.heap.size + 1)), .pointer (some ⟨w.heap.size, 1, none⟩), .slice (some ⟨b, off, none⟩) len cap, .int .i64 len, .int .i64 k, .bool true, .pointer (some ⟨b, off + k * 36, none⟩), .agg (cs k).toArray, .map (some (w.heap.size + 1)), .pointer (some ⟨wr.heap.size, 0, none⟩), u16, u17, u18, u19, u20, u21, undef, undef, undef, undef, undef, undef], []⟩ (by rfl) ?_
      refine wpAny_ready (rs := [2]) (by kernel_rfl) (by simp) (any_step (v := .agg ((cs k).take 33).toArray) rfl rfl (w' := W) (exec_load rfl rfl hld2) ?_ AllReady.nil)
      refine wpAny_as ⟨#[.agg #[v0, .slice (some ⟨b, off, none⟩) len cap, os, v3], .pointer (some ⟨w.heap.size, 0, none⟩), .bool false, .map (some (w.heap.size + 1)), undef, .pointer (some ⟨wr.heap.size, 0, none⟩), .map (some (w.heap.size + 1)), .pointer (some ⟨w.heap.size, 1, none⟩), .slice (some ⟨b, off, none⟩) len cap, .int .i64 len, .int .i64 k, .bool true, .pointer (some ⟨b, off + k * 36, none⟩), .agg (cs k).toArray, .map (some (w.heap.size + 1)), .pointer (some ⟨wr.heap.size, 0, none⟩), .agg ((cs k).take 33).toArray, u17, u18, u19, u20, u21, undef, undef, undef, undef, undef, undef], []⟩ (by rfl) ?_
      refine wpAny_ready (rs := [3, 5]) (by kernel_rfl) (by simp) (any_step (v := .int .i64 c0) rfl rfl (w' := W) (exec_lookup (mv := .map (some (w.heap.size + 1))) (key := .agg ((cs k).take 33).toArray) rfl rfl rfl hl0) ?_ (any_step (v := .tuple #[z0, goInt st]) rfl rfl (w' := W1) (exec_entry (mv := .map (some (w.heap.size + 1))) (key := .agg ((cs k).take 33).toArray) rfl rfl rfl hE) ?_ AllReady.nil))
      · refine wpAny_take (i := 4) (v := .int .i64 (IntKind.i64.wrap (c0 + 1))) rfl (by kernel_rfl) (by kernel_rfl) (by kernel_rfl) (fun _ _ _ h => h) (Or.inl ⟨by rfl, fun w => by go_simp⟩) ?_
        refine wpAny_as ⟨#[.agg #[v0, .slice (some ⟨b, off, none⟩) len cap, os, v3], .pointer (some ⟨w.heap.size, 0, none⟩), .bool false, .map (some (w.heap.size + 1)), undef, .pointer (some ⟨wr.heap.size, 0, none⟩), .map (some (w.heap.size + 1)), .pointer (some ⟨w.heap.size, 1, none⟩), .slice (some ⟨b, off, none⟩) len cap, .int .i64 len, .int .i64 k, .bool true, .pointer (some ⟨b, off + k * 36, none⟩), .agg (cs k).toArray, .map (some (w.heap.size + 1)), .pointer (some ⟨wr.heap.size, 0, none⟩), .agg ((cs k).take 33).toArray, .int .i64 c0, .int .i64 (IntKind.i64.wrap (c0 + 1)), u19, u20, u21, undef, undef, undef, undef, undef, undef], []⟩ (by rfl) ?_
        refine wpAny_ready (rs := [5]) (by kernel_rfl) (by simp) (any_step (v := .tuple #[z0, goInt st]) rfl rfl (w' := W1) (exec_entry (mv := .map (some (w.heap.size + 1))) (key := .agg ((cs k).take 33).toArray) rfl rfl rfl hE) ?_ AllReady.nil)
        refine wpAny_as ⟨#[.agg #[v0, .slice (some ⟨b, off, none⟩) len cap, os, v3], .pointer (some ⟨w.heap.size, 0, none⟩), .bool false, .map (some (w.heap.size + 1)), undef, .pointer (some ⟨wr.heap.size, 0, none⟩), .map (some (w.heap.size + 1)), .pointer (some ⟨w.heap.size, 1, none⟩), .slice (some ⟨b, off, none⟩) len cap, .int .i64 len, .int .i64 k, .bool true, .pointer (some ⟨b, off + k * 36, none⟩), .agg (cs k).toArray, .map (some (w.heap.size + 1)), .pointer (some ⟨wr.heap.size, 0, none⟩), .agg ((cs k).take 33).toArray, .int .i64 c0, .int .i64 (IntKind.i64.wrap (c0 + 1)), .tuple #[z0, goInt st], u20, u21, undef, undef, undef, undef, undef, undef], []⟩ (by rfl) ?_
        refine wpAny_take (i := 6) (v := goInt st) rfl (by kernel_rfl) (by kernel_rfl) (by kernel_rfl) (fun _ _ _ h => h) (Or.inl ⟨by rfl, fun w => by go_simp⟩) ?_
        refine wpAny_as ⟨#[.agg #[v0, .slice (some ⟨b, off, none⟩) len cap, os, v3], .pointer (some ⟨w.heap.size, 0, none⟩), .bool false, .map (some (w.heap.size + 1)), undef, .pointer (some ⟨wr.heap.size, 0, none⟩), .map (some (w.heap.size + 1)), .pointer (some ⟨w.heap.size, 1, none⟩), .slice (some ⟨b, off, none⟩) len cap, .int .i64 len, .int .i64 k, .bool true, .pointer (some ⟨b, off + k * 36, none⟩), .agg (cs k).toArray, .map (some (w.heap.size + 1)), .pointer (some ⟨wr.heap.size, 0, none⟩), .agg ((cs k).take 33).toArray, .int .i64 c0, .int .i64 (IntKind.i64.wrap (c0 + 1)), .tuple #[z0, goInt st], goInt st, u21, undef, undef, undef, undef, undef, undef], []⟩ (by rfl) ?_
        obtain ⟨W4, hS4, hown4, hg4⟩ := hS (IntKind.i64.wrap (c0 + 1)) (wrap_wf _)
        refine wpAny_ready (rs := [7]) (by kernel_rfl) (by simp) (any_skip rfl rfl (w' := W4) (exec_entryStore (mv := .map (some (w.heap.size + 1))) (st := goInt st) (v := .int .i64 (IntKind.i64.wrap (c0 + 1))) rfl rfl rfl rfl hS4) ?_ AllReady.nil)
        refine wpAny_done (by kernel_rfl) ?_ _
        go_wp2
        go_roundw
        case rel => exact ⟨k + 1, D.put (Kl k) (.lit (.int .i64 (IntKind.i64.wrap (c0 + 1)))), by omega, by go_num, by rw [List.range_succ, List.map_append]; exact counted_step _ (Tryz.key_keyed.key hkk) hcnt, hown4, (grown_cell hg4 hbx0 (by omega)), hnx0.grown hg4 hnx0.size (fun j hj => by cases hj; exact Nat.le_succ _)⟩
        case measure => simp [intOf]; omega
      · refine wpAny_take (i := 6) (v := goInt st) rfl (by kernel_rfl) (by kernel_rfl) (by kernel_rfl) (fun _ _ _ h => h) (Or.inl ⟨by rfl, fun w => by go_simp⟩) ?_
        refine wpAny_as ⟨#[.agg #[v0, .slice (some ⟨b, off, none⟩) len cap, os, v3], .pointer (some ⟨w.heap.size, 0, none⟩), .bool false, .map (some (w.heap.size + 1)), undef, .pointer (some ⟨wr.heap.size, 0, none⟩), .map (some (w.heap.size + 1)), .pointer (some ⟨w.heap.size, 1, none⟩), .slice (some ⟨b, off, none⟩) len cap, .int .i64 len, .int .i64 k, .bool true, .pointer (some ⟨b, off + k * 36, none⟩), .agg (cs k).toArray, .map (some (w.heap.size + 1)), .pointer (some ⟨wr.heap.size, 0, none⟩), .agg ((cs k).take 33).toArray, u17, u18, .tuple #[z0, goInt st], goInt st, u21, undef, undef, undef, undef, undef, undef], []⟩ (by rfl) ?_
        refine wpAny_ready (rs := [3]) (by kernel_rfl) (by simp) (any_step (v := .int .i64 c1) rfl rfl (w' := W1) (exec_lookup (mv := .map (some (w.heap.size + 1))) (key := .agg ((cs k).take 33).toArray) rfl rfl rfl hl1) ?_ AllReady.nil)
        refine wpAny_as ⟨#[.agg #[v0, .slice (some ⟨b, off, none⟩) len cap, os, v3], .pointer (some ⟨w.heap.size, 0, none⟩), .bool false, .map (some (w.heap.size + 1)), undef, .pointer (some ⟨wr.heap.size, 0, none⟩), .map (some (w.heap.size + 1)), .pointer (some ⟨w.heap.size, 1, none⟩), .slice (some ⟨b, off, none⟩) len cap, .int .i64 len, .int .i64 k, .bool true, .pointer (some ⟨b, off + k * 36, none⟩), .agg (cs k).toArray, .map (some (w.heap.size + 1)), .pointer (some ⟨wr.heap.size, 0, none⟩), .agg ((cs k).take 33).toArray, .int .i64 c1, u18, .tuple #[z0, goInt st], goInt st, u21, undef, undef, undef, undef, undef, undef], []⟩ (by rfl) ?_
        refine wpAny_take (i := 4) (v := .int .i64 (IntKind.i64.wrap (c1 + 1))) rfl (by kernel_rfl) (by kernel_rfl) (by kernel_rfl) (fun _ _ _ h => h) (Or.inl ⟨by rfl, fun w => by go_simp⟩) ?_
        refine wpAny_as ⟨#[.agg #[v0, .slice (some ⟨b, off, none⟩) len cap, os, v3], .pointer (some ⟨w.heap.size, 0, none⟩), .bool false, .map (some (w.heap.size + 1)), undef, .pointer (some ⟨wr.heap.size, 0, none⟩), .map (some (w.heap.size + 1)), .pointer (some ⟨w.heap.size, 1, none⟩), .slice (some ⟨b, off, none⟩) len cap, .int .i64 len, .int .i64 k, .bool true, .pointer (some ⟨b, off + k * 36, none⟩), .agg (cs k).toArray, .map (some (w.heap.size + 1)), .pointer (some ⟨wr.heap.size, 0, none⟩), .agg ((cs k).take 33).toArray, .int .i64 c1, .int .i64 (IntKind.i64.wrap (c1 + 1)), .tuple #[z0, goInt st], goInt st, u21, undef, undef, undef, undef, undef, undef], []⟩ (by rfl) ?_
        obtain ⟨W4, hS4, hown4, hg4⟩ := hS (IntKind.i64.wrap (c1 + 1)) (wrap_wf _)
        refine wpAny_ready (rs := [7]) (by kernel_rfl) (by simp) (any_skip rfl rfl (w' := W4) (exec_entryStore (mv := .map (some (w.heap.size + 1))) (st := goInt st) (v := .int .i64 (IntKind.i64.wrap (c1 + 1))) rfl rfl rfl rfl hS4) ?_ AllReady.nil)
        refine wpAny_done (by kernel_rfl) ?_ _
        go_wp2
        go_roundw
        case rel => exact ⟨k + 1, D.put (Kl k) (.lit (.int .i64 (IntKind.i64.wrap (c1 + 1)))), by omega, by go_num, by rw [List.range_succ, List.map_append]; exact counted_step _ (Tryz.key_keyed.key hkk) hcnt, hown4, (grown_cell hg4 hbx0 (by omega)), hnx0.grown hg4 hnx0.size (fun j hj => by cases hj; exact Nat.le_succ _)⟩
        case measure => simp [intOf]; omega
    · obtain rfl : k = len := by omega
      go_wp2_with (first
        | (at_len; refine wpList_len_own _ rfl _ _ rfl 40 3 Tryz.underlying68 (plainElem Tryz.prog 3) (w.heap.size + 1) k D rfl hown ?_))
      go_ret
      exact ⟨D, hcnt, by simp, hnx⟩
end Go.Proofs
namespace Go.Vi.CZ
open Go.Proofs Go.RowKit Go.Maps
set_option maxRecDepth 100000 in
theorem key_of (x : InP) (hx : x.Ok) : ∃ kl, keyOf Tryz.prog 40 (keyV x) = some kl :=
  key_some (P := Tryz.prog) (K := 40) (A := 24) (B := 5) (U := 22) Tryz.underlying40 Tryz.underlying24 Tryz.underlying5 Tryz.underlying22 (by kernel_rfl) (by kernel_rfl) (by kernel_rfl) (by kernel_rfl)
    (fun f hf => by simp at hf; rcases hf with rfl | rfl <;> simp) (by simp) (by kernel_rfl) ⟨Tryz.prog.types.size - 2, by kernel_rfl⟩ hx.prev hx.pby hx.ix
theorem key_fun : ∃ KL : InP → Lit, ∀ x, x.Ok → keyOf Tryz.prog 40 (keyV x) = some (KL x) :=
  ⟨fun x => (keyOf Tryz.prog 40 (keyV x)).getD (.bool false), fun x hx => by
    obtain ⟨kl, h⟩ := key_of x hx
    simp only [h, Option.getD_some]⟩
theorem one_ints (p : List Int) : ∀ v ∈ ints .u8 p, v.oneCell' = true := by
  intro v hv
  obtain ⟨n, _, rfl⟩ := List.mem_map.1 hv
  rfl
theorem map_get {α β : Type} [Inhabited α] (f : α → β) (l : List α) : (List.range l.length).map (fun k => f (l.getD k default)) = l.map f := by
  apply List.ext_getElem
  · simp
  · intro i h1 h2
    simp at h1
    simp [List.getD, h1]
theorem c_double : Contract E 22 := by
  obtain ⟨keyL, key_L⟩ := key_fun
  refine contract_callsT (p := sp_double) (fun _ _ _ => rfl) fun xs hv g w vs hl0 hr => ?_
  unfold sp_double at hv ⊢
  split at hv
  case h_2 => exact hv.elim
  rename_i ve is os l
  obtain ⟨t, rfl, rfl, rfl, rfl, ht, e0⟩ := okT_tx hv
  obtain ⟨v1, r1, rfl, ⟨cs0, rfl, q0, q1, rfl, z0, q2, q3, rfl, z1, q4, q5, rfl, z2, q6, q7, rfl, z3, z4⟩, e3⟩ := hr
  have e3 : r1 = [] := e3
  have z0 : q0 = [.int .u32 t.ver] := z0
  have z3 : q6 = [.int .u32 t.lock] := z3
  have z4 : q7 = [] := z4
  obtain ⟨a, c, vE, rfl, hc, hes, hrow, _⟩ := z1
  obtain ⟨a2, c2, vO, rfl, _⟩ := z2
  subst e3 z0 z3 z4
  have hlen := es_length (insD t.ins) hes
  have eL := insD_length t.ins
  rw [eL] at hlen hc
  have hsome : ∃ b off, (t.ins.length ≠ 0 → a = some ⟨b, off, none⟩) ∧ (t.ins.length ≠ 0 → off + vE.length ≤ g.lim b ∧ At w b off vE) := by
    by_cases h0 : t.ins.length = 0
    · exact ⟨0, 0, fun h => absurd h0 h, fun h => absurd h0 h⟩
    · obtain ⟨b, off, e, h1, h2⟩ := hrow (by intro e; subst e; simp at hlen; omega)
      exact ⟨b, off, fun _ => e, fun _ => ⟨h1, h2⟩⟩
  obtain ⟨b, off, hs1, hs2⟩ := hsome
  have hB : t.ins.length ≠ 0 → b < w.heap.size := fun h0 => by
    obtain ⟨h1, h2⟩ := hs2 h0
    rcases Nat.lt_or_ge b w.heap.size with h | h
    · exact h
    · rw [hl0 b h] at h1; omega
  let cs : Nat → List Value := fun k => (vE.drop (k * 36)).take 36
  have hpart : ∀ k, k < t.ins.length → ∃ p4, cs k = (ints .u8 (t.ins.getD k default).prev ++ [.int .u32 (t.ins.getD k default).ix]) ++ p4 ∧ p4.length = 3 ∧ ∀ v ∈ p4, v.oneCell' = true := fun k hk => by
    obtain ⟨pre, mid, post, e', hpl, hm, hr⟩ := es_at (insD t.ins) k (by rw [eL]; exact hk) hes
    have he : (insD t.ins)[k]'(by rw [eL]; exact hk) = inD (t.ins.getD k default) := by
      rw [← insD_get t.ins k hk]
      simp [List.getD, eL, hk]
    rw [he] at hr
    have hcs : cs k = mid := by
      show (vE.drop (k * 36)).take 36 = mid
      rw [e', List.append_assoc, ← hpl, List.drop_left, ← hm, List.take_left]
    obtain ⟨m0, m1, rfl, ⟨m2, m3, rfl, y0, m4, m5, rfl, y1, y2⟩, m6, m7, rfl, y3, m8, m9, rfl, y4, m10, m11, rfl, y5, y6⟩ := hr
    have y0 : (t.ins.getD k default).prev.length = 32 ∧ m2 = ints .u8 (t.ins.getD k default).prev := y0
    have y1 : m4 = [.int .u32 (t.ins.getD k default).ix] := y1
    have y2 : m5 = [] := y2
    have y4 : m8 = [.int .u32 (t.ins.getD k default).seq] := y4
    have y6 : m11 = [] := y6
    obtain ⟨s1, s2, rfl, -⟩ := y3
    obtain ⟨w1, w2, w3, rfl, -⟩ := y5
    obtain ⟨-, rfl⟩ := y0
    subst y1 y2 y4 y6
    refine ⟨_, by rw [hcs]; simp only [List.append_nil]; rfl, rfl, fun v hv => ?_⟩
    simp only [List.cons_append, List.nil_append, List.mem_cons, List.not_mem_nil, or_false] at hv
    rcases hv with rfl | rfl | rfl <;> rfl
  have hcl : ∀ k, k < t.ins.length → (cs k).length = 36 := fun k hk => by
    obtain ⟨p4, e, h4, _⟩ := hpart k hk
    have hp := (ht.ins _ (getD_memI hk)).prev
    rw [e, List.length_append, List.length_append, h4]; simp only [ints, List.length_map, List.length_cons, List.length_nil]; omega
  have h33 : ∀ k, k < t.ins.length → .agg ((cs k).take 33).toArray = keyV (t.ins.getD k default) := fun k hk => by
    obtain ⟨p4, e, h4, _⟩ := hpart k hk
    have hp := (ht.ins _ (getD_memI hk)).prev
    have h1 : (ints .u8 (t.ins.getD k default).prev ++ [Value.int .u32 (t.ins.getD k default).ix]).length = 33 := by
      rw [List.length_append]; simp only [ints, List.length_map, List.length_cons, List.length_nil]; omega
    rw [e, List.take_append_of_le_length (by omega), List.take_of_length_le (by omega)]
    rfl
  rw [eL]
  refine Calls.mono (Tryz.double_w (fun k => keyL (t.ins.getD k default)) (.int .u32 t.ver) (.int .u32 t.lock) (.slice a2 (outsD t.outs).length c2) a b off t.ins.length c cs w hc ht.mi hB hs1 hcl ?_ ?_ ?_) ?_
  · intro k hk j v hv
    obtain ⟨_, h2⟩ := hs2 (by omega)
    have hj : j < 36 := by
      have := (List.getElem?_eq_some_iff.1 hv).1
      rw [hcl k hk] at this; exact this
    have : vE[k * 36 + j]? = some v := by
      have hv : ((vE.drop (k * 36)).take 36)[j]? = some v := hv
      rw [List.getElem?_take_of_lt hj, List.getElem?_drop] at hv
      exact hv
    have := h2 _ v this
    rw [Nat.add_assoc]; exact this
  · intro k hk
    obtain ⟨p4, e, _, h4⟩ := hpart k hk
    rw [List.all_toArray, List.all_eq_true, e]
    intro v hv
    rcases List.mem_append.1 hv with hv | hv
    · rcases List.mem_append.1 hv with hv | hv
      · exact one_ints _ v hv
      · obtain rfl := List.mem_singleton.1 hv; rfl
    · exact h4 v hv
  · intro k hk
    rw [h33 k hk]
    exact key_L _ (ht.ins _ (getD_memI hk))
  · rintro e w' ⟨D, hcnt, rfl, hb⟩
    refine ⟨_, rfl, ?_, hb⟩
    rw [e0]
    rw [map_get keyL] at hcnt
    obtain ⟨-, -, h3, h4⟩ := hcnt
    rw [List.length_map] at h3 h4
    have hnd : (t.ins.map keyL).Nodup ↔ (t.ins.map keyI).Nodup := nodup_map_iff fun x hx y hy => by
      constructor
      · intro h
        have h1 := key_L _ (ht.ins x hx)
        have h2 := key_L _ (ht.ins y hy)
        rw [h] at h1
        exact keyV_inj (Tryz.key_law.inj h1 h2)
      · intro h
        have h1 := key_L _ (ht.ins x hx)
        have h2 := key_L _ (ht.ins y hy)
        rw [keyI_V h, h2] at h1
        exact (Option.some.inj h1).symm
    have hd : decide (Maps.size D < t.ins.length) = doubleP t := by
      unfold doubleP
      by_cases hn : (t.ins.map keyI).Nodup
      · have := h4.2 (hnd.2 hn)
        rw [decide_eq_true hn, decide_eq_false (by omega)]; rfl
      · have : ¬ Maps.size D = t.ins.length := fun h => hn (hnd.1 (h4.1 h))
        rw [decide_eq_false hn, decide_eq_true (by omega)]; rfl
    rw [hd]
    rfl
end Go.Vi.CZ
end

section
set_option linter.unusedVariables false
set_option linter.unusedSimpArgs false
set_option maxHeartbeats 0
set_option maxRecDepth 20000
namespace Go.Vi.CZ
open Go.Proofs

theorem c_indexTx : Contract E 53 := by
  refine contract_seeT hE hgl (show E.P.funcs[53]? = some Tryz.f53 from Tryz.func53) rfl (p := (sp_indexTx 9 22 24 44)) (fun _ _ _ => rfl) ?_
  intro args hv
  unfold sp_indexTx at hv ⊢
  split at hv
  case h_2 => exact hv.elim
  rename_i es h
  refine ⟨by simp, Nat.le_of_ble_eq_true rfl, ?_⟩
  simp only [givesIf] at hv
  obtain ⟨hp, l, rfl, hok, hl⟩ := hv
  simp only [txs_D]
  rcases hp with rfl | rfl | rfl | rfl
  · have hpr : predOf 9 22 24 44 9 = baseP := rfl
    rw [hpr]
    obtain ⟨hI1, hI2⟩ := idx_go baseP l
    simp (config := {dsimp := false}) only [↓vp0, vz, vn, nq, tys, cellD, wideIR, if_true, if_false, implies_true, forall_const, ne_eq, reduceIte, reduceCtorEq, Nat.reduceEqDiff, Nat.reduceAdd, Nat.reduceMul, Nat.reduceLT, Nat.reduceSub, Nat.reduceLeDiff, Nat.reduceBNe, Nat.reduceBEq, Nat.reduceBeqDiff, List.range, List.range.loop, gl0, Tryz.ntmps53, Tryz.results53]
    refine loopI {k : Nat // k ≤ l.length ∧ ∀ j, j < k → baseP (l.getD j default) = false} (fun k => [(8, .int .i64 (k.1 : Nat)), (7, .int .i64 (l.length : Nat)), (0, .sl .no 4 (txsD l)), (1, .fn 9 [])]) (fun _ => ⟨[], [], 16⟩) (fun k => l.length - k.1) ⟨0, by simp⟩ (fun _ => rfl) ?_ ?_
    · exact ⟨⟨wkD_eq rfl, rfl, wkD_eq rfl, rfl, wkD_eq rfl, rfl, wkD_eq rfl, rfl, trivial⟩, trivial, trivial⟩
    rintro ⟨k, hk, hb⟩
    simp (config := {dsimp := false}) only [↓vp0, vz, vn, nq, tys, cellD, wideIR, if_true, if_false, implies_true, forall_const, ne_eq, reduceIte, reduceCtorEq, Nat.reduceEqDiff, Nat.reduceAdd, Nat.reduceMul, Nat.reduceLT, Nat.reduceSub, Nat.reduceLeDiff, Nat.reduceBNe, Nat.reduceBEq, Nat.reduceBeqDiff, List.range, List.range.loop, gl0, Tryz.ntmps53, Tryz.results53]
    refine ⟨fun hh => ?_, fun hh => ?_⟩
    · have hh := of_decide_eq_true hh
      have hk' : k < l.length := by omega
      have g1 := txsD_get l k hk'
      have hx := hok _ (getD_memI hk')
      have hc := tx_okT hx
      have ha := anyT_tx hx.any
      cases hp : baseP (l.getD k default)
      · have hpw : True := trivial
        simp (config := {dsimp := false}) only [↓vp0, vz, vn, nq, tys, cellD, wideIR, if_true, if_false, implies_true, forall_const, ne_eq, reduceIte, reduceCtorEq, Nat.reduceEqDiff, Nat.reduceAdd, Nat.reduceMul, Nat.reduceLT, Nat.reduceSub, Nat.reduceLeDiff, Nat.reduceBNe, Nat.reduceBEq, Nat.reduceBeqDiff, List.range, List.range.loop, gl0, Tryz.ntmps53, Tryz.results53, PF.toR, givesIf, Int.toNat_natCast, g1, txD, tx_eta, ins_D, outs_D, hp, hpw, spec_cbase, sp_cbase, c_cbase, b_cbase]
        refine ⟨by omega, by omega, ha, ⟨k + 1, by omega, fun j hj => ?_⟩, ⟨⟨wkD_eq ?_, rfl, wkD_eq rfl, rfl, wkD_eq rfl, rfl, wkD_eq rfl, rfl, trivial⟩, trivial, trivial⟩, by (try simp only); omega⟩
        · rcases Nat.lt_or_ge j k with h7 | h7
          · exact hb j h7
          · obtain rfl : j = k := by omega
            exact hp
        · exact some_i64 (by (try simp only); omega)
      · have hpw : True := trivial
        simp (config := {dsimp := false}) only [↓vp0, vz, vn, nq, tys, cellD, wideIR, if_true, if_false, implies_true, forall_const, ne_eq, reduceIte, reduceCtorEq, Nat.reduceEqDiff, Nat.reduceAdd, Nat.reduceMul, Nat.reduceLT, Nat.reduceSub, Nat.reduceLeDiff, Nat.reduceBNe, Nat.reduceBEq, Nat.reduceBeqDiff, List.range, List.range.loop, gl0, Tryz.ntmps53, Tryz.results53, PF.toR, givesIf, Int.toNat_natCast, g1, txD, tx_eta, ins_D, outs_D, hp, hpw, hI1 k hk' hb hp, spec_cbase, sp_cbase, c_cbase, b_cbase]
        exact ⟨by omega, by omega, ha⟩
    · have hh := of_decide_eq_false hh
      obtain rfl : k = l.length := by omega
      simp (config := {dsimp := false}) only [↓vp0, vz, vn, nq, tys, cellD, wideIR, if_true, if_false, implies_true, forall_const, ne_eq, reduceIte, reduceCtorEq, Nat.reduceEqDiff, Nat.reduceAdd, Nat.reduceMul, Nat.reduceLT, Nat.reduceSub, Nat.reduceLeDiff, Nat.reduceBNe, Nat.reduceBEq, Nat.reduceBeqDiff, List.range, List.range.loop, gl0, Tryz.ntmps53, Tryz.results53, givesIf, hI2 hb]
      all_goals rfl
  · have hpr : predOf 9 22 24 44 22 = doubleP := rfl
    rw [hpr]
    obtain ⟨hI1, hI2⟩ := idx_go doubleP l
    simp (config := {dsimp := false}) only [↓vp0, vz, vn, nq, tys, cellD, wideIR, if_true, if_false, implies_true, forall_const, ne_eq, reduceIte, reduceCtorEq, Nat.reduceEqDiff, Nat.reduceAdd, Nat.reduceMul, Nat.reduceLT, Nat.reduceSub, Nat.reduceLeDiff, Nat.reduceBNe, Nat.reduceBEq, Nat.reduceBeqDiff, List.range, List.range.loop, gl0, Tryz.ntmps53, Tryz.results53]
    refine loopI {k : Nat // k ≤ l.length ∧ ∀ j, j < k → doubleP (l.getD j default) = false} (fun k => [(8, .int .i64 (k.1 : Nat)), (7, .int .i64 (l.length : Nat)), (0, .sl .no 4 (txsD l)), (1, .fn 22 [])]) (fun _ => ⟨[], [], 16⟩) (fun k => l.length - k.1) ⟨0, by simp⟩ (fun _ => rfl) ?_ ?_
    · exact ⟨⟨wkD_eq rfl, rfl, wkD_eq rfl, rfl, wkD_eq rfl, rfl, wkD_eq rfl, rfl, trivial⟩, trivial, trivial⟩
    rintro ⟨k, hk, hb⟩
    simp (config := {dsimp := false}) only [↓vp0, vz, vn, nq, tys, cellD, wideIR, if_true, if_false, implies_true, forall_const, ne_eq, reduceIte, reduceCtorEq, Nat.reduceEqDiff, Nat.reduceAdd, Nat.reduceMul, Nat.reduceLT, Nat.reduceSub, Nat.reduceLeDiff, Nat.reduceBNe, Nat.reduceBEq, Nat.reduceBeqDiff, List.range, List.range.loop, gl0, Tryz.ntmps53, Tryz.results53]
    refine ⟨fun hh => ?_, fun hh => ?_⟩
    · have hh := of_decide_eq_true hh
      have hk' : k < l.length := by omega
      have g1 := txsD_get l k hk'
      have hx := hok _ (getD_memI hk')
      have hc := tx_okT hx
      have ha := anyT_tx hx.any
      cases hp : doubleP (l.getD k default)
      · have hpw : True := trivial
        simp (config := {dsimp := false}) only [↓vp0, vz, vn, nq, tys, cellD, wideIR, if_true, if_false, implies_true, forall_const, ne_eq, reduceIte, reduceCtorEq, Nat.reduceEqDiff, Nat.reduceAdd, Nat.reduceMul, Nat.reduceLT, Nat.reduceSub, Nat.reduceLeDiff, Nat.reduceBNe, Nat.reduceBEq, Nat.reduceBeqDiff, List.range, List.range.loop, gl0, Tryz.ntmps53, Tryz.results53, PF.toR, givesIf, Int.toNat_natCast, g1, txD, tx_eta, ins_D, outs_D, hp, hpw, spec_double, sp_double, c_double, b_double]
        refine ⟨by omega, by omega, hc, ⟨k + 1, by omega, fun j hj => ?_⟩, ⟨⟨wkD_eq ?_, rfl, wkD_eq rfl, rfl, wkD_eq rfl, rfl, wkD_eq rfl, rfl, trivial⟩, trivial, trivial⟩, by (try simp only); omega⟩
        · rcases Nat.lt_or_ge j k with h7 | h7
          · exact hb j h7
          · obtain rfl : j = k := by omega
            exact hp
        · exact some_i64 (by (try simp only); omega)
      · have hpw : True := trivial
        simp (config := {dsimp := false}) only [↓vp0, vz, vn, nq, tys, cellD, wideIR, if_true, if_false, implies_true, forall_const, ne_eq, reduceIte, reduceCtorEq, Nat.reduceEqDiff, Nat.reduceAdd, Nat.reduceMul, Nat.reduceLT, Nat.reduceSub, Nat.reduceLeDiff, Nat.reduceBNe, Nat.reduceBEq, Nat.reduceBeqDiff, List.range, List.range.loop, gl0, Tryz.ntmps53, Tryz.results53, PF.toR, givesIf, Int.toNat_natCast, g1, txD, tx_eta, ins_D, outs_D, hp, hpw, hI1 k hk' hb hp, spec_double, sp_double, c_double, b_double]
        exact ⟨by omega, by omega, hc⟩
    · have hh := of_decide_eq_false hh
      obtain rfl : k = l.length := by omega
      simp (config := {dsimp := false}) only [↓vp0, vz, vn, nq, tys, cellD, wideIR, if_true, if_false, implies_true, forall_const, ne_eq, reduceIte, reduceCtorEq, Nat.reduceEqDiff, Nat.reduceAdd, Nat.reduceMul, Nat.reduceLT, Nat.reduceSub, Nat.reduceLeDiff, Nat.reduceBNe, Nat.reduceBEq, Nat.reduceBeqDiff, List.range, List.range.loop, gl0, Tryz.ntmps53, Tryz.results53, givesIf, hI2 hb]
      all_goals rfl
  · have hpr : predOf 9 22 24 44 24 = badP := rfl
    rw [hpr]
    obtain ⟨hI1, hI2⟩ := idx_go badP l
    simp (config := {dsimp := false}) only [↓vp0, vz, vn, nq, tys, cellD, wideIR, if_true, if_false, implies_true, forall_const, ne_eq, reduceIte, reduceCtorEq, Nat.reduceEqDiff, Nat.reduceAdd, Nat.reduceMul, Nat.reduceLT, Nat.reduceSub, Nat.reduceLeDiff, Nat.reduceBNe, Nat.reduceBEq, Nat.reduceBeqDiff, List.range, List.range.loop, gl0, Tryz.ntmps53, Tryz.results53]
    refine loopI {k : Nat // k ≤ l.length ∧ ∀ j, j < k → badP (l.getD j default) = false} (fun k => [(8, .int .i64 (k.1 : Nat)), (7, .int .i64 (l.length : Nat)), (0, .sl .no 4 (txsD l)), (1, .fn 24 [])]) (fun _ => ⟨[], [], 16⟩) (fun k => l.length - k.1) ⟨0, by simp⟩ (fun _ => rfl) ?_ ?_
    · exact ⟨⟨wkD_eq rfl, rfl, wkD_eq rfl, rfl, wkD_eq rfl, rfl, wkD_eq rfl, rfl, trivial⟩, trivial, trivial⟩
    rintro ⟨k, hk, hb⟩
    simp (config := {dsimp := false}) only [↓vp0, vz, vn, nq, tys, cellD, wideIR, if_true, if_false, implies_true, forall_const, ne_eq, reduceIte, reduceCtorEq, Nat.reduceEqDiff, Nat.reduceAdd, Nat.reduceMul, Nat.reduceLT, Nat.reduceSub, Nat.reduceLeDiff, Nat.reduceBNe, Nat.reduceBEq, Nat.reduceBeqDiff, List.range, List.range.loop, gl0, Tryz.ntmps53, Tryz.results53]
    refine ⟨fun hh => ?_, fun hh => ?_⟩
    · have hh := of_decide_eq_true hh
      have hk' : k < l.length := by omega
      have g1 := txsD_get l k hk'
      have hx := hok _ (getD_memI hk')
      have hc := tx_okT hx
      have ha := anyT_tx hx.any
      cases hp : badP (l.getD k default)
      · have hpw : True := trivial
        simp (config := {dsimp := false}) only [↓vp0, vz, vn, nq, tys, cellD, wideIR, if_true, if_false, implies_true, forall_const, ne_eq, reduceIte, reduceCtorEq, Nat.reduceEqDiff, Nat.reduceAdd, Nat.reduceMul, Nat.reduceLT, Nat.reduceSub, Nat.reduceLeDiff, Nat.reduceBNe, Nat.reduceBEq, Nat.reduceBeqDiff, List.range, List.range.loop, gl0, Tryz.ntmps53, Tryz.results53, PF.toR, givesIf, Int.toNat_natCast, g1, txD, tx_eta, ins_D, outs_D, hp, hpw, spec_cval, sp_cval, c_cval, b_cval]
        refine ⟨by omega, by omega, ha, ⟨k + 1, by omega, fun j hj => ?_⟩, ⟨⟨wkD_eq ?_, rfl, wkD_eq rfl, rfl, wkD_eq rfl, rfl, wkD_eq rfl, rfl, trivial⟩, trivial, trivial⟩, by (try simp only); omega⟩
        · rcases Nat.lt_or_ge j k with h7 | h7
          · exact hb j h7
          · obtain rfl : j = k := by omega
            exact hp
        · exact some_i64 (by (try simp only); omega)
      · have hpw : True := trivial
        simp (config := {dsimp := false}) only [↓vp0, vz, vn, nq, tys, cellD, wideIR, if_true, if_false, implies_true, forall_const, ne_eq, reduceIte, reduceCtorEq, Nat.reduceEqDiff, Nat.reduceAdd, Nat.reduceMul, Nat.reduceLT, Nat.reduceSub, Nat.reduceLeDiff, Nat.reduceBNe, Nat.reduceBEq, Nat.reduceBeqDiff, List.range, List.range.loop, gl0, Tryz.ntmps53, Tryz.results53, PF.toR, givesIf, Int.toNat_natCast, g1, txD, tx_eta, ins_D, outs_D, hp, hpw, hI1 k hk' hb hp, spec_cval, sp_cval, c_cval, b_cval]
        exact ⟨by omega, by omega, ha⟩
    · have hh := of_decide_eq_false hh
      obtain rfl : k = l.length := by omega
      simp (config := {dsimp := false}) only [↓vp0, vz, vn, nq, tys, cellD, wideIR, if_true, if_false, implies_true, forall_const, ne_eq, reduceIte, reduceCtorEq, Nat.reduceEqDiff, Nat.reduceAdd, Nat.reduceMul, Nat.reduceLT, Nat.reduceSub, Nat.reduceLeDiff, Nat.reduceBNe, Nat.reduceBEq, Nat.reduceBeqDiff, List.range, List.range.loop, gl0, Tryz.ntmps53, Tryz.results53, givesIf, hI2 hb]
      all_goals rfl
  · have hpr : predOf 9 22 24 44 44 = witnessedP := rfl
    rw [hpr]
    obtain ⟨hI1, hI2⟩ := idx_go witnessedP l
    simp (config := {dsimp := false}) only [↓vp0, vz, vn, nq, tys, cellD, wideIR, if_true, if_false, implies_true, forall_const, ne_eq, reduceIte, reduceCtorEq, Nat.reduceEqDiff, Nat.reduceAdd, Nat.reduceMul, Nat.reduceLT, Nat.reduceSub, Nat.reduceLeDiff, Nat.reduceBNe, Nat.reduceBEq, Nat.reduceBeqDiff, List.range, List.range.loop, gl0, Tryz.ntmps53, Tryz.results53]
    refine loopI {k : Nat // k ≤ l.length ∧ ∀ j, j < k → witnessedP (l.getD j default) = false} (fun k => [(8, .int .i64 (k.1 : Nat)), (7, .int .i64 (l.length : Nat)), (0, .sl .no 4 (txsD l)), (1, .fn 44 [])]) (fun _ => ⟨[], [], 16⟩) (fun k => l.length - k.1) ⟨0, by simp⟩ (fun _ => rfl) ?_ ?_
    · exact ⟨⟨wkD_eq rfl, rfl, wkD_eq rfl, rfl, wkD_eq rfl, rfl, wkD_eq rfl, rfl, trivial⟩, trivial, trivial⟩
    rintro ⟨k, hk, hb⟩
    simp (config := {dsimp := false}) only [↓vp0, vz, vn, nq, tys, cellD, wideIR, if_true, if_false, implies_true, forall_const, ne_eq, reduceIte, reduceCtorEq, Nat.reduceEqDiff, Nat.reduceAdd, Nat.reduceMul, Nat.reduceLT, Nat.reduceSub, Nat.reduceLeDiff, Nat.reduceBNe, Nat.reduceBEq, Nat.reduceBeqDiff, List.range, List.range.loop, gl0, Tryz.ntmps53, Tryz.results53]
    refine ⟨fun hh => ?_, fun hh => ?_⟩
    · have hh := of_decide_eq_true hh
      have hk' : k < l.length := by omega
      have g1 := txsD_get l k hk'
      have hx := hok _ (getD_memI hk')
      have hc := tx_okT hx
      have ha := anyT_tx hx.any
      cases hp : witnessedP (l.getD k default)
      · have hpw : (l.getD k default).ins.any hasWit = false := hp
        simp (config := {dsimp := false}) only [↓vp0, vz, vn, nq, tys, cellD, wideIR, if_true, if_false, implies_true, forall_const, ne_eq, reduceIte, reduceCtorEq, Nat.reduceEqDiff, Nat.reduceAdd, Nat.reduceMul, Nat.reduceLT, Nat.reduceSub, Nat.reduceLeDiff, Nat.reduceBNe, Nat.reduceBEq, Nat.reduceBeqDiff, List.range, List.range.loop, gl0, Tryz.ntmps53, Tryz.results53, PF.toR, givesIf, Int.toNat_natCast, g1, txD, tx_eta, ins_D, outs_D, hp, hpw, spec_twitnessed, sp_twitnessed, c_twitnessed, b_twitnessed]
        refine ⟨by omega, by omega, hc, ⟨k + 1, by omega, fun j hj => ?_⟩, ⟨⟨wkD_eq ?_, rfl, wkD_eq rfl, rfl, wkD_eq rfl, rfl, wkD_eq rfl, rfl, trivial⟩, trivial, trivial⟩, by (try simp only); omega⟩
        · rcases Nat.lt_or_ge j k with h7 | h7
          · exact hb j h7
          · obtain rfl : j = k := by omega
            exact hp
        · exact some_i64 (by (try simp only); omega)
      · have hpw : (l.getD k default).ins.any hasWit = true := hp
        simp (config := {dsimp := false}) only [↓vp0, vz, vn, nq, tys, cellD, wideIR, if_true, if_false, implies_true, forall_const, ne_eq, reduceIte, reduceCtorEq, Nat.reduceEqDiff, Nat.reduceAdd, Nat.reduceMul, Nat.reduceLT, Nat.reduceSub, Nat.reduceLeDiff, Nat.reduceBNe, Nat.reduceBEq, Nat.reduceBeqDiff, List.range, List.range.loop, gl0, Tryz.ntmps53, Tryz.results53, PF.toR, givesIf, Int.toNat_natCast, g1, txD, tx_eta, ins_D, outs_D, hp, hpw, hI1 k hk' hb hp, spec_twitnessed, sp_twitnessed, c_twitnessed, b_twitnessed]
        exact ⟨by omega, by omega, hc⟩
    · have hh := of_decide_eq_false hh
      obtain rfl : k = l.length := by omega
      simp (config := {dsimp := false}) only [↓vp0, vz, vn, nq, tys, cellD, wideIR, if_true, if_false, implies_true, forall_const, ne_eq, reduceIte, reduceCtorEq, Nat.reduceEqDiff, Nat.reduceAdd, Nat.reduceMul, Nat.reduceLT, Nat.reduceSub, Nat.reduceLeDiff, Nat.reduceBNe, Nat.reduceBEq, Nat.reduceBeqDiff, List.range, List.range.loop, gl0, Tryz.ntmps53, Tryz.results53, givesIf, hI2 hb]
      all_goals rfl
theorem c_containsTx : Contract E 38 := by
  refine contract_seeT hE hgl (show E.P.funcs[38]? = some Tryz.f38 from Tryz.func38) rfl (p := (sp_containsTx 9 22 24 44)) (fun _ _ _ => rfl) ?_
  intro args hv
  unfold sp_containsTx at hv ⊢
  split at hv
  case h_2 => exact hv.elim
  rename_i es h
  refine ⟨by simp, Nat.le_of_ble_eq_true rfl, ?_⟩
  simp only [givesIf] at hv
  obtain ⟨hp, l, rfl, hok, hl⟩ := hv
  simp (config := {dsimp := false}) only [↓vp0, vz, vn, nq, tys, cellD, wideIR, if_true, if_false, implies_true, forall_const, ne_eq, reduceIte, reduceCtorEq, Nat.reduceEqDiff, Nat.reduceAdd, Nat.reduceMul, Nat.reduceLT, Nat.reduceSub, Nat.reduceLeDiff, Nat.reduceBNe, Nat.reduceBEq, Nat.reduceBeqDiff, List.range, List.range.loop, gl0, Tryz.ntmps38, Tryz.results38, PF.toR, givesIf, txs_D, idx_any, spec_indexTx, sp_indexTx, c_indexTx, b_indexTx]
  exact ⟨hp, _, rfl, hok, hl⟩
theorem c_none : Contract E 21 := by
  refine contract_seeT hE hgl (show E.P.funcs[21]? = some Tryz.f21 from Tryz.func21) rfl (p := (sp_none 9 22 24 44)) (fun _ _ _ => rfl) ?_
  intro args hv
  unfold sp_none at hv ⊢
  split at hv
  case h_2 => exact hv.elim
  rename_i es h
  refine ⟨by simp, Nat.le_of_ble_eq_true rfl, ?_⟩
  simp only [givesIf] at hv
  obtain ⟨hp, l, rfl, hok, hl⟩ := hv
  simp (config := {dsimp := false}) only [↓vp0, vz, vn, nq, tys, cellD, wideIR, if_true, if_false, implies_true, forall_const, ne_eq, reduceIte, reduceCtorEq, Nat.reduceEqDiff, Nat.reduceAdd, Nat.reduceMul, Nat.reduceLT, Nat.reduceSub, Nat.reduceLeDiff, Nat.reduceBNe, Nat.reduceBEq, Nat.reduceBeqDiff, List.range, List.range.loop, gl0, Tryz.ntmps21, Tryz.results21, PF.toR, givesIf, txs_D, spec_containsTx, sp_containsTx, c_containsTx, b_containsTx]
  exact ⟨hp, _, rfl, hok, hl⟩
end Go.Vi.CZ
end

section
set_option linter.unusedVariables false
set_option linter.unusedSimpArgs false
namespace Go.Proofs
open Go.RowKit Go.Shelf
attribute [local go_sem] Oper.semAt_some

set_option maxRecDepth 100000 in
set_option maxHeartbeats 2000000 in
theorem Tryz.chunk1_in (F : Fence) (n : Nat) (h60 : F.fn 80) (hro : F.round = none) (hn : 1 ≤ n) (l B0 B1 o1 B2 o2 b off len cap : Nat) (Kp : World → World → Prop) (hlen : len ≤ cap) (hb : len < 1000000000) (J Jx : List Nat → World → Prop)
    (hK1 : ∀ A B, Kp A B → B.cell? ⟨B1, o1, none⟩ = A.cell? ⟨B1, o1, none⟩) (hK2 : ∀ A B, Kp A B → B.cell? ⟨B2, o2, none⟩ = A.cell? ⟨B2, o2, none⟩)
    (hJ : AbidesFrom B0 J)
    (hY : ∀ pre i W, J pre W → pre.length = i → 2 * i < len → YieldAt F (n - 1) Tryz.prog l #[.slice (some ⟨b, off + 2 * i * 32, none⟩) (if 2 * i + 2 ≤ len then 2 else 1) (if 2 * i + 2 ≤ len then 2 else 1)] W fun e W' =>
      (e = .returned (.bool true) ∧ J (pre ++ [i]) W' ∧ Kp W W') ∨ (e = .returned (.bool false) ∧ Jx (pre ++ [i]) W'))
    (W : World) (h1 : W.cell? ⟨B1, o1, none⟩ = some (.slice (some ⟨b, off, none⟩) len cap)) (h2 : W.cell? ⟨B2, o2, none⟩ = some (.int .i64 2)) (h0 : J [] W) :
    CallsIn F n Tryz.prog 80 #[.func (.yield l) #[] #[], .pointer (some ⟨B1, o1, none⟩), .pointer (some ⟨B2, o2, none⟩)] W fun e W' => (∃ v, e = .returned v) ∧
      ((∃ k, (len ≤ 2 * k ∧ 2 * k < len + 2) ∧ J (List.range k) W') ∨ (∃ pre, Jx pre W')) := by
  refine callsIn_of_wp Tryz.func80 rfl h60 ?_ hro
  simp only [Tryz.ntmps80, List.size_toArray, List.length_cons, List.length_nil, Nat.reduceAdd, Nat.reduceSub, Array.replicate_succ, Array.replicate_zero, List.push_toArray, List.append_toArray, List.nil_append, List.cons_append]
  gi_wp2
  gi_loopw [4] (fun i wr => ∃ k : Nat, 2 * k < len + 2 ∧ i = .int .i64 (2 * k : Int) ∧ J (List.range k) wr ∧ wr.cell? ⟨B1, o1, none⟩ = some (.slice (some ⟨b, off, none⟩) len cap) ∧ wr.cell? ⟨B2, o2, none⟩ = some (.int .i64 2))
    (fun i _ => len + 2 - (intOf i).toNat)
  case atStart => exact ⟨0, by omega, rfl, h0, h1, h2⟩
  case round =>
    obtain ⟨k, hk, rfl, hJs, hc1, hc2⟩ := hrel
    by_cases hlt : 2 * k < len
    · have hD : J (List.range k) wr.drew := hJ _ _ _ none hJs ⟨rfl, rfl, rfl, Nat.le_refl _, fun _ _ _ => rfl⟩ (fun r e => by cases e)
      have hcD1 : wr.drew.cell? ⟨B1, o1, none⟩ = some (.slice (some ⟨b, off, none⟩) len cap) := hc1
      have hcD2 : wr.drew.cell? ⟨B2, o2, none⟩ = some (.int .i64 2) := hc2
      by_cases h2 : 2 * k + 2 ≤ len
      · obtain ⟨fn, tmps, assign, body, hy, hR⟩ := hY _ k wr.drew hD (by simp) hlt
        simp only [if_pos h2] at hy
        gi_wp2
        refine wpIn_mono (Q := fun e a w' => e = .normal ∧ (∃ u6 u7 u8 u9 u10 u11 u12 u13 u14 u15 u16 u17 u18 u19 u20 u21 u22 u23 u24 u25 u26 u27 u28 u29 u30, a = { tmps := #[Value.func (Fn.yield l) #[] #[], Value.pointer (some ⟨B1, o1, none⟩), Value.pointer (some ⟨B2, o2, none⟩), undef, Value.int IntKind.i64 (2 * (k : Int)), Value.int IntKind.i64 2, u6, u7, u8, u9, u10, u11, u12, u13, u14, u15, u16, u17, u18, u19, u20, u21, u22, u23, u24, u25, u26, u27, u28, u29, u30], defers := [] }) ∧ w' = wr.drew) ?_ ?_
        · gi_region
          all_goals rw [if_neg (by omega)]
          
          all_goals exact ⟨rfl, ⟨_, _, _, _, _, _, _, _, _, _, _, _, _, _, _, _, _, _, _, _, _, _, _, _, _, rfl⟩, rfl⟩
        rintro e a w' ⟨rfl, ⟨u6, u7, u8, u9, u10, u11, u12, u13, u14, u15, u16, u17, u18, u19, u20, u21, u22, u23, u24, u25, u26, u27, u28, u29, u30, rfl⟩, rfl⟩
        gi_wp2
        refine hR.mono ?_
        rintro e W3 (⟨rfl, hJ3, hk3⟩ | ⟨rfl, hJx3⟩)
        · have hd1 : W3.cell? ⟨B1, o1, none⟩ = some (.slice (some ⟨b, off, none⟩) len cap) := (hK1 _ _ hk3).trans hc1
          have hd2 : W3.cell? ⟨B2, o2, none⟩ = some (.int .i64 2) := (hK2 _ _ hk3).trans hc2
          gi_wp2
          go_roundw
          case rel => exact ⟨k + 1, by omega, by simp; omega, by rw [List.range_succ]; exact hJ3, hd1, hd2⟩
          case measure => simp [intOf]; omega
        · gi_wp2
          refine bodyPost_ret (results_none rfl _ _ _) rfl ?_
          exact ⟨⟨_, rfl⟩, .inr ⟨_, hJx3⟩⟩
      · obtain ⟨fn, tmps, assign, body, hy, hR⟩ := hY _ k wr.drew hD (by simp) hlt
        simp only [if_neg h2] at hy
        gi_wp2
        refine wpIn_mono (Q := fun e a w' => e = .normal ∧ (∃ u6 u7 u8 u9 u10 u11 u12 u13 u14 u15 u16 u17 u18 u19 u20 u21 u22 u23 u24 u25 u26 u27 u28 u29 u30, a = { tmps := #[Value.func (Fn.yield l) #[] #[], Value.pointer (some ⟨B1, o1, none⟩), Value.pointer (some ⟨B2, o2, none⟩), undef, Value.int IntKind.i64 (2 * (k : Int)), Value.int IntKind.i64 1, u6, u7, u8, u9, u10, u11, u12, u13, u14, u15, u16, u17, u18, u19, u20, u21, u22, u23, u24, u25, u26, u27, u28, u29, u30], defers := [] }) ∧ w' = wr.drew) ?_ ?_
        · gi_region
          all_goals rw [if_pos (by omega)]
          all_goals rw [show ((len - 2 * k : Nat) : Int) = 1 by omega]
          all_goals exact ⟨rfl, ⟨_, _, _, _, _, _, _, _, _, _, _, _, _, _, _, _, _, _, _, _, _, _, _, _, _, rfl⟩, rfl⟩
        rintro e a w' ⟨rfl, ⟨u6, u7, u8, u9, u10, u11, u12, u13, u14, u15, u16, u17, u18, u19, u20, u21, u22, u23, u24, u25, u26, u27, u28, u29, u30, rfl⟩, rfl⟩
        gi_wp2
        refine hR.mono ?_
        rintro e W3 (⟨rfl, hJ3, hk3⟩ | ⟨rfl, hJx3⟩)
        · have hd1 : W3.cell? ⟨B1, o1, none⟩ = some (.slice (some ⟨b, off, none⟩) len cap) := (hK1 _ _ hk3).trans hc1
          have hd2 : W3.cell? ⟨B2, o2, none⟩ = some (.int .i64 2) := (hK2 _ _ hk3).trans hc2
          gi_wp2
          go_roundw
          case rel => exact ⟨k + 1, by omega, by simp; omega, by rw [List.range_succ]; exact hJ3, hd1, hd2⟩
          case measure => simp [intOf]; omega
        · gi_wp2
          refine bodyPost_ret (results_none rfl _ _ _) rfl ?_
          exact ⟨⟨_, rfl⟩, .inr ⟨_, hJx3⟩⟩
    · gi_wp2
      go_end0
      exact ⟨⟨_, rfl⟩, .inl ⟨k, ⟨by omega, hk⟩, hJs⟩⟩
end Go.Proofs
end

section
set_option linter.unusedVariables false
namespace Go.Vi
open Go.Proofs Go.RowKit

theorem at_partC {w : World} {b off : Nat} {cs : List Value} (h : At w b off cs) (i n : Nat) : At w b (off + i) ((cs.take n).drop i) := by
  intro j v hv
  rw [List.getElem?_drop, List.getElem?_take] at hv
  split at hv
  · have := h (i + j) v hv
    rwa [← Nat.add_assoc] at this
  · cases hv

def chunkEl (es : List D) (i : Nat) : D := .sl .full 32 ((es.take (2 * i + 2)).drop (2 * i))

theorem iter_chunk {E : Env} (hP : E.P = Tryz.prog) (es : List D) (h0 : es ≠ []) (hb : es.length < 1000000000) : Iter E 80 [.ip (.sl .no 32 es) 0, .ip (.int .i64 2) 0] (m := (es.length + 1) / 2) (fun i => [chunkEl es i.1]) := by
  refine ⟨by rw [hP, Tryz.func80]; simp, fun g w vs n hn hl hr => ?_⟩
  obtain ⟨c1, c2, rfl, ⟨B1, o1, vs1, rfl, ⟨a, c, vsE, rfl, hc, hes, hrow, _⟩, hl1, ha1⟩, ⟨c3, c4, rfl, ⟨B2, o2, vs2, rfl, h2, hl2, ha2⟩, h4⟩⟩ := hr
  have h2 : vs2 = [.int .i64 2] := h2
  subst h2
  have h4 : c4 = [] := h4
  subst h4
  have hlen := es_length es hes
  have hpos : 0 < es.length := List.length_pos_iff.2 h0
  obtain ⟨b, off, rfl, hlb, hat⟩ := hrow (by intro e; subst e; simp at hlen; exact h0 (List.eq_nil_of_length_eq_zero (by omega)))
  have k1 : w.cell? ⟨B1, o1, none⟩ = some (.slice (some ⟨b, off, none⟩) es.length c) := ha1 0 _ rfl
  have k2 : w.cell? ⟨B2, o2, none⟩ = some (.int .i64 2) := ha2 0 _ rfl
  have hB1 : B1 < w.heap.size := by
    rcases Nat.lt_or_ge B1 w.heap.size with h | h
    · exact h
    · rw [hl B1 h] at hl1; simp at hl1
  have hB2 : B2 < w.heap.size := by
    rcases Nat.lt_or_ge B2 w.heap.size with h | h
    · exact h
    · rw [hl B2 h] at hl2; simp at hl2
  refine ⟨fun args w => (by rw [hP]; exact enters_of Tryz.func80 (by kernel_rfl) rfl args w), fun i => #[.slice (some ⟨b, off + 2 * i.1 * 32, none⟩) (if 2 * i.1 + 2 ≤ es.length then 2 else 1) (if 2 * i.1 + 2 ≤ es.length then 2 else 1)], fun i => ?_, ?_⟩
  · have hil : 2 * i.1 < es.length := by have := i.2; omega
    have hcl : ((es.take (2 * i.1 + 2)).drop (2 * i.1)).length = if 2 * i.1 + 2 ≤ es.length then 2 else 1 := by
      simp only [List.length_drop, List.length_take]
      split <;> omega
    refine ⟨_, [], rfl, ?_, rfl⟩
    show RepC g w (chunkEl es i.1) _
    unfold chunkEl
    refine ⟨some ⟨b, off + 2 * i.1 * 32, none⟩, (if 2 * i.1 + 2 ≤ es.length then 2 else 1), ((vsE.take ((2 * i.1 + 2) * 32)).drop (2 * i.1 * 32)), by rw [hcl], by rw [hcl]; exact Nat.le_refl _, es_part es (2 * i.1) (2 * i.1 + 2) hes, fun _ => ⟨b, _, rfl, ?_, at_partC hat _ _⟩, by simp only [OwnOk]; exact hcl.symm⟩
    have e1 := hlen
    have hlb2 : off + vsE.length ≤ g.lim b := hlb
    simp only [List.length_drop, List.length_take]
    omega
  · intro l J Jx W hW hJ hJx hY hJ0
    have kW1 : W.cell? ⟨B1, o1, none⟩ = some (.slice (some ⟨b, off, none⟩) es.length c) := (hW.cell (p := ⟨B1, o1, none⟩) hB1).trans k1
    have kW2 : W.cell? ⟨B2, o2, none⟩ = some (.int .i64 2) := (hW.cell (p := ⟨B2, o2, none⟩) hB2).trans k2
    let up : List Nat → List (Fin ((es.length + 1) / 2)) := fun l => l.filterMap fun i => if h : i < (es.length + 1) / 2 then some ⟨i, h⟩ else none
    have up_snoc : ∀ l i (h : i < (es.length + 1) / 2), up (l ++ [i]) = up l ++ [⟨i, h⟩] := fun l i h => by simp [up, h]
    rw [hP] at hY ⊢
    refine (Tryz.chunk1_in (FR none) n trivial rfl hn l W.heap.size B1 o1 B2 o2 b off es.length c (KpOf g w) hc hb (fun l W => (∀ i ∈ l, i < (es.length + 1) / 2) ∧ J (up l) W) (fun l W => Jx (up l) W)
      (fun A B h => h B1 o1 hB1 (by simp at hl1; omega)) (fun A B h => h B2 o2 hB2 (by simp at hl2; omega))
      (fun s A B row hs hg hr => ⟨hs.1, hJ _ A B row hs.2 hg hr⟩) ?_ W kW1 kW2 ⟨by simp, hJ0⟩).mono ?_
    · rintro pre i W1 ⟨hp, hj⟩ hpi hi
      have hlt : i < (es.length + 1) / 2 := by omega
      have hul : (up pre).length = pre.length := by
        have : ∀ l : List Nat, (∀ i ∈ l, i < (es.length + 1) / 2) → (up l).length = l.length := by
          intro l
          induction l with
          | nil => intro _; rfl
          | cons x r ih =>
            intro h
            have hx := h x (List.mem_cons_self ..)
            have := ih fun i hi => h i (List.mem_cons_of_mem _ hi)
            simp only [up, List.filterMap_cons, hx, dif_pos, List.length_cons]
            exact congrArg (· + 1) this
        exact this pre hp
      have := hY (up pre) ⟨i, hlt⟩ W1 hj (by rw [hul, hpi]; exact hlt)
      obtain ⟨fn, tmps, assign, body, hy, hR⟩ := this
      refine ⟨fn, tmps, assign, body, hy, hR.mono ?_⟩
      rintro e W' (⟨rfl, h1, h2⟩ | ⟨rfl, h1⟩)
      · refine .inl ⟨rfl, ⟨fun j hj => ?_, by rw [up_snoc pre i hlt]; exact h1⟩, h2⟩
        rcases List.mem_append.1 hj with h | h
        · exact hp j h
        · simp at h; subst h; exact hlt
      · exact .inr ⟨rfl, by rw [up_snoc pre i hlt]; exact h1⟩
    · rintro e W' ⟨hv, ⟨k, ⟨hk1, hk2⟩, _, hj⟩ | ⟨pre, hj⟩⟩
      · refine ⟨hv, .inl ⟨_, ?_, hj⟩⟩
        have hk : k = (es.length + 1) / 2 := by omega
        subst hk
        apply List.ext_getElem
        · have : ∀ m, m ≤ (es.length + 1) / 2 → (up (List.range m)).length = m := by
            intro m
            induction m with
            | zero => intro _; rfl
            | succ m ih => intro h; rw [List.range_succ, up_snoc _ m (by omega), List.length_append, ih (by omega)]; rfl
          rw [this _ (Nat.le_refl _)]; simp
        · intro j h1 h2
          have : ∀ m, m ≤ (es.length + 1) / 2 → ∀ j (hj : j < m) (hx : j < (es.length + 1) / 2), (up (List.range m))[j]? = some ⟨j, hx⟩ := by
            intro m
            induction m with
            | zero => intro _ j hj; omega
            | succ m ih =>
              intro h j hj hx
              have hlen' : (up (List.range m)).length = m := by
                clear ih hj hx
                have : ∀ m, m ≤ (es.length + 1) / 2 → (up (List.range m)).length = m := by
                  intro m
                  induction m with
                  | zero => intro _; rfl
                  | succ m ih => intro h; rw [List.range_succ, up_snoc _ m (by omega), List.length_append, ih (by omega)]; rfl
                exact this m (by omega)
              rw [List.range_succ, up_snoc _ m (by omega)]
              rcases Nat.lt_or_ge j m with h' | h'
              · rw [List.getElem?_append_left (by omega)]
                exact ih (by omega) j h' hx
              · obtain rfl : j = m := by omega
                rw [List.getElem?_append_right (by omega), hlen']
                simp
          have hx : j < (es.length + 1) / 2 := by simpa using h2
          have := this _ (Nat.le_refl _) j hx hx
          rw [List.getElem?_eq_getElem h1] at this
          simp at this
          rw [this]
          simp
      · exact ⟨hv, .inr ⟨_, trivial, hj⟩⟩
end Go.Vi
end

section
set_option linter.unusedVariables false
set_option linter.unusedSimpArgs false
namespace Go.Proofs
open Go.RowKit Go.Shelf
attribute [local go_sem] Oper.semAt_some

set_option maxRecDepth 100000 in
set_option maxHeartbeats 2000000 in
theorem Tryz.back1_in (F : Fence) (n : Nat) (h52 : F.fn 81) (hro : F.round = none) (hn : 1 ≤ n) (l B1 o1 b off len cap : Nat) (a : Option Addr) (c0 c1 : Nat → Value) (Kp : World → World → Prop) (hlen : len ≤ cap) (hb : len < 1000000000) (hsome : len ≠ 0 → a = some ⟨b, off, none⟩) (J Jx : List Nat → World → Prop)
    (hK1 : ∀ A B, Kp A B → B.cell? ⟨B1, o1, none⟩ = A.cell? ⟨B1, o1, none⟩) (hK2 : ∀ A B, Kp A B → ∀ j, j < 2 * len → B.cell? ⟨b, off + j, none⟩ = A.cell? ⟨b, off + j, none⟩)
    (hY : ∀ pre i W, J pre W → pre.length + 1 + i = len → YieldAt F (n - 1) Tryz.prog l #[.int .i64 (i : Nat), .agg #[c0 i, c1 i]] W fun e W' =>
      (e = .returned (.bool true) ∧ J (pre ++ [i]) W' ∧ Kp W W') ∨ (e = .returned (.bool false) ∧ Jx (pre ++ [i]) W'))
    (W : World) (h1 : W.cell? ⟨B1, o1, none⟩ = some (.slice a len cap)) (hc : ∀ i, i < len → W.cell? ⟨b, off + i * 2, none⟩ = some (c0 i) ∧ W.cell? ⟨b, off + i * 2 + 1, none⟩ = some (c1 i)) (h0 : J [] W) :
    CallsIn F n Tryz.prog 81 #[.func (.yield l) #[] #[], .pointer (some ⟨B1, o1, none⟩)] W fun e W' => (∃ v, e = .returned v) ∧
      (J ((List.range len).reverse) W' ∨ (∃ k, k < len ∧ Jx (((List.range len).drop k).reverse) W')) := by
  refine callsIn_of_wp Tryz.func81 rfl h52 ?_ hro
  simp only [Tryz.ntmps81, List.size_toArray, List.length_cons, List.length_nil, Nat.reduceAdd, Nat.reduceSub, Array.replicate_succ, Array.replicate_zero, List.push_toArray, List.append_toArray, List.nil_append, List.cons_append]
  gi_wp2
  gi_loopw [3] (fun i wr => ∃ k : Nat, k ≤ len ∧ i = .int .i64 ((k : Int) - 1) ∧ J (((List.range len).drop k).reverse) wr ∧ wr.cell? ⟨B1, o1, none⟩ = some (.slice a len cap) ∧ (∀ i, i < len → wr.cell? ⟨b, off + i * 2, none⟩ = some (c0 i) ∧ wr.cell? ⟨b, off + i * 2 + 1, none⟩ = some (c1 i)))
    (fun i _ => (intOf i + 1).toNat)
  case atStart => exact ⟨len, Nat.le_refl _, rfl, by rw [List.drop_of_length_le (by simp)]; exact h0, h1, hc⟩
  case round =>
    obtain ⟨k, hk, rfl, hJs, hc1, hcc⟩ := hrel
    cases k with
    | zero =>
      gi_wp2
      go_end0
      exact ⟨⟨_, rfl⟩, .inl (by simpa using hJs)⟩
    | succ k =>
      have ha := hsome (by omega)
      subst ha
      have hd : ((List.range len).drop k).reverse = ((List.range len).drop (k + 1)).reverse ++ [k] := by
        have : (List.range len).drop k = k :: (List.range len).drop (k + 1) := by
          rw [List.drop_eq_getElem_cons (by simp; omega)]
          simp
        rw [this, List.reverse_cons]
      obtain ⟨fn, tmps, assign, body, hy, hR⟩ := hY _ k wr hJs (by simp; omega)
      obtain ⟨hx0, hx1⟩ := hcc k (by omega)
      have hi : ((k + 1 : Nat) : Int) - 1 = (k : Int) := by omega
      rw [hi]
      gi_wp2
      refine hR.mono ?_
      rintro e W3 (⟨rfl, hJ3, hk3⟩ | ⟨rfl, hJx3⟩)
      · have hd1 : W3.cell? ⟨B1, o1, none⟩ = some (.slice (some ⟨b, off, none⟩) len cap) := (hK1 _ _ hk3).trans hc1
        have hcc3 : ∀ i, i < len → W3.cell? ⟨b, off + i * 2, none⟩ = some (c0 i) ∧ W3.cell? ⟨b, off + i * 2 + 1, none⟩ = some (c1 i) := fun i hi =>
          ⟨(hK2 _ _ hk3 (i * 2) (by omega)).trans (hcc i hi).1, (hK2 _ _ hk3 (i * 2 + 1) (by omega)).trans (hcc i hi).2⟩
        gi_wp2
        go_roundw
        case rel => exact ⟨k, by omega, rfl, by rw [hd]; exact hJ3, hd1, hcc3⟩
        case measure => simp [intOf]
      · gi_wp2
        refine bodyPost_ret (results_none rfl _ _ _) rfl ?_
        exact ⟨⟨_, rfl⟩, .inr ⟨k, by omega, by rw [hd]; exact hJx3⟩⟩
end Go.Proofs
namespace Go.Vi.CZ
open Go.Proofs Go.RowKit
def upB (m : Nat) (l : List Nat) : List (Fin m) := l.filterMap fun i => if h : i < m then some ⟨m - 1 - i, by omega⟩ else none
theorem upB_snoc {m : Nat} (l : List Nat) (i : Nat) (h : i < m) : upB m (l ++ [i]) = upB m l ++ [⟨m - 1 - i, by omega⟩] := by simp [upB, h]
theorem upB_drop {m : Nat} : ∀ (d k : Nat), k + d = m → upB m (((List.range m).drop k).reverse) = (List.finRange m).take d
  | 0, k, h => by
    obtain rfl : k = m := by omega
    rw [List.drop_of_length_le (by simp)]; rfl
  | d + 1, k, h => by
    have hk : k < m := by omega
    have hd : ((List.range m).drop k).reverse = ((List.range m).drop (k + 1)).reverse ++ [k] := by
      have : (List.range m).drop k = k :: (List.range m).drop (k + 1) := by
        rw [List.drop_eq_getElem_cons (by simp; omega)]
        simp
      rw [this, List.reverse_cons]
    rw [hd, upB_snoc _ k hk, upB_drop d (k + 1) (by omega), List.take_add_one]
    congr 1
    have hdm : d < m := by omega
    simp [hdm]
    omega
theorem iter_back (l : List OutP) (hb : l.length < 1000000000) : IterP E 81 [.ip (.sl .no 2 (outsD l)) 0] (m := l.length) (fun i => [.int .i64 ((l.length - 1 - i.1 : Nat) : Int), outD (l.getD (l.length - 1 - i.1) default)]) := by
  refine ⟨by rw [show E.P = Tryz.prog from rfl, Tryz.func81]; simp, fun g w vs n hn hl hr => ?_⟩
  obtain ⟨c1, c2, rfl, ⟨B1, o1, vs1, rfl, ⟨a, c, vsE, rfl, hc, hes, hrow, _⟩, hl1, ha1⟩, h4⟩ := hr
  have h4 : c2 = [] := h4
  subst h4
  have hlen := es_length (outsD l) hes
  rw [outsD_length] at hlen hc
  have hsome : ∃ b off, (l.length ≠ 0 → a = some ⟨b, off, none⟩) ∧ (l.length ≠ 0 → off + vsE.length ≤ g.lim b ∧ At w b off vsE) := by
    by_cases h0 : l.length = 0
    · exact ⟨0, 0, fun h => absurd h0 h, fun h => absurd h0 h⟩
    · obtain ⟨b, off, e, h1, h2⟩ := hrow (by intro e; subst e; simp at hlen; omega)
      exact ⟨b, off, fun _ => e, fun _ => ⟨h1, h2⟩⟩
  obtain ⟨b, off, hs1, hs2⟩ := hsome
  have k1 : w.cell? ⟨B1, o1, none⟩ = some (.slice a l.length c) := by
    have := ha1 0 _ rfl
    rw [outsD_length] at this
    exact this
  have hB1 : B1 < w.heap.size := by
    rcases Nat.lt_or_ge B1 w.heap.size with h | h
    · exact h
    · rw [hl B1 h] at hl1; simp at hl1
  have hB : l.length ≠ 0 → b < w.heap.size := fun h0 => by
    obtain ⟨h1, h2⟩ := hs2 h0
    rcases Nat.lt_or_ge b w.heap.size with h | h
    · exact h
    · rw [hl b h] at h1; omega
  let c0 : Nat → Value := fun i => vsE.getD (i * 2) undef
  let c1 : Nat → Value := fun i => vsE.getD (i * 2 + 1) undef
  have hcel : ∀ i, i < l.length → w.cell? ⟨b, off + i * 2, none⟩ = some (c0 i) ∧ w.cell? ⟨b, off + i * 2 + 1, none⟩ = some (c1 i) := fun i hi => by
    obtain ⟨h1, h2⟩ := hs2 (by omega)
    have q0 : vsE[i * 2]? = some (c0 i) := by simp only [c0, List.getD]; rw [List.getElem?_eq_getElem (by omega)]; rfl
    have q1 : vsE[i * 2 + 1]? = some (c1 i) := by simp only [c1, List.getD]; rw [List.getElem?_eq_getElem (by omega)]; rfl
    exact ⟨h2 _ _ q0, h2 _ _ q1⟩
  refine ⟨fun args w => enters_of Tryz.func81 (by kernel_rfl) rfl args w, fun i => #[.int .i64 ((l.length - 1 - i.1 : Nat) : Int), .agg #[c0 (l.length - 1 - i.1), c1 (l.length - 1 - i.1)]], fun i => ?_, ?_⟩
  · have hil : l.length - 1 - i.1 < l.length := by have := i.2; omega
    obtain ⟨pre, mid, post, e', hpl, hm, hr⟩ := es_at (outsD l) (l.length - 1 - i.1) (by rw [outsD_length]; exact hil) hes
    have he : (outsD l)[l.length - 1 - i.1]'(by rw [outsD_length]; exact hil) = outD (l.getD (l.length - 1 - i.1) default) := by
      rw [← outsD_get l _ hil]
      simp [List.getD, outsD_length, hil]
    rw [he] at hr
    have hmid : mid = [c0 (l.length - 1 - i.1), c1 (l.length - 1 - i.1)] := by
      match mid, hm with
      | [x, y], _ =>
        have q0 : vsE[(l.length - 1 - i.1) * 2]? = some x := by
          rw [e', List.append_assoc, List.getElem?_append_right (by omega), hpl, Nat.sub_self]; rfl
        have q1 : vsE[(l.length - 1 - i.1) * 2 + 1]? = some y := by
          rw [e', List.append_assoc, List.getElem?_append_right (by omega), hpl, Nat.add_sub_cancel_left]; rfl
        simp [c0, c1, List.getD, q0, q1]
    refine ⟨_, [_], rfl, rfl, _, [], rfl, ⟨mid, by rw [hmid], ?_⟩, rfl⟩
    exact RepC.ext (g := g.bare) (g' := g) ⟨fun _ => Nat.le_refl _, fun _ _ _ => rfl, fun _ _ h => by simp [Gh.bare] at h, fun _ _ _ _ h => by simp [Gh.bare] at h, fun _ _ h => h⟩ _ hr
  · intro y J Jx W hW hJ hJx hY hJ0
    have kW1 : W.cell? ⟨B1, o1, none⟩ = some (.slice a l.length c) := (hW.cell (p := ⟨B1, o1, none⟩) hB1).trans k1
    have kWc : ∀ i, i < l.length → W.cell? ⟨b, off + i * 2, none⟩ = some (c0 i) ∧ W.cell? ⟨b, off + i * 2 + 1, none⟩ = some (c1 i) := fun i hi =>
      ⟨(hW.cell (p := ⟨b, off + i * 2, none⟩) (hB (by omega))).trans (hcel i hi).1, (hW.cell (p := ⟨b, off + i * 2 + 1, none⟩) (hB (by omega))).trans (hcel i hi).2⟩
    refine (Tryz.back1_in (FR none) n trivial rfl hn y B1 o1 b off l.length c a c0 c1 (KpOf g w) hc hb hs1 (fun p W => (∀ i ∈ p, i < l.length) ∧ J (upB l.length p) W) (fun p W => Jx (upB l.length p) W)
      (fun A B h => h B1 o1 hB1 (by simp at hl1; omega)) (fun A B h j hj => h b (off + j) (hB (by omega)) (by have := (hs2 (by omega)).1; omega)) ?_ W kW1 kWc ⟨by simp, hJ0⟩).mono ?_
    · rintro pre i W1 ⟨hp, hj⟩ hi
      have hlt : i < l.length := by omega
      have hul : (upB l.length pre).length = pre.length := by
        have : ∀ q : List Nat, (∀ i ∈ q, i < l.length) → (upB l.length q).length = q.length := by
          intro q
          induction q with
          | nil => intro _; rfl
          | cons x r ih =>
            intro h
            have hx := h x (List.mem_cons_self ..)
            have := ih fun i hi => h i (List.mem_cons_of_mem _ hi)
            simp only [upB, List.filterMap_cons, hx, dif_pos, List.length_cons]
            exact congrArg (· + 1) this
        exact this pre hp
      have := hY (upB l.length pre) ⟨l.length - 1 - i, by omega⟩ W1 hj (by rw [hul]; omega)
      have ei : l.length - 1 - (l.length - 1 - i) = i := by omega
      simp only [ei] at this
      obtain ⟨fn, tmps, assign, body, hy, hR⟩ := this
      refine ⟨fn, tmps, assign, body, hy, hR.mono ?_⟩
      rintro e W' (⟨rfl, h1, h2⟩ | ⟨rfl, h1⟩)
      · refine .inl ⟨rfl, ⟨fun j hj => ?_, by rw [upB_snoc pre i hlt]; exact h1⟩, h2⟩
        rcases List.mem_append.1 hj with h | h
        · exact hp j h
        · simp at h; subst h; exact hlt
      · exact .inr ⟨rfl, by rw [upB_snoc pre i hlt]; exact h1⟩
    · rintro e W' ⟨hv, ⟨_, hj⟩ | ⟨k, hk, hj⟩⟩
      · refine ⟨hv, .inl ⟨_, ?_, hj⟩⟩
        have := upB_drop (m := l.length) l.length 0 (by omega)
        rw [List.drop_zero] at this
        rw [this, List.take_of_length_le (by simp)]
      · exact ⟨hv, .inr ⟨_, ⟨l.length - k, upB_drop (l.length - k) k (by omega)⟩, hj⟩⟩
end Go.Vi.CZ
namespace Go.Proofs
open Go.RowKit Go.Shelf
attribute [local go_sem] Oper.semAt_some
set_option maxHeartbeats 1000000 in
theorem Tryz.back_in (F : Fence) (n : Nat) (h5 : F.fn 56) (hro : F.round = none) (a : Option Addr) (len cap : Nat) (w : World) :
    CallsIn F n Tryz.prog 56 #[.slice a len cap] w fun e w' => e = .returned (.func (.func 81) #[] #[.pointer (some ⟨w.heap.size, 0, none⟩)]) ∧ w' = w.alloc (.cells #[.slice a len cap] 36) := by
  refine callsIn_of_wp Tryz.func56 rfl h5 ?_ hro
  simp only [Tryz.ntmps56, List.size_toArray, List.length_cons, List.length_nil, Nat.reduceAdd, Nat.reduceSub, Array.replicate_succ, Array.replicate_zero, List.push_toArray, List.append_toArray, List.nil_append, List.cons_append]
  gi_wp2
  go_ret
  exact ⟨rfl, rfl⟩
end Go.Proofs
namespace Go.Vi.CZ
open Go.Proofs Go.RowKit
theorem c_back : Contract E 56 := by
  refine contract_callsT (p := sp_back 81) (fun args s nm => spec_back args s nm) ?_
  intro xs hv g w vs hl0 hr
  unfold sp_back at hv ⊢
  split at hv
  case h_2 => exact hv.elim
  rename_i es
  obtain ⟨v1, r1, rfl, ⟨a, c, vE, e1, hc, hes, hrow, _⟩, e3⟩ := hr
  have e3 : r1 = [] := e3
  simp only [List.cons.injEq, and_true] at e1
  subst e1 e3
  refine (callsIn_wide (n := 0)).1 ((Tryz.back_in Fence.wide 0 trivial rfl a es.length c w).mono ?_)
  rintro e w' ⟨rfl, rfl⟩
  have hb : Below w.heap.size w (w.alloc (.cells #[.slice a es.length c] 36)) := (Below.refl _ w).alloc (Nat.le_refl _) _
  refine ⟨_, rfl, ?_, hb⟩
  have hx : Ext g w (g.newer w (w.alloc (.cells #[.slice a es.length c] 36))) _ := Gh.newer_ext hl0 hb
  have c1 : (w.alloc (.cells #[.slice a es.length c] 36)).heap[w.heap.size]? = some (.cells #[.slice a es.length c] 36) := World.alloc_heap_new w _
  generalize (w.alloc (.cells #[.slice a es.length c] 36)) = w' at hx c1
  refine ⟨[.pointer (some ⟨w.heap.size, 0, none⟩)], rfl, [.pointer (some ⟨w.heap.size, 0, none⟩)], [], rfl,
    ⟨w.heap.size, 0, [.slice a es.length c], rfl, ⟨a, c, vE, rfl, hc, RepEs.ext hx.bare es hes, Row.ext (g := g.bare) (g' := (g.newer w w').bare) hx.bare hrow, trivial⟩, ?_, ?_⟩, rfl⟩
  · simp [Gh.newer, rowSize, c1]
  · intro i v hv
    cases i with
    | zero => simp at hv; subst hv; simp [World.cell?, c1]
    | succ i => simp at hv
end Go.Vi.CZ
end

section
set_option linter.unusedVariables false
set_option linter.unusedSimpArgs false
set_option maxHeartbeats 0
set_option maxRecDepth 20000
namespace Go.Vi.CZ
open Go.Proofs

theorem c_hp2 : Contract E 82 := by
  refine contract_seeT hE hgl (show E.P.funcs[82]? = some Tryz.f82 from Tryz.func82) rfl (p := sp_hp2) (fun _ _ _ => rfl) ?_
  intro args hv
  unfold sp_hp2 at hv ⊢
  split at hv
  case h_2 => exact hv.elim
  rename_i a b
  refine ⟨by simp, Nat.le_of_ble_eq_true rfl, ?_⟩
  simp only [givesIf] at hv
  obtain ⟨h6, ha⟩ := hv
  have d1 : decide (((b.size : Nat) : Int) ≤ ((a.size : Nat) : Int)) = true := decide_eq_true (by omega)
  have e1 : a.extract (Int.toNat 0) (((b.size : Nat) : Int)).toNat = a.extract 0 6 := by rw [h6]; rfl
  simp (config := {dsimp := false}) only [↓vp0, vz, vn, nq, tys, cellD, wideIR, if_true, if_false, implies_true, forall_const, ne_eq, reduceIte, reduceCtorEq, Nat.reduceEqDiff, Nat.reduceAdd, Nat.reduceMul, Nat.reduceLT, Nat.reduceSub, Nat.reduceLeDiff, Nat.reduceBNe, Nat.reduceBEq, Nat.reduceBeqDiff, List.range, List.range.loop, gl0, Tryz.ntmps82, Tryz.results82, d1, e1, givesIf]
  exact ⟨Int.le_refl _, by omega, by omega⟩
theorem c_hasPrefix : Contract E 57 := by
  refine contract_seeT hE hgl (show E.P.funcs[57]? = some Tryz.f57 from Tryz.func57) rfl (p := sp_hasPrefix) (fun _ _ _ => rfl) ?_
  intro args hv
  unfold sp_hasPrefix at hv ⊢
  split at hv
  case h_2 => exact hv.elim
  rename_i a b
  refine ⟨by simp, Nat.le_of_ble_eq_true rfl, ?_⟩
  simp only [givesIf] at hv
  simp (config := {dsimp := false}) only [↓vp0, vz, vn, nq, tys, cellD, wideIR, if_true, if_false, implies_true, forall_const, ne_eq, reduceIte, reduceCtorEq, Nat.reduceEqDiff, Nat.reduceAdd, Nat.reduceMul, Nat.reduceLT, Nat.reduceSub, Nat.reduceLeDiff, Nat.reduceBNe, Nat.reduceBEq, Nat.reduceBeqDiff, List.range, List.range.loop, gl0, Tryz.ntmps57, Tryz.results57, PF.toR, givesIf, spec_hp2, sp_hp2, c_hp2, b_hp2]
  exact hv
theorem c_gcommit : Contract E 43 := by
  refine contract_seeT hE hgl (show E.P.funcs[43]? = some Tryz.f43 from Tryz.func43) rfl (p := sp_gcommit) (fun _ _ _ => rfl) ?_
  intro args hv
  unfold sp_gcommit at hv ⊢
  split at hv
  case h_2 => exact hv.elim
  rename_i h0 hp hr h1 h2 h3 es
  refine ⟨by simp, Nat.le_of_ble_eq_true rfl, ?_⟩
  simp only [givesIf] at hv
  obtain ⟨hhd, l, rfl, hok, hl⟩ := hv
  simp only [txs_D]
  cases l with
  | nil =>
    simp (config := {dsimp := false}) only [↓vp0, vz, vn, nq, tys, cellD, wideIR, if_true, if_false, implies_true, forall_const, ne_eq, reduceIte, reduceCtorEq, Nat.reduceEqDiff, Nat.reduceAdd, Nat.reduceMul, Nat.reduceLT, Nat.reduceSub, Nat.reduceLeDiff, Nat.reduceBNe, Nat.reduceBEq, Nat.reduceBeqDiff, List.range, List.range.loop, gl0, Tryz.ntmps43, Tryz.results43, show txsD [] = [] from rfl, show decide (((0 : Nat) : Int) = 0) = true from rfl, commitP, hashV, givesIf]
    all_goals rfl
  | cons t r =>
    have ht := hok t (List.mem_cons_self ..)
    have d0 : decide (((r.length + 1 : Nat) : Int) = 0) = false := decide_eq_false (by omega)
    simp (config := {dsimp := false}) only [↓vp0, vz, vn, nq, tys, cellD, wideIR, if_true, if_false, implies_true, forall_const, ne_eq, reduceIte, reduceCtorEq, Nat.reduceEqDiff, Nat.reduceAdd, Nat.reduceMul, Nat.reduceLT, Nat.reduceSub, Nat.reduceLeDiff, Nat.reduceBNe, Nat.reduceBEq, Nat.reduceBeqDiff, List.range, List.range.loop, gl0, Tryz.ntmps43, Tryz.results43, PF.toR, gives, show txsD (t :: r) = txD t :: txsD r from rfl, txD, d0, show Int.toNat 0 = 0 from rfl, List.getD_cons_zero, commitP, spec_back, sp_back, c_back, b_back]
    refine ⟨Int.le_refl _, by omega, ?_⟩
    refine rangeF [(17, .fn 81 [.ip (.sl .no 2 (outsD t.outs)) 0]), (2, .bp 4 0), (3, .bp 8 0)] ⟨[(4, .arr .u8 32 (List.replicate 32 0)), (8, .bool false)], [], 52⟩ (fun i => markedP (t.outs.getD (t.outs.length - 1 - i.1) default).script = false) (iter_back t.outs ht.mo) rfl (fun i => rfl) ⟨rfl, rfl⟩ rfl ?_ ?_ ?_
    · exact ⟨⟨wkD_eq rfl, rfl, wkD_eq rfl, rfl, wkD_eq rfl, rfl, trivial⟩, ⟨rfl, Nat.le_of_ble_eq_true rfl, rfl, rfl, Nat.le_of_ble_eq_true rfl, rfl, trivial⟩, trivial⟩
    · intro i
      have hi : t.outs.length - 1 - i.1 < t.outs.length := by have := i.2; omega
      have hx := ht.outs _ (getD_memI hi)
      obtain ⟨x, hxe⟩ : ∃ x, t.outs.getD (t.outs.length - 1 - i.1) default = x := ⟨_, rfl⟩
      rw [hxe] at hx ⊢
      have hsc := hx.script
      by_cases hlen : 38 ≤ x.script.length
      · have d1 : decide ((38 : Int) ≤ (((strOfNums x.script).size : Nat) : Int)) = true := decide_eq_true (by rw [strN_size]; omega)
        have mk := mark_dec hsc.1
        simp (config := {dsimp := false}) only [↓vp0, vz, vn, nq, tys, cellD, wideIR, if_true, if_false, implies_true, forall_const, ne_eq, reduceIte, reduceCtorEq, Nat.reduceEqDiff, Nat.reduceAdd, Nat.reduceMul, Nat.reduceLT, Nat.reduceSub, Nat.reduceLeDiff, Nat.reduceBNe, Nat.reduceBEq, Nat.reduceBeqDiff, List.range, List.range.loop, gl0, Tryz.ntmps43, Tryz.results43, opsOf, outD, vb, PF.toR, givesIf, d1, mark_str, mk, spec_hasPrefix, sp_hasPrefix, c_hasPrefix, b_hasPrefix]
        have hcut : bytesOf ((strOfNums x.script).extract (Int.toNat 6) (Int.toNat 38)) = (x.script.drop 6).take 32 := by
          rw [show Int.toNat 6 = 6 from rfl, show Int.toNat 38 = 38 from rfl, strN_extract, bytesOf_strN (bytes_part hsc.1 6 38), List.drop_take]
        have hcl : ((x.script.drop 6).take 32).length = 32 := by simp only [List.length_take, List.length_drop]; omega
        rw [hcut]
        refine ⟨⟨trivial, ⟨rfl, Nat.le_of_ble_eq_true rfl, rfl, rfl, Nat.le_of_ble_eq_true rfl, rfl, trivial⟩, trivial⟩, by rw [strN_size]; rfl, by rw [strN_size]; omega, fun hm => ⟨by decide, by decide, by rw [strN_size]; omega, by rw [hcl]; exact Nat.le_refl _, ⟨[(4, .arr .u8 32 ((x.script.drop 6).take 32)), (8, .bool true)], [], 52⟩, rfl, ⟨trivial, ⟨?_, Nat.le_of_ble_eq_true rfl, rfl, rfl, Nat.le_of_ble_eq_true rfl, rfl, trivial⟩, trivial⟩, fun hA => ?_⟩, fun hm => ⟨⟨trivial, ⟨rfl, Nat.le_of_ble_eq_true rfl, rfl, rfl, Nat.le_of_ble_eq_true rfl, rfl, trivial⟩, trivial⟩, ?_⟩⟩
        · show some _ = some _
          rw [List.take_of_length_le (by rw [hcl]; exact Nat.le_refl _)]
        · have hmk : markedP x.script = true := by
            have h6 : x.script.take 6 = markB := of_decide_eq_true hm
            simp only [markedP]
            rw [decide_eq_true hlen, decide_eq_true (show x.script.take 6 = [106, 36, 170, 33, 169, 237] from h6)]; rfl
          have hl : lastMark t.outs = some ((x.script.drop 6).take 32) := by
            have := lastMark_some hi (by rw [hxe]; exact hmk) fun j h1 h2 => by
              have := hA ⟨t.outs.length - 1 - j, by omega⟩ (show t.outs.length - 1 - j < i.1 by have := i.2; omega)
              have e : t.outs.length - 1 - (t.outs.length - 1 - j) = j := by omega
              simpa only [e] using this
            rw [hxe] at this
            exact this
          simp (config := {dsimp := false}) only [↓vp0, vz, vn, nq, tys, cellD, wideIR, if_true, if_false, implies_true, forall_const, ne_eq, reduceIte, reduceCtorEq, Nat.reduceEqDiff, Nat.reduceAdd, Nat.reduceMul, Nat.reduceLT, Nat.reduceSub, Nat.reduceLeDiff, Nat.reduceBNe, Nat.reduceBEq, Nat.reduceBeqDiff, List.range, List.range.loop, gl0, Tryz.ntmps43, Tryz.results43, commitP, hl, hashV]
          all_goals rfl
        · have h6 : ¬ x.script.take 6 = markB := of_decide_eq_false hm
          simp only [markedP]
          rw [decide_eq_false (show ¬ x.script.take 6 = [106, 36, 170, 33, 169, 237] from h6), Bool.and_false]
      · have d1 : decide ((38 : Int) ≤ (((strOfNums x.script).size : Nat) : Int)) = false := decide_eq_false (by rw [strN_size]; omega)
        simp (config := {dsimp := false}) only [↓vp0, vz, vn, nq, tys, cellD, wideIR, if_true, if_false, implies_true, forall_const, ne_eq, reduceIte, reduceCtorEq, Nat.reduceEqDiff, Nat.reduceAdd, Nat.reduceMul, Nat.reduceLT, Nat.reduceSub, Nat.reduceLeDiff, Nat.reduceBNe, Nat.reduceBEq, Nat.reduceBeqDiff, List.range, List.range.loop, gl0, Tryz.ntmps43, Tryz.results43, opsOf, outD, vb, PF.toR, givesIf, d1]
        exact ⟨⟨trivial, ⟨rfl, Nat.le_of_ble_eq_true rfl, rfl, rfl, Nat.le_of_ble_eq_true rfl, rfl, trivial⟩, trivial⟩, ⟨trivial, ⟨rfl, Nat.le_of_ble_eq_true rfl, rfl, rfl, Nat.le_of_ble_eq_true rfl, rfl, trivial⟩, trivial⟩, by simp only [markedP]; rw [decide_eq_false hlen, Bool.false_and]⟩
    · intro hA
      have hl : lastMark t.outs = none := lastMark_none fun j hj => by
        have := hA ⟨t.outs.length - 1 - j, by omega⟩
        have e : t.outs.length - 1 - (t.outs.length - 1 - j) = j := by omega
        simpa only [e] using this
      simp (config := {dsimp := false}) only [↓vp0, vz, vn, nq, tys, cellD, wideIR, if_true, if_false, implies_true, forall_const, ne_eq, reduceIte, reduceCtorEq, Nat.reduceEqDiff, Nat.reduceAdd, Nat.reduceMul, Nat.reduceLT, Nat.reduceSub, Nat.reduceLeDiff, Nat.reduceBNe, Nat.reduceBEq, Nat.reduceBeqDiff, List.range, List.range.loop, gl0, Tryz.ntmps43, Tryz.results43, commitP, hl, hashV, givesIf]
      all_goals rfl
end Go.Vi.CZ
end

section
set_option linter.unusedVariables false
set_option linter.unusedSimpArgs false
set_option maxHeartbeats 0
set_option maxRecDepth 20000
namespace Go.Vi.CZ
open Go.Proofs

theorem take_all {α : Type} (l : List α) (n : Nat) (h : l.length ≤ n) : List.take n (List.drop (Int.toNat 0) l) = l := by
  rw [show Int.toNat 0 = 0 from rfl, List.drop_zero]
  exact List.take_of_length_le h
theorem c_pair : Contract E 55 := by
  refine contract_seeT hE hgl (show E.P.funcs[55]? = some Tryz.f55 from Tryz.func55) rfl (p := sp_pair) (fun _ _ _ => rfl) ?_
  intro args hv
  unfold sp_pair at hv ⊢
  split at hv
  case h_2 => exact hv.elim
  rename_i a b
  refine ⟨by simp, Nat.le_of_ble_eq_true rfl, ?_⟩
  simp only [givesIf] at hv
  obtain ⟨ha, hb⟩ := hv
  simp (config := {dsimp := false}) only [↓vp0, vz, vn, nq, tys, cellD, wideIR, if_true, if_false, implies_true, forall_const, ne_eq, reduceIte, reduceCtorEq, Nat.reduceEqDiff, Nat.reduceAdd, Nat.reduceMul, Nat.reduceLT, Nat.reduceSub, Nat.reduceLeDiff, Nat.reduceBNe, Nat.reduceBEq, Nat.reduceBeqDiff, List.range, List.range.loop, gl0, Tryz.ntmps55, Tryz.results55, show ((0 : Int) = 64) = False from by simp]
  refine ⟨by decide, by decide, ?_⟩
  refine drawX [2, 3, 5] [(2, [3])] [(2, [12])] (by kernel_rfl) (wild_of rfl) ?_
  have e1 : List.take ((32 : Int) - 0).toNat (List.drop (Int.toNat 0) a) = a := take_all a _ (by rw [ha]; decide)
  have e2 : List.take ((32 : Int) - 0).toNat (List.drop (Int.toNat 0) b) = b := take_all b _ (by rw [hb]; decide)
  simp (config := {dsimp := false}) only [↓vp0, vz, vn, nq, tys, cellD, wideIR, if_true, if_false, implies_true, forall_const, ne_eq, reduceIte, reduceCtorEq, Nat.reduceEqDiff, Nat.reduceAdd, Nat.reduceMul, Nat.reduceLT, Nat.reduceSub, Nat.reduceLeDiff, Nat.reduceBNe, Nat.reduceBEq, Nat.reduceBeqDiff, List.range, List.range.loop, gl0, Tryz.ntmps55, Tryz.results55, vb, ↓vy0, vx0, e1, e2, ha, hb]
  ((repeat' apply And.intro) <;> first | decide | omega | exact okUps_of (by kernel_rfl) rfl | exact okUps_all rfl (by kernel_rfl) | rfl)
theorem c_rootEach : Contract E 40 := by
  refine contract_boxT hE hgl (show E.P.funcs[40]? = some Tryz.f40 from Tryz.func40) rfl (p := sp_rootEach) (fun _ _ _ => rfl) ?_
  intro args ds tv hv hdl htl
  unfold sp_rootEach at hv ⊢
  split at hv
  case h_2 => exact hv.elim
  rename_i a b alone t m
  refine ⟨by simp, Nat.le_of_ble_eq_true rfl, ?_⟩
  cases m <;> cases alone
  all_goals simp (config := {dsimp := false}) only [↓vp0, vz, vn, nq, tys, cellD, wideIR, if_true, if_false, implies_true, forall_const, ne_eq, reduceIte, reduceCtorEq, Nat.reduceEqDiff, Nat.reduceAdd, Nat.reduceMul, Nat.reduceLT, Nat.reduceSub, Nat.reduceLeDiff, Nat.reduceBNe, Nat.reduceBEq, Nat.reduceBeqDiff, List.range, List.range.loop, gl0, Tryz.ntmps40, Tryz.results40, retB, vb]
  · exact ⟨[], [], [], ⟨rfl, rfl⟩, ⟨rfl, rfl⟩, ⟨by simp, by simp⟩, by simp, rfl, rfl, ⟨_, rfl, rfl⟩, ⟨_, rfl, rfl⟩, id rfl⟩
  · exact ⟨[], [], [], ⟨rfl, rfl⟩, ⟨rfl, rfl⟩, ⟨by simp, by simp⟩, by simp, rfl, rfl, ⟨_, rfl, rfl⟩, ⟨_, rfl, rfl⟩, id rfl⟩
  · exact ⟨[], [], [], ⟨rfl, rfl⟩, ⟨rfl, rfl⟩, ⟨by simp, by simp⟩, by simp, rfl, rfl, ⟨_, rfl, rfl⟩, ⟨_, rfl, rfl⟩, id rfl⟩
  · exact ⟨[], [], [], ⟨rfl, rfl⟩, ⟨rfl, rfl⟩, ⟨by simp, by simp⟩, by simp, rfl, rfl, ⟨_, rfl, rfl⟩, ⟨_, rfl, rfl⟩, id rfl⟩
end Go.Vi.CZ
end

section
set_option linter.unusedVariables false
set_option linter.unusedSimpArgs false
set_option maxHeartbeats 0
set_option maxRecDepth 20000
namespace Go.Vi.CZ
open Go.Proofs

theorem w64' {a b : Int} (h : a = b) (hb : -1000000 ≤ b ∧ b < 1000000) : IntKind.wrap .i64 a = b := by rw [h]; exact IntWalk.i64_in _ (by omega)
end Go.Vi.CZ
end

section
set_option linter.unusedVariables false
namespace Go.Proofs
open Go.RowKit Go.Shelf
attribute [local go_sem] Oper.semAt_some
set_option maxHeartbeats 1000000 in
theorem Tryz.Chunk_in (F : Fence) (n : Nat) (h5 : F.fn 54) (hro : F.round = none) (a : Option Addr) (len cap : Nat) (w : World) :
    CallsIn F n Tryz.prog 54 #[.slice a len cap, .int .i64 2] w fun e w' => e = .returned (.func (.func 80) #[] #[.pointer (some ⟨w.heap.size, 0, none⟩), .pointer (some ⟨w.heap.size + 1, 0, none⟩)]) ∧ w' = (w.alloc (.cells #[.slice a len cap] 57)).alloc (.cells #[.int .i64 2] 3) := by
  refine callsIn_of_wp Tryz.func54 rfl h5 ?_ hro
  simp only [Tryz.ntmps54, List.size_toArray, List.length_cons, List.length_nil, Nat.reduceAdd, Nat.reduceSub, Array.replicate_succ, Array.replicate_zero, List.push_toArray, List.append_toArray, List.nil_append, List.cons_append]
  gi_wp2
  go_ret
  exact ⟨rfl, rfl⟩
end Go.Proofs
namespace Go.Vi.CZ
open Go.Proofs Go.RowKit
theorem c_chunk : Contract E 54 := by
  refine contract_calls2 (p := sp_chunk 80) (ks := []) (fun args s nm => spec_chunk args s nm) ?_
  · intro xs hv g w vs hl0 hr
    unfold sp_chunk at hv ⊢
    split at hv
    case h_2 => exact hv.elim
    rename_i es
    obtain ⟨v1, r1, rfl, ⟨a, c, vE, e1, hc, hes, hrow, _⟩, v2, r2, rfl, e2, e3⟩ := hr
    have e2 : [v2] = [.int .i64 2] := e2
    have e3 : r2 = [] := e3
    simp only [List.cons.injEq, and_true] at e1 e2
    subst e1 e2 e3
    refine (callsIn_wide (n := 0)).1 ((Tryz.Chunk_in Fence.wide 0 trivial rfl a es.length c w).mono ?_)
    rintro e w' ⟨rfl, rfl⟩
    have hb : Below w.heap.size w ((w.alloc (.cells #[.slice a es.length c] 57)).alloc (.cells #[.int .i64 2] 3)) := ((Below.refl _ w).alloc (Nat.le_refl _) _).alloc (by simp) _
    refine ⟨_, rfl, ?_, hb⟩
    have hx : Ext g w (g.newer w ((w.alloc (.cells #[.slice a es.length c] 57)).alloc (.cells #[.int .i64 2] 3))) _ := Gh.newer_ext hl0 hb
    have c1 : ((w.alloc (.cells #[.slice a es.length c] 57)).alloc (.cells #[.int .i64 2] 3)).heap[w.heap.size]? = some (.cells #[.slice a es.length c] 57) := by
      rw [Below.heap_alloc _ _ _ (by simp)]; exact World.alloc_heap_new w _
    have c2 : ((w.alloc (.cells #[.slice a es.length c] 57)).alloc (.cells #[.int .i64 2] 3)).heap[w.heap.size + 1]? = some (.cells #[.int .i64 2] 3) := by
      have := World.alloc_heap_new (w.alloc (.cells #[.slice a es.length c] 57)) (.cells #[.int .i64 2] 3)
      rwa [World.size_alloc] at this
    generalize ((w.alloc (.cells #[.slice a es.length c] 57)).alloc (.cells #[.int .i64 2] 3)) = w' at hx c1 c2
    refine ⟨[.pointer (some ⟨w.heap.size, 0, none⟩), .pointer (some ⟨w.heap.size + 1, 0, none⟩)], rfl, [.pointer (some ⟨w.heap.size, 0, none⟩)], [.pointer (some ⟨w.heap.size + 1, 0, none⟩)], rfl,
      ⟨w.heap.size, 0, [.slice a es.length c], rfl, ⟨a, c, vE, rfl, hc, RepEs.ext hx.bare es hes, Row.ext (g := g.bare) (g' := (g.newer w w').bare) hx.bare hrow, trivial⟩, ?_, ?_⟩,
      [.pointer (some ⟨w.heap.size + 1, 0, none⟩)], [], rfl, ⟨w.heap.size + 1, 0, [.int .i64 2], rfl, rfl, ?_, ?_⟩, rfl⟩
    · simp [Gh.newer, rowSize, c1]
    · intro i v hv
      cases i with
      | zero => simp at hv; subst hv; simp [World.cell?, c1]
      | succ i => simp at hv
    · simp [Gh.newer, rowSize, c2, show ¬ (w.heap.size + 1 < w.heap.size) by omega]
    · intro i v hv
      cases i with
      | zero => simp at hv; subst hv; simp [World.cell?, c2]
      | succ i => simp at hv
end Go.Vi.CZ
end
