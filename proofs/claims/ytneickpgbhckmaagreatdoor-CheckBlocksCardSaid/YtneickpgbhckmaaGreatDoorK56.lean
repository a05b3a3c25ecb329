/- Lemmas for the law proved in the text whose name ends with Law. -/
import Derived.Test.YtneickpgbhckmaaGreatDoorK55
import Derived.KernelRfl
import Derived.RangeFuncNested
import Derived.RangeFuncBound
import Derived.RangeFuncLeaves
import Derived.Shelf.Abstract
import Derived.Shelf.RegionOpen
import Derived.WalkKit
import Derived.OwnWalkIn
import Derived.TacticsInMore
import Derived.LoopNIn
import Derived.LoopIn
import Derived.Laws.Rows
import Derived.ProofKit
import Derived.Test.YtneickpgbhckmaaGreatDoorTie
import Derived.Test.YtneickpgbhckmaaGreatDoorCards
import Derived.SevenTiedAt

section
set_option linter.unusedVariables false
set_option linter.unusedSimpArgs false
set_option maxHeartbeats 0
set_option maxRecDepth 20000
namespace Go.Vi.CZ
open Go.Proofs

theorem w21 : IntKind.wrap .i64 (((2 : Nat) : Int) - 1) = 1 := rfl
theorem w10 : IntKind.wrap .i64 (((1 : Nat) : Int) - 1) = 0 := rfl
theorem chunk_two (l : L2) (i : Nat) (h : 2 * i + 2 ≤ l.length) : chunkEl (arrs l) i = .sl .full 32 [.arr .u8 32 (l.getD (2 * i) []), .arr .u8 32 (l.getD (2 * i + 1) [])] := by
  unfold chunkEl
  congr 1
  apply List.ext_getElem
  · simp [arrs]; omega
  · intro j h1 h2
    simp [arrs] at h1 h2 ⊢
    match j with
    | 0 => simp [List.getD, show 2 * i < l.length by omega]
    | 1 => simp [List.getD, show 2 * i + 1 < l.length by omega]
theorem chunk_one (l : L2) (i : Nat) (h : 2 * i + 1 = l.length) : chunkEl (arrs l) i = .sl .full 32 [.arr .u8 32 (l.getD (2 * i) [])] := by
  unfold chunkEl
  congr 1
  apply List.ext_getElem
  · simp [arrs]; omega
  · intro j h1 h2
    simp [arrs] at h1 h2 ⊢
    obtain rfl : j = 0 := by omega
    simp [List.getD, show 2 * i < l.length by omega]
theorem c_rows : Contract E 39 := by
  refine contract_boxT hE hgl (show E.P.funcs[39]? = some Tryz.f39 from Tryz.func39) rfl (p := (sp_rows 40 0 0)) (fun _ _ _ => rfl) ?_
  intro args ds tv hv hdl htl
  unfold sp_rows at hv ⊢
  split at hv
  case h_6 => exact hv.elim
  case h_1 =>
    rename_i es g m
    obtain ⟨rfl, ⟨l, rfl, hl⟩, hlen⟩ := hv
    simp only [arrs_length] at hlen
    refine ⟨by simp, Nat.le_of_ble_eq_true rfl, ?_⟩
    simp (config := {dsimp := false}) only [↓vp0, vz, vn, nq, tys, cellD, wideIR, if_true, if_false, implies_true, forall_const, ne_eq, reduceIte, reduceCtorEq, Nat.reduceEqDiff, Nat.reduceAdd, Nat.reduceMul, Nat.reduceLT, Nat.reduceSub, Nat.reduceLeDiff, Nat.reduceBNe, Nat.reduceBEq, Nat.reduceBeqDiff, List.range, List.range.loop, gl0, Tryz.ntmps39, Tryz.results39, retB, vb, arrs_length, hs_arrs]
    refine ⟨fun h0 => ?_, fun h0 => ?_⟩
    · have h0 := of_decide_eq_true h0
      obtain rfl : l = [] := List.eq_nil_of_length_eq_zero (by omega)
      exact ⟨[], [], [], ⟨rfl, rfl⟩, ⟨rfl, rfl⟩, ⟨by simp, by simp⟩, by simp, rfl, rfl, ⟨_, rfl, (by rw [allP_nil]; rfl)⟩, ⟨_, rfl, rfl⟩, id (by rw [rootP_nil]; rfl)⟩
    have h0 := of_decide_eq_false h0
    have hne : l ≠ [] := fun e => by subst e; simp at h0
    refine loopI {k : Nat // k ≤ dep l.length} (fun k => [(0, .sl .no 32 (arrs (rowAt l k.1))), (3, .bp 8 0), (4, .bp 12 0)]) (fun k => ⟨[(0, .bool ((pairsTo l k.1).foldl mutS m)), (8, .fn 40 [.bp 0 0]), (12, .arr .u8 32 (List.replicate 32 0))], [], 28⟩) (fun k => dep l.length - k.1) ⟨0, Nat.zero_le _⟩ (fun _ => rfl) ?_ ?_
    · exact ⟨⟨wkD_eq rfl, rfl, wkD_eq rfl, rfl, wkD_eq rfl, rfl, trivial⟩, ⟨rfl, Nat.le_of_ble_eq_true rfl, rfl, rfl, Nat.le_of_ble_eq_true rfl, rfl, rfl, Nat.le_of_ble_eq_true rfl, rfl, trivial⟩, trivial⟩
    rintro ⟨k, hk⟩
    have hk1 := row_more k l
    have hk2 := row_h32 hl k
    have hk3 := row_len_le l k
    simp (config := {dsimp := false}) only [↓vp0, vz, vn, nq, tys, cellD, wideIR, if_true, if_false, implies_true, forall_const, ne_eq, reduceIte, reduceCtorEq, Nat.reduceEqDiff, Nat.reduceAdd, Nat.reduceMul, Nat.reduceLT, Nat.reduceSub, Nat.reduceLeDiff, Nat.reduceBNe, Nat.reduceBEq, Nat.reduceBeqDiff, List.range, List.range.loop, gl0, Tryz.ntmps39, Tryz.results39, retB, vb, arrs_length, spec_chunk, sp_chunk, c_chunk, b_chunk, gives, PF.toR]
    refine ⟨fun h => ?_, fun h => ?_⟩
    · have h := of_decide_eq_true h
      have hkd : k < dep l.length := hk1.1 (by omega)
      generalize hr : rowAt l k = r at hk1 hk2 hk3 h
      rw [strips_arrs]
      refine rangeB [(40, none, 32)] ?_
      simp (config := {dsimp := false}) only [↓vp0, vz, vn, nq, tys, cellD, wideIR, if_true, if_false, implies_true, forall_const, ne_eq, reduceIte, reduceCtorEq, Nat.reduceEqDiff, Nat.reduceAdd, Nat.reduceMul, Nat.reduceLT, Nat.reduceSub, Nat.reduceLeDiff, Nat.reduceBNe, Nat.reduceBEq, Nat.reduceBeqDiff, List.range, List.range.loop, gl0, Tryz.ntmps39, Tryz.results39, adoptB]
      generalize hm' : (pairsTo l k).foldl mutS m = m'
      refine rangeI [(3, .bp 8 0), (4, .bp 12 0), (5, .bp 40 0), (18, .fn 80 [.ip (.sl .no 32 (arrs r)) 0, .ip (.int .i64 2) 0])]
        (fun pre => ⟨[(0, .bool ((pre.map fun i => pairAt r i.1).foldl mutS m')), (8, .fn 40 [.bp 0 0]), (12, .arr .u8 32 (List.replicate 32 0)), (40, .sl (.tok 52) 32 (arrs (pre.map fun i => joinP (pairAt r i.1))))], [(52, (pre.length, 32))], 56⟩)
        [(6, .tmp 19)] (iter_chunk rfl (arrs r) (by intro e; have := congrArg List.length e; simp [arrs] at this; subst this; simp at h) (by rw [arrs_length]; omega)) rfl (fun _ => rfl) ⟨rfl, by kernel_rfl, by kernel_rfl, by kernel_rfl⟩ (fun _ => rfl) ⟨⟨wkD_eq rfl, rfl, wkD_eq rfl, rfl, wkD_eq rfl, rfl, wkD_eq rfl, rfl, trivial⟩, ⟨rfl, Nat.le_of_ble_eq_true rfl, rfl, rfl, Nat.le_of_ble_eq_true rfl, rfl, rfl, Nat.le_of_ble_eq_true rfl, rfl, rfl, Nat.le_of_ble_eq_true rfl, rfl, trivial⟩, ⟨rfl, Nat.le_of_ble_eq_true rfl, trivial⟩⟩ ?_ ?_
      · rintro pre ⟨i, hi⟩ hpre
        have hi' : i < (r.length + 1) / 2 := by have := hi; rwa [arrs_length] at this
        have hpre' : pre.length < (r.length + 1) / 2 := by have := arrs_length r; omega
        by_cases h2 : 2 * i + 2 ≤ r.length
        · have hpa : ∀ q : List (Fin (((arrs r).length + 1) / 2)), (q ++ [(⟨i, hi⟩ : Fin (((arrs r).length + 1) / 2))]).map (fun i : Fin (((arrs r).length + 1) / 2) => pairAt r i.1) = q.map (fun i : Fin (((arrs r).length + 1) / 2) => pairAt r i.1) ++ [(r.getD (2 * i) [], r.getD (2 * i + 1) [], false)] := fun q => by simp [pairAt, h2]
          have hpb : ∀ q : List (Fin (((arrs r).length + 1) / 2)), (q ++ [(⟨i, hi⟩ : Fin (((arrs r).length + 1) / 2))]).map (fun i : Fin (((arrs r).length + 1) / 2) => joinP (pairAt r i.1)) = q.map (fun i : Fin (((arrs r).length + 1) / 2) => joinP (pairAt r i.1)) ++ [H2 (r.getD (2 * i) []) (r.getD (2 * i + 1) [])] := fun q => by simp [pairAt, h2, joinP]
          simp only [chunk_two r i h2, hpa, hpb]
          have ha := hk2 _ (getD_mem (show 2 * i < r.length by omega))
          have hb := hk2 _ (getD_mem (show 2 * i + 1 < r.length by omega))
          generalize r.getD (2 * i) [] = a at ha
          generalize r.getD (2 * i + 1) [] = b at hb
          simp (config := {dsimp := false}) only [↓vp0, vz, vn, nq, tys, cellD, wideIR, if_true, if_false, implies_true, forall_const, ne_eq, reduceIte, reduceCtorEq, Nat.reduceEqDiff, Nat.reduceAdd, Nat.reduceMul, Nat.reduceLT, Nat.reduceSub, Nat.reduceLeDiff, Nat.reduceBNe, Nat.reduceBEq, Nat.reduceBeqDiff, List.range, List.range.loop, gl0, Tryz.ntmps39, Tryz.results39, arrs_length]
          refine drawX [6, 3, 4, 5, 18] [(9, [0, 1, 2, 3, 4, 5, 6, 7, 8, 10]), (10, [0, 1, 2, 3, 4, 5, 6, 7, 8, 9]), (11, [3, 4, 5, 6, 7, 8])] [(11, [92])] (by kernel_rfl) (wild_of rfl) ?_
          simp (config := {dsimp := false}) only [↓vp0, vz, vn, nq, tys, cellD, wideIR, if_true, if_false, implies_true, forall_const, ne_eq, reduceIte, reduceCtorEq, Nat.reduceEqDiff, Nat.reduceAdd, Nat.reduceMul, Nat.reduceLT, Nat.reduceSub, Nat.reduceLeDiff, Nat.reduceBNe, Nat.reduceBEq, Nat.reduceBeqDiff, List.range, List.range.loop, gl0, Tryz.ntmps39, Tryz.results39, vb, ↓vy0, vx0, arrs_length, w21, show Int.toNat 0 = 0 from rfl, show Int.toNat 1 = 1 from rfl, List.getD_cons_zero, List.getD_cons_succ, PF.toR, gives, givesIf, ha, hb, spec_pair, sp_pair, c_pair, b_pair, spec_rootEach, sp_rootEach, c_rootEach, b_rootEach]
          refine ⟨by decide, by decide, by decide, by decide, okUps_of (by kernel_rfl) rfl, okUps_of (by kernel_rfl) rfl, okUps_of (by kernel_rfl) rfl, okUps_all rfl (by kernel_rfl), ?_⟩
          refine drawI [5, 9] (by kernel_rfl) ?_
          simp (config := {dsimp := false}) only [↓vp0, vz, vn, nq, tys, cellD, wideIR, if_true, if_false, implies_true, forall_const, ne_eq, reduceIte, reduceCtorEq, Nat.reduceEqDiff, Nat.reduceAdd, Nat.reduceMul, Nat.reduceLT, Nat.reduceSub, Nat.reduceLeDiff, Nat.reduceBNe, Nat.reduceBEq, Nat.reduceBeqDiff, List.range, List.range.loop, gl0, Tryz.ntmps39, Tryz.results39, PF.toR, gives, givesIf, List.length_append, ha, hb, spec_twice, sp_twice, c_twice, b_twice, List.foldl_append, List.foldl_cons, List.foldl_nil]
          have hpl : (arrs (pre.map fun i => joinP (pairAt r i.1))).length = pre.length := by rw [arrs_length, List.length_map]
          refine ⟨by rw [hpl], by rw [hpl]; omega, .inr trivial, .inr trivial, by kernel_rfl, by kernel_rfl, ⟨trivial, ⟨rfl, Nat.le_of_ble_eq_true rfl, rfl, rfl, Nat.le_of_ble_eq_true rfl, rfl, rfl, Nat.le_of_ble_eq_true rfl, rfl, ?_, Nat.le_of_ble_eq_true rfl, rfl, trivial⟩, ⟨?_, Nat.le_of_ble_eq_true rfl, trivial⟩⟩⟩
          · exact congrArg (fun x => some (D.sl (.tok 52) 32 x)) (arrs_append _ [H2 a b])
          · exact congrArg (fun n => some (n + 1, 32)) hpl
        · have h3 : 2 * i + 1 = r.length := by omega
          have hpa : ∀ q : List (Fin (((arrs r).length + 1) / 2)), (q ++ [(⟨i, hi⟩ : Fin (((arrs r).length + 1) / 2))]).map (fun i : Fin (((arrs r).length + 1) / 2) => pairAt r i.1) = q.map (fun i : Fin (((arrs r).length + 1) / 2) => pairAt r i.1) ++ [(r.getD (2 * i) [], r.getD (2 * i) [], true)] := fun q => by simp [pairAt, h2]
          have hpb : ∀ q : List (Fin (((arrs r).length + 1) / 2)), (q ++ [(⟨i, hi⟩ : Fin (((arrs r).length + 1) / 2))]).map (fun i : Fin (((arrs r).length + 1) / 2) => joinP (pairAt r i.1)) = q.map (fun i : Fin (((arrs r).length + 1) / 2) => joinP (pairAt r i.1)) ++ [H2 (r.getD (2 * i) []) (r.getD (2 * i) [])] := fun q => by simp [pairAt, h2, joinP]
          simp only [chunk_one r i h3, hpa, hpb]
          have ha := hk2 _ (getD_mem (show 2 * i < r.length by omega))
          generalize r.getD (2 * i) [] = a at ha
          simp (config := {dsimp := false}) only [↓vp0, vz, vn, nq, tys, cellD, wideIR, if_true, if_false, implies_true, forall_const, ne_eq, reduceIte, reduceCtorEq, Nat.reduceEqDiff, Nat.reduceAdd, Nat.reduceMul, Nat.reduceLT, Nat.reduceSub, Nat.reduceLeDiff, Nat.reduceBNe, Nat.reduceBEq, Nat.reduceBeqDiff, List.range, List.range.loop, gl0, Tryz.ntmps39, Tryz.results39, arrs_length]
          refine drawX [6, 3, 4, 5, 18] [(9, [0, 1, 2, 3, 4, 5, 6, 7, 8, 10]), (10, [0, 1, 2, 3, 4, 5, 6, 7, 8, 9]), (11, [3, 4, 5, 6, 7, 8])] [(11, [92])] (by kernel_rfl) (wild_of rfl) ?_
          simp (config := {dsimp := false}) only [↓vp0, vz, vn, nq, tys, cellD, wideIR, if_true, if_false, implies_true, forall_const, ne_eq, reduceIte, reduceCtorEq, Nat.reduceEqDiff, Nat.reduceAdd, Nat.reduceMul, Nat.reduceLT, Nat.reduceSub, Nat.reduceLeDiff, Nat.reduceBNe, Nat.reduceBEq, Nat.reduceBeqDiff, List.range, List.range.loop, gl0, Tryz.ntmps39, Tryz.results39, vb, ↓vy0, vx0, arrs_length, w10, show Int.toNat 0 = 0 from rfl, show Int.toNat 1 = 1 from rfl, List.getD_cons_zero, List.getD_cons_succ, PF.toR, gives, givesIf, ha, spec_pair, sp_pair, c_pair, b_pair, spec_rootEach, sp_rootEach, c_rootEach, b_rootEach]
          refine ⟨by decide, by decide, by decide, by decide, okUps_of (by kernel_rfl) rfl, okUps_of (by kernel_rfl) rfl, okUps_of (by kernel_rfl) rfl, okUps_all rfl (by kernel_rfl), ?_⟩
          refine drawI [5, 9] (by kernel_rfl) ?_
          simp (config := {dsimp := false}) only [↓vp0, vz, vn, nq, tys, cellD, wideIR, if_true, if_false, implies_true, forall_const, ne_eq, reduceIte, reduceCtorEq, Nat.reduceEqDiff, Nat.reduceAdd, Nat.reduceMul, Nat.reduceLT, Nat.reduceSub, Nat.reduceLeDiff, Nat.reduceBNe, Nat.reduceBEq, Nat.reduceBeqDiff, List.range, List.range.loop, gl0, Tryz.ntmps39, Tryz.results39, PF.toR, gives, givesIf, List.length_append, ha, spec_twice, sp_twice, c_twice, b_twice, List.foldl_append, List.foldl_cons, List.foldl_nil]
          have hpl : (arrs (pre.map fun i => joinP (pairAt r i.1))).length = pre.length := by rw [arrs_length, List.length_map]
          refine ⟨by rw [hpl], by rw [hpl]; omega, .inr trivial, .inr trivial, by kernel_rfl, by kernel_rfl, ⟨trivial, ⟨rfl, Nat.le_of_ble_eq_true rfl, rfl, rfl, Nat.le_of_ble_eq_true rfl, rfl, rfl, Nat.le_of_ble_eq_true rfl, rfl, ?_, Nat.le_of_ble_eq_true rfl, rfl, trivial⟩, ⟨?_, Nat.le_of_ble_eq_true rfl, trivial⟩⟩⟩
          · exact congrArg (fun x => some (D.sl (.tok 52) 32 x)) (arrs_append _ [H2 a a])
          · exact congrArg (fun n => some (n + 1, 32)) hpl
      · simp (config := {dsimp := false}) only [↓vp0, vz, vn, nq, tys, cellD, wideIR, if_true, if_false, implies_true, forall_const, ne_eq, reduceIte, reduceCtorEq, Nat.reduceEqDiff, Nat.reduceAdd, Nat.reduceMul, Nat.reduceLT, Nat.reduceSub, Nat.reduceLeDiff, Nat.reduceBNe, Nat.reduceBEq, Nat.reduceBeqDiff, List.range, List.range.loop, gl0, Tryz.ntmps39, Tryz.results39, retB, vb]
        simp only [above_fin r (show ((arrs r).length + 1) / 2 = (r.length + 1) / 2 by rw [arrs_length]), pairs_fin r (show ((arrs r).length + 1) / 2 = (r.length + 1) / 2 by rw [arrs_length])]
        subst hr hm'
        refine ⟨⟨k + 1, hkd⟩, ⟨⟨.inr ⟨_, rfl⟩, rfl, wkD_eq rfl, rfl, wkD_eq rfl, rfl, trivial⟩, ⟨?_, Nat.le_of_ble_eq_true rfl, rfl, rfl, Nat.le_of_ble_eq_true rfl, rfl, rfl, Nat.le_of_ble_eq_true rfl, rfl, trivial⟩, trivial⟩, by (try simp only); omega⟩
        exact congrArg (fun b => some (D.bool b)) (List.foldl_append ..).symm
    · have h := of_decide_eq_false h
      have h00 := arrs_get (rowAt l k) 0 (List.length_pos_iff.2 (row_pos l hne k))
      simp (config := {dsimp := false}) only [↓vp0, vz, vn, nq, tys, cellD, wideIR, if_true, if_false, implies_true, forall_const, ne_eq, reduceIte, reduceCtorEq, Nat.reduceEqDiff, Nat.reduceAdd, Nat.reduceMul, Nat.reduceLT, Nat.reduceSub, Nat.reduceLeDiff, Nat.reduceBNe, Nat.reduceBEq, Nat.reduceBeqDiff, List.range, List.range.loop, gl0, Tryz.ntmps39, Tryz.results39, retB, vb, h00, show Int.toNat 0 = 0 from rfl]
      have he := row_end hk (by omega)
      have hp := List.length_pos_iff.2 (row_pos l hne k)
      refine ⟨by decide, by omega, [], [], [], ⟨rfl, rfl⟩, ⟨rfl, rfl⟩, ⟨by simp, by simp⟩, by simp, rfl, rfl, ⟨_, rfl, ?_⟩, ⟨_, rfl, rfl⟩, ?_⟩
      · rw [hs_arrs, allP, ← he]
        rfl
      · rw [hs_arrs, rootP, if_neg hne, ← he]
        exact id rfl
  case h_2 =>
    exact absurd rfl hv.2
  case h_3 =>
    exact absurd rfl hv.1.2
  case h_4 =>
    exact absurd rfl hv.1.2
  case h_5 =>
    rename_i g m
    subst hv
    refine ⟨by simp, Nat.le_of_ble_eq_true rfl, ?_⟩
    simp (config := {dsimp := false}) only [↓vp0, vz, vn, nq, tys, cellD, wideIR, if_true, if_false, implies_true, forall_const, ne_eq, reduceIte, reduceCtorEq, Nat.reduceEqDiff, Nat.reduceAdd, Nat.reduceMul, Nat.reduceLT, Nat.reduceSub, Nat.reduceLeDiff, Nat.reduceBNe, Nat.reduceBEq, Nat.reduceBeqDiff, List.range, List.range.loop, gl0, Tryz.ntmps39, Tryz.results39, retB, vb, show decide (((0 : Nat) : Int) = 0) = true from rfl]
    exact ⟨[], [], [], ⟨rfl, rfl⟩, ⟨rfl, rfl⟩, ⟨by simp, by simp⟩, by simp, rfl, rfl, ⟨_, rfl, rfl⟩, ⟨_, rfl, rfl⟩, id rfl⟩
end Go.Vi.CZ
end

section
/-
  TWO HASHES OF PAIRS, reckoned by the kernel.
-/
namespace Go.Vi
end Go.Vi
end

section
set_option linter.unusedVariables false
set_option linter.unusedSimpArgs false
set_option maxHeartbeats 0
set_option maxRecDepth 20000
namespace Go.Vi.CZ
open Go.Proofs

theorem c_root : Contract E 27 := by
  refine contract_seeT hE hgl (show E.P.funcs[27]? = some Tryz.f27 from Tryz.func27) rfl (p := sp_root) (fun _ _ _ => rfl) ?_
  intro args hv
  unfold sp_root at hv ⊢
  split at hv
  case h_3 => exact hv.elim
  case h_2 =>
    refine ⟨by simp, Nat.le_of_ble_eq_true rfl, ?_⟩
    simp (config := {dsimp := false}) only [↓vp0, vz, vn, nq, tys, cellD, wideIR, if_true, if_false, implies_true, forall_const, ne_eq, reduceIte, reduceCtorEq, Nat.reduceEqDiff, Nat.reduceAdd, Nat.reduceMul, Nat.reduceLT, Nat.reduceSub, Nat.reduceLeDiff, Nat.reduceBNe, Nat.reduceBEq, Nat.reduceBeqDiff, List.range, List.range.loop, gl0, Tryz.ntmps27, Tryz.results27, vb, PF.toR, gives, givesIf, spec_rows, sp_rows, c_rows, b_rows]
    refine drawX [2, 3] [(2, [1])] [(2, [0])] (by kernel_rfl) (wild_of rfl) ?_
    simp (config := {dsimp := false}) only [↓vp0, vz, vn, nq, tys, cellD, wideIR, if_true, if_false, implies_true, forall_const, ne_eq, reduceIte, reduceCtorEq, Nat.reduceEqDiff, Nat.reduceAdd, Nat.reduceMul, Nat.reduceLT, Nat.reduceSub, Nat.reduceLeDiff, Nat.reduceBNe, Nat.reduceBEq, Nat.reduceBeqDiff, List.range, List.range.loop, gl0, Tryz.ntmps27, Tryz.results27, vb, ↓vy0, vx0]
    ((repeat' apply And.intro) <;> first | decide | omega | exact okUps_of (by kernel_rfl) rfl | exact okUps_all rfl (by kernel_rfl) | rfl)
  rename_i es
  refine ⟨by simp, Nat.le_of_ble_eq_true rfl, ?_⟩
  simp only [givesIf] at hv
  obtain ⟨⟨l, rfl, hl⟩, hlen⟩ := hv
  simp (config := {dsimp := false}) only [↓vp0, vz, vn, nq, tys, cellD, wideIR, if_true, if_false, implies_true, forall_const, ne_eq, reduceIte, reduceCtorEq, Nat.reduceEqDiff, Nat.reduceAdd, Nat.reduceMul, Nat.reduceLT, Nat.reduceSub, Nat.reduceLeDiff, Nat.reduceBNe, Nat.reduceBEq, Nat.reduceBeqDiff, List.range, List.range.loop, gl0, Tryz.ntmps27, Tryz.results27, vb, PF.toR, gives, givesIf, spec_rows, sp_rows, c_rows, b_rows, strips_arrs, hs_arrs]
  refine ⟨⟨l, rfl, hl⟩, hlen, ?_⟩
  refine drawX [2, 3] [(2, [1])] [(2, [0])] (by kernel_rfl) (wild_of rfl) ?_
  simp (config := {dsimp := false}) only [↓vp0, vz, vn, nq, tys, cellD, wideIR, if_true, if_false, implies_true, forall_const, ne_eq, reduceIte, reduceCtorEq, Nat.reduceEqDiff, Nat.reduceAdd, Nat.reduceMul, Nat.reduceLT, Nat.reduceSub, Nat.reduceLeDiff, Nat.reduceBNe, Nat.reduceBEq, Nat.reduceBeqDiff, List.range, List.range.loop, gl0, Tryz.ntmps27, Tryz.results27, vb, ↓vy0, vx0]
  exact ⟨okUps_of (by kernel_rfl) rfl, okUps_all rfl (by kernel_rfl), by rw [hs_arrs]; rfl⟩
end Go.Vi.CZ
end

section
set_option linter.unusedVariables false
set_option linter.unusedSimpArgs false
set_option maxHeartbeats 0
set_option maxRecDepth 20000
namespace Go.Vi.CZ
open Go.Proofs

theorem wanted_0 {L : List TxP} (h : L.length = 0) : wantedP L = none := by
  obtain rfl := List.eq_nil_of_length_eq_zero h; rfl
theorem wanted_1 {t : TxP} {r : List TxP} (h : ¬ t.ins.length = 1) : wantedP (t :: r) = none := by
  obtain ⟨v, i, o, k⟩ := t
  match i, h with
  | [], _ => rfl
  | [x], h => exact absurd rfl h
  | x :: y :: q, _ => rfl
theorem wanted_2 {t : TxP} {r : List TxP} {x : InP} (h : t.ins = [x]) (h2 : ¬ x.wit.length = 1) : wantedP (t :: r) = none := by
  obtain ⟨v, i, o, k⟩ := t
  obtain rfl : i = [x] := h
  obtain ⟨p, n, s, q, w⟩ := x
  match w, h2 with
  | [], _ => rfl
  | [w], h2 => exact absurd rfl h2
  | w :: y :: q, _ => rfl
theorem wanted_3 {t : TxP} {r : List TxP} {x : InP} {w : List Int} (h : t.ins = [x]) (h2 : x.wit = [w]) : wantedP (t :: r) = if w.length = 32 then some (H2 (rootP (hashesP true (t :: r))) w) else none := by
  obtain ⟨v, i, o, k⟩ := t
  obtain rfl : i = [x] := h
  obtain ⟨p, n, s, q, w⟩ := x
  obtain rfl : w = [_] := h2
  rfl
theorem root_len {l : L2} (h : h32 l) : (rootP l).length = 32 := by
  unfold rootP
  split
  · simp
  · rename_i hne
    exact row_h32 h _ _ (getD_mem (List.length_pos_iff.2 (row_pos l hne _)))
theorem one_of {α : Type} {l : List α} (h : l.length = 1) : ∃ x, l = [x] := List.length_eq_one_iff.1 h
theorem c_gwanted : Contract E 45 := by
  refine contract_seeT hE hgl (show E.P.funcs[45]? = some Tryz.f45 from Tryz.func45) rfl (p := sp_gwanted) (fun _ _ _ => rfl) ?_
  intro args hv
  unfold sp_gwanted at hv ⊢
  split at hv
  case h_2 => exact hv.elim
  rename_i h0 hp hr h1 h2 h3 es
  refine ⟨by simp, Nat.le_of_ble_eq_true rfl, ?_⟩
  simp only [givesIf] at hv
  obtain ⟨hhd, ⟨L, rfl, hok, hl⟩, hlen⟩ := hv
  simp only [txs_D, txsD_length] at hlen ⊢
  have hisL : isTxL (txsD L) := ⟨L, rfl, hok, hl⟩
  by_cases hz : L.length = 0
  · have d0 : decide (((L.length : Nat) : Int) = 0) = true := decide_eq_true (by omega)
    simp (config := {dsimp := false}) only [↓vp0, vz, vn, nq, tys, cellD, wideIR, if_true, if_false, implies_true, forall_const, ne_eq, reduceIte, reduceCtorEq, Nat.reduceEqDiff, Nat.reduceAdd, Nat.reduceMul, Nat.reduceLT, Nat.reduceSub, Nat.reduceLeDiff, Nat.reduceBNe, Nat.reduceBEq, Nat.reduceBeqDiff, List.range, List.range.loop, gl0, Tryz.ntmps45, Tryz.results45, d0, wanted_0 hz, hashV, givesIf]
    all_goals rfl
  have d0 : decide (((L.length : Nat) : Int) = 0) = false := decide_eq_false (by omega)
  obtain ⟨t, r, hL⟩ : ∃ t r, L = t :: r := by cases L with
    | nil => exact absurd rfl hz
    | cons t r => exact ⟨t, r, rfl⟩
  have g0 : (txsD L).getD (Int.toNat 0) .any = txD t := by rw [hL]; rfl
  have ht := hok t (by rw [hL]; exact List.mem_cons_self ..)
  have hmi := ht.mi
  by_cases hi : t.ins.length = 1
  case neg =>
    have d1 : decide (((t.ins.length : Nat) : Int) = 1) = false := decide_eq_false (by omega)
    have hw : wantedP L = none := by rw [hL]; exact wanted_1 hi
    simp (config := {dsimp := false}) only [↓vp0, vz, vn, nq, tys, cellD, wideIR, if_true, if_false, implies_true, forall_const, ne_eq, reduceIte, reduceCtorEq, Nat.reduceEqDiff, Nat.reduceAdd, Nat.reduceMul, Nat.reduceLT, Nat.reduceSub, Nat.reduceLeDiff, Nat.reduceBNe, Nat.reduceBEq, Nat.reduceBeqDiff, List.range, List.range.loop, gl0, Tryz.ntmps45, Tryz.results45, d0, d1, g0, txD, hw, hashV, givesIf]
    (repeat' apply And.intro) <;> first | exact Int.le_refl _ | omega | rfl
  have d1 : decide (((t.ins.length : Nat) : Int) = 1) = true := decide_eq_true (by omega)
  obtain ⟨x, hx⟩ := one_of hi
  have g1 : (insD t.ins).getD (Int.toNat 0) .any = inD x := by rw [hx]; rfl
  have hxo := ht.ins x (by rw [hx]; exact List.mem_cons_self ..)
  have hmw := hxo.many
  by_cases hwl : x.wit.length = 1
  case neg =>
    have d2 : decide (((x.wit.length : Nat) : Int) = 1) = false := decide_eq_false (by omega)
    have hw : wantedP L = none := by rw [hL]; exact wanted_2 hx hwl
    simp (config := {dsimp := false}) only [↓vp0, vz, vn, nq, tys, cellD, wideIR, if_true, if_false, implies_true, forall_const, ne_eq, reduceIte, reduceCtorEq, Nat.reduceEqDiff, Nat.reduceAdd, Nat.reduceMul, Nat.reduceLT, Nat.reduceSub, Nat.reduceLeDiff, Nat.reduceBNe, Nat.reduceBEq, Nat.reduceBeqDiff, List.range, List.range.loop, gl0, Tryz.ntmps45, Tryz.results45, d0, d1, d2, g0, g1, txD, inD, hw, hashV, givesIf]
    (repeat' apply And.intro) <;> first | exact Int.le_refl _ | omega | rfl
  have d2 : decide (((x.wit.length : Nat) : Int) = 1) = true := decide_eq_true (by omega)
  obtain ⟨w, hw⟩ := one_of hwl
  have g2 : (slis x.wit).getD (Int.toNat 0) .any = .sli .no .u8 w := by rw [hw]; rfl
  have hwo := (hxo.wit w (by rw [hw]; exact List.mem_cons_self ..)).2
  have hW : wantedP L = if w.length = 32 then some (H2 (rootP (hashesP true L)) w) else none := by rw [hL]; exact wanted_3 hx hw
  by_cases h32' : w.length = 32
  case neg =>
    have d3 : decide (((w.length : Nat) : Int) = 32) = false := decide_eq_false (by omega)
    rw [if_neg h32'] at hW
    simp (config := {dsimp := false}) only [↓vp0, vz, vn, nq, tys, cellD, wideIR, if_true, if_false, implies_true, forall_const, ne_eq, reduceIte, reduceCtorEq, Nat.reduceEqDiff, Nat.reduceAdd, Nat.reduceMul, Nat.reduceLT, Nat.reduceSub, Nat.reduceLeDiff, Nat.reduceBNe, Nat.reduceBEq, Nat.reduceBeqDiff, List.range, List.range.loop, gl0, Tryz.ntmps45, Tryz.results45, d0, d1, d2, d3, g0, g1, g2, txD, inD, hW, hashV, givesIf]
    (repeat' apply And.intro) <;> first | exact Int.le_refl _ | omega | rfl
  have d3 : decide (((w.length : Nat) : Int) = 32) = true := decide_eq_true (by omega)
  rw [if_pos h32'] at hW
  have tw : w.take 32 = w := List.take_of_length_le (by omega)
  have hrl : (rootP (hashesP true L)).length = 32 := root_len (hashes_32 true L)
  simp (config := {dsimp := false}) only [↓vp0, vz, vn, nq, tys, cellD, wideIR, if_true, if_false, implies_true, forall_const, ne_eq, reduceIte, reduceCtorEq, Nat.reduceEqDiff, Nat.reduceAdd, Nat.reduceMul, Nat.reduceLT, Nat.reduceSub, Nat.reduceLeDiff, Nat.reduceBNe, Nat.reduceBEq, Nat.reduceBeqDiff, List.range, List.range.loop, gl0, Tryz.ntmps45, Tryz.results45, PF.toR, d0, d1, d2, d3, g0, g1, g2, txD, inD, hW, hashV, givesIf, strips_arrs, hs_arrs, spec_fulls, sp_fulls, c_fulls, b_fulls, spec_root, sp_root, c_root, b_root]
  refine ⟨Int.le_refl _, by omega, Int.le_refl _, by omega, Int.le_refl _, by omega, Int.le_refl _, by omega, hhd, hisL, by omega, ⟨_, rfl, hashes_32 true L⟩, by rw [arrs_length, hashes_len]; omega, ?_⟩
  refine drawI [2, 4, 5] (by kernel_rfl) ?_
  simp (config := {dsimp := false}) only [↓vp0, vz, vn, nq, tys, cellD, wideIR, if_true, if_false, implies_true, forall_const, ne_eq, reduceIte, reduceCtorEq, Nat.reduceEqDiff, Nat.reduceAdd, Nat.reduceMul, Nat.reduceLT, Nat.reduceSub, Nat.reduceLeDiff, Nat.reduceBNe, Nat.reduceBEq, Nat.reduceBeqDiff, List.range, List.range.loop, gl0, Tryz.ntmps45, Tryz.results45, PF.toR, g2, hrl, h32', tw, givesIf, spec_pair, sp_pair, c_pair, b_pair, spec_twice, sp_twice, c_twice, b_twice]
  refine ⟨Int.le_refl _, by omega, by rw [List.length_append, hrl, h32']; decide, by kernel_rfl, ?_⟩
  rw [hW]; rfl
end Go.Vi.CZ
end

section
set_option linter.unusedVariables false
set_option linter.unusedSimpArgs false
set_option maxHeartbeats 0
set_option maxRecDepth 20000
namespace Go.Vi.CZ
open Go.Proofs

theorem c_coinbase : Contract E 19 := by
  refine contract_seeT hE hgl (show E.P.funcs[19]? = some Tryz.f19 from Tryz.func19) rfl (p := sp_coinbase) (fun _ _ _ => rfl) ?_
  intro args hv
  unfold sp_coinbase at hv ⊢
  split at hv
  case h_2 => exact hv.elim
  rename_i h0 hp hr h1 h2 h3 es
  refine ⟨by simp, Nat.le_of_ble_eq_true rfl, ?_⟩
  simp only [givesIf] at hv
  obtain ⟨hhd, ⟨l, rfl, hok, hl⟩, hlen⟩ := hv
  simp only [txs_D, txsD_length] at hlen ⊢
  have hru : ruleP 0 l hr = coinP l := rfl
  rw [hru]
  cases l with
  | nil =>
    simp (config := {dsimp := false}) only [↓vp0, vz, vn, nq, tys, cellD, wideIR, if_true, if_false, implies_true, forall_const, ne_eq, reduceIte, reduceCtorEq, Nat.reduceEqDiff, Nat.reduceAdd, Nat.reduceMul, Nat.reduceLT, Nat.reduceSub, Nat.reduceLeDiff, Nat.reduceBNe, Nat.reduceBEq, Nat.reduceBeqDiff, List.range, List.range.loop, gl0, Tryz.ntmps19, Tryz.results19, show txsD [] = [] from rfl, show decide (((0 : Nat) : Int) = 0) = true from rfl, coinP, givesIf]
    all_goals rfl
  | cons t r =>
    have ht := hok t (List.mem_cons_self ..)
    have ha := anyT_tx ht.any
    have d0 : decide (((r.length + 1 : Nat) : Int) = 0) = false := decide_eq_false (by omega)
    have hcp : coinP (t :: r) = ((baseP t && !r.any baseP) && (decide (2 ≤ (t.ins.getD 0 default).script.length) && decide ((t.ins.getD 0 default).script.length ≤ 100))) := rfl
    rw [hcp]
    have hpr : predOf 9 22 24 44 9 = baseP := rfl
    cases hb : baseP t
    · simp (config := {dsimp := false}) only [↓vp0, vz, vn, nq, tys, cellD, wideIR, if_true, if_false, implies_true, forall_const, ne_eq, reduceIte, reduceCtorEq, Nat.reduceEqDiff, Nat.reduceAdd, Nat.reduceMul, Nat.reduceLT, Nat.reduceSub, Nat.reduceLeDiff, Nat.reduceBNe, Nat.reduceBEq, Nat.reduceBeqDiff, List.range, List.range.loop, gl0, Tryz.ntmps19, Tryz.results19, PF.toR, givesIf, show txsD (t :: r) = txD t :: txsD r from rfl, txD, d0, tx_eta, hb, show Int.toNat 0 = 0 from rfl, List.getD_cons_zero, spec_cbase, sp_cbase, c_cbase, b_cbase, spec_none, sp_none, c_none, b_none]
      exact ⟨Int.le_refl _, by omega, ha⟩
    have hdl : ∀ d : D, List.drop (Int.toNat 1) (List.take (((r.length + 1 : Nat) : Int)).toNat (d :: txsD r)) = txsD r := fun d => by
      rw [Int.toNat_natCast, List.take_of_length_le (by rw [List.length_cons, txsD_length]; exact Nat.le_refl _)]; rfl
    have hTx : isTxL (txsD r) := ⟨r, rfl, fun x hx => hok x (List.mem_cons_of_mem _ hx), by simp only [List.length_cons] at hl; omega⟩
    cases hn : r.any baseP
    case true =>
      simp (config := {dsimp := false}) only [↓vp0, vz, vn, nq, tys, cellD, wideIR, if_true, if_false, implies_true, forall_const, ne_eq, reduceIte, reduceCtorEq, Nat.reduceEqDiff, Nat.reduceAdd, Nat.reduceMul, Nat.reduceLT, Nat.reduceSub, Nat.reduceLeDiff, Nat.reduceBNe, Nat.reduceBEq, Nat.reduceBeqDiff, List.range, List.range.loop, gl0, Tryz.ntmps19, Tryz.results19, PF.toR, givesIf, show txsD (t :: r) = txD t :: txsD r from rfl, txD, d0, tx_eta, hb, hn, hpr, hdl, txs_D, show Int.toNat 0 = 0 from rfl, List.getD_cons_zero, spec_cbase, sp_cbase, c_cbase, b_cbase, spec_none, sp_none, c_none, b_none]
      exact ⟨Int.le_refl _, by omega, ha, by omega, by omega, by omega, .inr trivial, .inl rfl, hTx⟩
    obtain ⟨tv, ti, to, tl⟩ := t
    obtain ⟨x, rfl⟩ : ∃ x, ti = [x] := by
      unfold baseP at hb
      split at hb
      · exact ⟨_, by assumption⟩
      · cases hb
    have hsl := (ht.ins x (List.mem_cons_self ..)).script.2
    have hix : ins [D.agg [D.agg [D.arr .u8 32 x.prev, .int .u32 x.ix], .sli .no .u8 x.script, .int .u32 x.seq, .sl .no 1 (slis x.wit)]] = [x] := ins_D [x]
    have d2 : decide ((2 : Int) ≤ ((x.script.length : Nat) : Int)) = decide (2 ≤ x.script.length) := decide_eq_decide.2 (by omega)
    have d3 : decide (((x.script.length : Nat) : Int) ≤ 100) = decide (x.script.length ≤ 100) := decide_eq_decide.2 (by omega)
    cases h2 : decide (2 ≤ x.script.length) <;> cases h3 : decide (x.script.length ≤ 100)
    all_goals simp (config := {dsimp := false}) only [↓vp0, vz, vn, nq, tys, cellD, wideIR, if_true, if_false, implies_true, forall_const, ne_eq, reduceIte, reduceCtorEq, Nat.reduceEqDiff, Nat.reduceAdd, Nat.reduceMul, Nat.reduceLT, Nat.reduceSub, Nat.reduceLeDiff, Nat.reduceBNe, Nat.reduceBEq, Nat.reduceBeqDiff, List.range, List.range.loop, gl0, Tryz.ntmps19, Tryz.results19, PF.toR, givesIf, show txsD (⟨tv, [x], to, tl⟩ :: r) = txD ⟨tv, [x], to, tl⟩ :: txsD r from rfl, txD, d0, hix, outs_D, hb, hn, hpr, hdl, txs_D, d2, d3, h2, h3, show insD [x] = [inD x] from rfl, inD, show Int.toNat 0 = 0 from rfl, List.getD_cons_zero, spec_cbase, sp_cbase, c_cbase, b_cbase, spec_none, sp_none, c_none, b_none]
    all_goals exact ⟨Int.le_refl _, by omega, ha, by omega, by omega, by omega, .inr trivial, .inl rfl, hTx, Int.le_refl _, by omega, Int.le_refl _, by decide⟩
theorem c_rule1 : Contract E 20 := by
  refine contract_seeT hE hgl (show E.P.funcs[20]? = some Tryz.f20 from Tryz.func20) rfl (p := sp_rule1) (fun _ _ _ => rfl) ?_
  intro args hv
  unfold sp_rule1 at hv ⊢
  split at hv
  case h_2 => exact hv.elim
  rename_i h0 hp hr h1 h2 h3 es
  refine ⟨by simp, Nat.le_of_ble_eq_true rfl, ?_⟩
  simp only [givesIf] at hv
  obtain ⟨hhd, ⟨l, rfl, hok, hl⟩, hlen⟩ := hv
  simp only [txs_D, txsD_length] at hlen ⊢
  have hpr : predOf 9 22 24 44 22 = doubleP := rfl
  simp (config := {dsimp := false}) only [↓vp0, vz, vn, nq, tys, cellD, wideIR, if_true, if_false, implies_true, forall_const, ne_eq, reduceIte, reduceCtorEq, Nat.reduceEqDiff, Nat.reduceAdd, Nat.reduceMul, Nat.reduceLT, Nat.reduceSub, Nat.reduceLeDiff, Nat.reduceBNe, Nat.reduceBEq, Nat.reduceBeqDiff, List.range, List.range.loop, gl0, Tryz.ntmps20, Tryz.results20, PF.toR, givesIf, hpr, txs_D, ruleP, spec_none, sp_none, c_none, b_none]
  exact ⟨.inr (.inl rfl), l, rfl, hok, hl⟩
theorem c_rule2 : Contract E 23 := by
  refine contract_seeT hE hgl (show E.P.funcs[23]? = some Tryz.f23 from Tryz.func23) rfl (p := sp_rule2) (fun _ _ _ => rfl) ?_
  intro args hv
  unfold sp_rule2 at hv ⊢
  split at hv
  case h_2 => exact hv.elim
  rename_i h0 hp hr h1 h2 h3 es
  refine ⟨by simp, Nat.le_of_ble_eq_true rfl, ?_⟩
  simp only [givesIf] at hv
  obtain ⟨hhd, ⟨l, rfl, hok, hl⟩, hlen⟩ := hv
  simp only [txs_D, txsD_length] at hlen ⊢
  have hpr : predOf 9 22 24 44 24 = badP := rfl
  simp (config := {dsimp := false}) only [↓vp0, vz, vn, nq, tys, cellD, wideIR, if_true, if_false, implies_true, forall_const, ne_eq, reduceIte, reduceCtorEq, Nat.reduceEqDiff, Nat.reduceAdd, Nat.reduceMul, Nat.reduceLT, Nat.reduceSub, Nat.reduceLeDiff, Nat.reduceBNe, Nat.reduceBEq, Nat.reduceBeqDiff, List.range, List.range.loop, gl0, Tryz.ntmps23, Tryz.results23, PF.toR, givesIf, hpr, txs_D, ruleP, spec_none, sp_none, c_none, b_none]
  exact ⟨.inr (.inr (.inl rfl)), l, rfl, hok, hl⟩
theorem c_rule3 : Contract E 26 := by
  refine contract_seeT hE hgl (show E.P.funcs[26]? = some Tryz.f26 from Tryz.func26) rfl (p := sp_rule3) (fun _ _ _ => rfl) ?_
  intro args hv
  unfold sp_rule3 at hv ⊢
  split at hv
  case h_2 => exact hv.elim
  rename_i h0 hp hr h1 h2 h3 es
  refine ⟨by simp, Nat.le_of_ble_eq_true rfl, ?_⟩
  simp only [givesIf] at hv
  obtain ⟨hhd, ⟨l, rfl, hok, hl⟩, hlen⟩ := hv
  simp only [txs_D, txsD_length] at hlen ⊢
  simp (config := {dsimp := false}) only [↓vp0, vz, vn, nq, tys, cellD, wideIR, if_true, if_false, implies_true, forall_const, ne_eq, reduceIte, reduceCtorEq, Nat.reduceEqDiff, Nat.reduceAdd, Nat.reduceMul, Nat.reduceLT, Nat.reduceSub, Nat.reduceLeDiff, Nat.reduceBNe, Nat.reduceBEq, Nat.reduceBeqDiff, List.range, List.range.loop, gl0, Tryz.ntmps26, Tryz.results26, PF.toR, gives, givesIf, txs_D, strips_arrs, hs_arrs, ruleP, idsP, spec_ids, sp_ids, c_ids, b_ids, spec_root, sp_root, c_root, b_root]
  exact ⟨hhd, ⟨l, rfl, hok, hl⟩, by omega, ⟨_, rfl, hashes_32 _ _⟩, by rw [arrs_length, hashes_len]; exact Nat.le_of_lt hlen, rfl⟩
theorem c_rule4 : Contract E 29 := by
  refine contract_seeT hE hgl (show E.P.funcs[29]? = some Tryz.f29 from Tryz.func29) rfl (p := sp_rule4) (fun _ _ _ => rfl) ?_
  intro args hv
  unfold sp_rule4 at hv ⊢
  split at hv
  case h_2 => exact hv.elim
  rename_i h0 hp hr h1 h2 h3 es
  refine ⟨by simp, Nat.le_of_ble_eq_true rfl, ?_⟩
  simp only [givesIf] at hv
  obtain ⟨hhd, ⟨l, rfl, hok, hl⟩, hlen⟩ := hv
  simp only [txs_D, txsD_length] at hlen ⊢
  simp (config := {dsimp := false}) only [↓vp0, vz, vn, nq, tys, cellD, wideIR, if_true, if_false, implies_true, forall_const, ne_eq, reduceIte, reduceCtorEq, Nat.reduceEqDiff, Nat.reduceAdd, Nat.reduceMul, Nat.reduceLT, Nat.reduceSub, Nat.reduceLeDiff, Nat.reduceBNe, Nat.reduceBEq, Nat.reduceBeqDiff, List.range, List.range.loop, gl0, Tryz.ntmps29, Tryz.results29, PF.toR, gives, givesIf, txs_D, strips_arrs, hs_arrs, ruleP, idsP, spec_ids, sp_ids, c_ids, b_ids, spec_root, sp_root, c_root, b_root]
  exact ⟨hhd, ⟨l, rfl, hok, hl⟩, by omega, ⟨_, rfl, hashes_32 _ _⟩, by rw [arrs_length, hashes_len]; exact Nat.le_of_lt hlen⟩
theorem c_cwitnessed : Contract E 30 := by
  refine contract_seeT hE hgl (show E.P.funcs[30]? = some Tryz.f30 from Tryz.func30) rfl (p := sp_cwitnessed) (fun _ _ _ => rfl) ?_
  intro args hv
  unfold sp_cwitnessed at hv ⊢
  split at hv
  case h_2 => exact hv.elim
  rename_i h0 hp hr h1 h2 h3 es
  refine ⟨by simp, Nat.le_of_ble_eq_true rfl, ?_⟩
  simp only [givesIf] at hv
  obtain ⟨hhd, ⟨l, rfl, hok, hl⟩, hlen⟩ := hv
  simp only [txs_D, txsD_length] at hlen ⊢
  have hru : ruleP 5 l hr = witP l := rfl
  rw [hru]
  have hTx : isTxL (txsD l) := ⟨l, rfl, hok, hl⟩
  have hpr : predOf 9 22 24 44 44 = witnessedP := rfl
  cases hc : commitP l with
  | none =>
    have hw : witP l = !l.any witnessedP := by unfold witP; rw [hc]
    simp (config := {dsimp := false}) only [↓vp0, vz, vn, nq, tys, cellD, wideIR, if_true, if_false, implies_true, forall_const, ne_eq, reduceIte, reduceCtorEq, Nat.reduceEqDiff, Nat.reduceAdd, Nat.reduceMul, Nat.reduceLT, Nat.reduceSub, Nat.reduceLeDiff, Nat.reduceBNe, Nat.reduceBEq, Nat.reduceBeqDiff, List.range, List.range.loop, gl0, Tryz.ntmps30, Tryz.results30, PF.toR, givesIf, txs_D, hashV, hc, hpr, hw, spec_gcommit, sp_gcommit, c_gcommit, b_gcommit, spec_none, sp_none, c_none, b_none]
    exact ⟨hhd, hTx, .inr (.inr (.inr rfl)), hTx⟩
  | some h =>
    cases hg : wantedP l with
    | none =>
      have hw : witP l = false := by unfold witP; rw [hc]; simp only []; rw [hg]
      simp (config := {dsimp := false}) only [↓vp0, vz, vn, nq, tys, cellD, wideIR, if_true, if_false, implies_true, forall_const, ne_eq, reduceIte, reduceCtorEq, Nat.reduceEqDiff, Nat.reduceAdd, Nat.reduceMul, Nat.reduceLT, Nat.reduceSub, Nat.reduceLeDiff, Nat.reduceBNe, Nat.reduceBEq, Nat.reduceBeqDiff, List.range, List.range.loop, gl0, Tryz.ntmps30, Tryz.results30, PF.toR, givesIf, txs_D, hashV, hc, hg, hw, spec_gcommit, sp_gcommit, c_gcommit, b_gcommit, spec_gwanted, sp_gwanted, c_gwanted, b_gwanted]
      exact ⟨hhd, hTx, hhd, hTx, hlen⟩
    | some w =>
      have hw : witP l = decide (w = h) := by unfold witP; rw [hc]; simp only []; rw [hg]
      simp (config := {dsimp := false}) only [↓vp0, vz, vn, nq, tys, cellD, wideIR, if_true, if_false, implies_true, forall_const, ne_eq, reduceIte, reduceCtorEq, Nat.reduceEqDiff, Nat.reduceAdd, Nat.reduceMul, Nat.reduceLT, Nat.reduceSub, Nat.reduceLeDiff, Nat.reduceBNe, Nat.reduceBEq, Nat.reduceBeqDiff, List.range, List.range.loop, gl0, Tryz.ntmps30, Tryz.results30, PF.toR, givesIf, txs_D, hashV, hc, hg, hw, spec_gcommit, sp_gcommit, c_gcommit, b_gcommit, spec_gwanted, sp_gwanted, c_gwanted, b_gwanted]
      exact ⟨hhd, hTx, hhd, hTx, hlen⟩
end Go.Vi.CZ
end

section
set_option linter.unusedVariables false
set_option linter.unusedSimpArgs false
namespace Go.Proofs
open Go.RowKit Go.Shelf Go.Vi
attribute [local go_sem] Oper.semAt_some
theorem row_newerR {g : Gh} {w w' : World} {b : Nat} {cells : Array Value} {ty : TypeId} (hb : w.heap.size ≤ b) (hg : w'.heap[b]? = some (.cells cells ty (0, 0))) (G : Gh) (hG : G.lim = (g.newer w w').lim) : Row G w' (some ⟨b, 0, none⟩) cells.toList := by
  intro hne
  refine ⟨b, 0, rfl, ?_, ?_⟩
  · rw [hG]
    have : ¬ b < w.heap.size := by omega
    simp only [Gh.newer, this, if_false, rowSize, hg]
    simp
  · intro i v hv
    rw [cell_of_row w' b _ cells ty (0, 0) hg]
    simpa using hv
set_option maxRecDepth 100000 in
set_option maxHeartbeats 2000000 in
theorem Tryz.rules_k (g : Gh) (w : World) : Calls Tryz.prog 10 #[] w fun e w' => ∃ v, e = .returned v ∧ Rep (g.newer w w') w' (rulesD .no 19 20 23 26 29 30) v ∧ Below w.heap.size w w' := by
  refine calls_of_wp Tryz.func10 rfl ?_
  simp only [Tryz.ntmps10, List.size_toArray, List.length_cons, List.length_nil, Nat.reduceAdd, Nat.reduceSub, Array.replicate_succ, Array.replicate_zero, List.push_toArray, List.append_toArray, List.nil_append, List.cons_append]
  go_wp2
  go_ret
  refine ⟨_, rfl, ?_, ?_⟩
  · generalize hW : World.alloc _ _ = W'
    have h2 : W'.heap[w.heap.size]? = some (.cells #[.func (.func 19) #[] #[], .int .i64 23, .func (.func 20) #[] #[], .int .i64 24, .func (.func 23) #[] #[], .int .i64 32, .func (.func 26) #[] #[], .int .i64 20, .func (.func 29) #[] #[], .int .i64 21, .func (.func 30) #[] #[], .int .i64 22] 52 (0, 0)) := by
      rw [← hW]; exact World.alloc_heap_new w _
    refine ⟨_, 6, _, rfl, Nat.le_refl _, ?_, row_newerR (Nat.le_refl _) h2 _ rfl, trivial⟩
    refine ⟨[_, _], _, rfl, rfl, ⟨[_], [_], rfl, ⟨[], rfl, rfl⟩, [_], [], rfl, rfl, rfl⟩, ?_⟩
    refine ⟨[_, _], _, rfl, rfl, ⟨[_], [_], rfl, ⟨[], rfl, rfl⟩, [_], [], rfl, rfl, rfl⟩, ?_⟩
    refine ⟨[_, _], _, rfl, rfl, ⟨[_], [_], rfl, ⟨[], rfl, rfl⟩, [_], [], rfl, rfl, rfl⟩, ?_⟩
    refine ⟨[_, _], _, rfl, rfl, ⟨[_], [_], rfl, ⟨[], rfl, rfl⟩, [_], [], rfl, rfl, rfl⟩, ?_⟩
    refine ⟨[_, _], _, rfl, rfl, ⟨[_], [_], rfl, ⟨[], rfl, rfl⟩, [_], [], rfl, rfl, rfl⟩, ?_⟩
    refine ⟨[_, _], [], rfl, rfl, ⟨[_], [_], rfl, ⟨[], rfl, rfl⟩, [_], [], rfl, rfl, rfl⟩, rfl⟩
  · exact (Below.refl _ _).alloc (Nat.le_refl _) _
end Go.Proofs
namespace Go.Vi.CZ
open Go.Proofs Go.RowKit
theorem c_rules : Contract E 10 := by
  refine contract_callsT (p := sp_rules 19 20 23 26 29 30) (fun _ _ _ => rfl) fun xs hv g w vs _ hr => ?_
  unfold sp_rules at hv ⊢
  split at hv
  case h_2 => exact hv.elim
  obtain rfl : vs = [] := hr
  exact Tryz.rules_k g w
end Go.Vi.CZ
end

section
set_option linter.unusedVariables false
set_option linter.unusedSimpArgs false
set_option maxHeartbeats 0
set_option maxRecDepth 20000
namespace Go.Vi.CZ
open Go.Proofs

theorem c_cblock : Contract E 6 := by
  refine contract_seeT hE hgl (show E.P.funcs[6]? = some Tryz.f6 from Tryz.func6) rfl (p := sp_cblock) (fun _ _ _ => rfl) ?_
  intro args hv
  unfold sp_cblock at hv ⊢
  split at hv
  case h_2 => exact hv.elim
  rename_i h0 hp hr h1 h2 h3 es
  refine ⟨by simp, Nat.le_of_ble_eq_true rfl, ?_⟩
  simp only [givesIf] at hv
  obtain ⟨hhd, ⟨l, rfl, hok, hl⟩, hlen⟩ := hv
  simp only [txs_D, txsD_length] at hlen ⊢
  have hTx : isTxL (txsD l) := ⟨l, rfl, hok, hl⟩
  simp (config := {dsimp := false}) only [↓vp0, vz, vn, nq, tys, cellD, wideIR, if_true, if_false, implies_true, forall_const, ne_eq, reduceIte, reduceCtorEq, Nat.reduceEqDiff, Nat.reduceAdd, Nat.reduceMul, Nat.reduceLT, Nat.reduceSub, Nat.reduceLeDiff, Nat.reduceBNe, Nat.reduceBEq, Nat.reduceBeqDiff, List.range, List.range.loop, gl0, Tryz.ntmps6, Tryz.results6, PF.toR, gives, rulesD, spec_rules, sp_rules, c_rules, b_rules]
  refine loopI {k : Nat // k ≤ 6 ∧ ∀ j, j < k → ruleP j l hr = true} (fun k => [(7, .int .i64 (k.1 : Nat)), (6, .int .i64 (6 : Nat)), (5, rulesD .no 19 20 23 26 29 30), (1, .bp 0 0)]) (fun _ => ⟨[(0, .agg [.agg [.int .u32 h0, .arr .u8 32 hp, .arr .u8 32 hr, .int .u32 h1, .int .u32 h2, .int .u32 h3], .sl .no 4 (txsD l)])], [], 20⟩) (fun k => 6 - k.1) ⟨0, by simp⟩ (fun _ => rfl) ?_ ?_
  · exact ⟨⟨wkD_eq rfl, rfl, wkD_eq rfl, rfl, wkD_eq rfl, rfl, wkD_eq rfl, rfl, trivial⟩, ⟨rfl, Nat.le_of_ble_eq_true rfl, rfl, trivial⟩, trivial⟩
  rintro ⟨k, hk, hb⟩
  by_cases h6 : k = 6
  · subst h6
    simp (config := {dsimp := false}) only [↓vp0, vz, vn, nq, tys, cellD, wideIR, if_true, if_false, implies_true, forall_const, ne_eq, reduceIte, reduceCtorEq, Nat.reduceEqDiff, Nat.reduceAdd, Nat.reduceMul, Nat.reduceLT, Nat.reduceSub, Nat.reduceLeDiff, Nat.reduceBNe, Nat.reduceBEq, Nat.reduceBeqDiff, List.range, List.range.loop, gl0, Tryz.ntmps6, Tryz.results6, show decide (((6 : Nat) : Int) < ((6 : Nat) : Int)) = false from rfl, block_yes hb, givesIf]
  rcases (by omega : k = 0 ∨ k = 1 ∨ k = 2 ∨ k = 3 ∨ k = 4 ∨ k = 5) with rfl | rfl | rfl | rfl | rfl | rfl
  · cases hc : ruleP 0 l hr
    · have hn := block_no (by decide) hb hc
      simp (config := {dsimp := false}) only [↓vp0, vz, vn, nq, tys, cellD, wideIR, if_true, if_false, implies_true, forall_const, ne_eq, reduceIte, reduceCtorEq, Nat.reduceEqDiff, Nat.reduceAdd, Nat.reduceMul, Nat.reduceLT, Nat.reduceSub, Nat.reduceLeDiff, Nat.reduceBNe, Nat.reduceBEq, Nat.reduceBeqDiff, List.range, List.range.loop, gl0, Tryz.ntmps6, Tryz.results6, PF.toR, givesIf, rulesD, show decide (((0 : Nat) : Int) < ((6 : Nat) : Int)) = true from rfl, show Int.toNat (((0 : Nat) : Int)) = 0 from rfl, List.getD_cons_zero, List.getD_cons_succ, txs_D, hc, hn, ruleE, spec_coinbase, sp_coinbase, c_coinbase, b_coinbase]
      exact ⟨by decide, by decide, hhd, hTx, hlen⟩
    · simp (config := {dsimp := false}) only [↓vp0, vz, vn, nq, tys, cellD, wideIR, if_true, if_false, implies_true, forall_const, ne_eq, reduceIte, reduceCtorEq, Nat.reduceEqDiff, Nat.reduceAdd, Nat.reduceMul, Nat.reduceLT, Nat.reduceSub, Nat.reduceLeDiff, Nat.reduceBNe, Nat.reduceBEq, Nat.reduceBeqDiff, List.range, List.range.loop, gl0, Tryz.ntmps6, Tryz.results6, PF.toR, givesIf, rulesD, show decide (((0 : Nat) : Int) < ((6 : Nat) : Int)) = true from rfl, show Int.toNat (((0 : Nat) : Int)) = 0 from rfl, List.getD_cons_zero, List.getD_cons_succ, txs_D, hc, spec_coinbase, sp_coinbase, c_coinbase, b_coinbase]
      refine ⟨by decide, by decide, hhd, hTx, hlen, ⟨1, by decide, fun j hj => ?_⟩, ⟨⟨wkD_eq rfl, rfl, wkD_eq rfl, rfl, wkD_eq rfl, rfl, wkD_eq rfl, rfl, trivial⟩, ⟨rfl, Nat.le_of_ble_eq_true rfl, rfl, trivial⟩, trivial⟩, by (try simp only); omega⟩
      rcases Nat.lt_or_ge j 0 with h7 | h7
      · exact hb j h7
      · obtain rfl : j = 0 := by omega
        exact hc
  · cases hc : ruleP 1 l hr
    · have hn := block_no (by decide) hb hc
      simp (config := {dsimp := false}) only [↓vp0, vz, vn, nq, tys, cellD, wideIR, if_true, if_false, implies_true, forall_const, ne_eq, reduceIte, reduceCtorEq, Nat.reduceEqDiff, Nat.reduceAdd, Nat.reduceMul, Nat.reduceLT, Nat.reduceSub, Nat.reduceLeDiff, Nat.reduceBNe, Nat.reduceBEq, Nat.reduceBeqDiff, List.range, List.range.loop, gl0, Tryz.ntmps6, Tryz.results6, PF.toR, givesIf, rulesD, show decide (((1 : Nat) : Int) < ((6 : Nat) : Int)) = true from rfl, show Int.toNat (((1 : Nat) : Int)) = 1 from rfl, List.getD_cons_zero, List.getD_cons_succ, txs_D, hc, hn, ruleE, spec_rule1, sp_rule1, c_rule1, b_rule1]
      exact ⟨by decide, by decide, hhd, hTx, hlen⟩
    · simp (config := {dsimp := false}) only [↓vp0, vz, vn, nq, tys, cellD, wideIR, if_true, if_false, implies_true, forall_const, ne_eq, reduceIte, reduceCtorEq, Nat.reduceEqDiff, Nat.reduceAdd, Nat.reduceMul, Nat.reduceLT, Nat.reduceSub, Nat.reduceLeDiff, Nat.reduceBNe, Nat.reduceBEq, Nat.reduceBeqDiff, List.range, List.range.loop, gl0, Tryz.ntmps6, Tryz.results6, PF.toR, givesIf, rulesD, show decide (((1 : Nat) : Int) < ((6 : Nat) : Int)) = true from rfl, show Int.toNat (((1 : Nat) : Int)) = 1 from rfl, List.getD_cons_zero, List.getD_cons_succ, txs_D, hc, spec_rule1, sp_rule1, c_rule1, b_rule1]
      refine ⟨by decide, by decide, hhd, hTx, hlen, ⟨2, by decide, fun j hj => ?_⟩, ⟨⟨wkD_eq rfl, rfl, wkD_eq rfl, rfl, wkD_eq rfl, rfl, wkD_eq rfl, rfl, trivial⟩, ⟨rfl, Nat.le_of_ble_eq_true rfl, rfl, trivial⟩, trivial⟩, by (try simp only); omega⟩
      rcases Nat.lt_or_ge j 1 with h7 | h7
      · exact hb j h7
      · obtain rfl : j = 1 := by omega
        exact hc
  · cases hc : ruleP 2 l hr
    · have hn := block_no (by decide) hb hc
      simp (config := {dsimp := false}) only [↓vp0, vz, vn, nq, tys, cellD, wideIR, if_true, if_false, implies_true, forall_const, ne_eq, reduceIte, reduceCtorEq, Nat.reduceEqDiff, Nat.reduceAdd, Nat.reduceMul, Nat.reduceLT, Nat.reduceSub, Nat.reduceLeDiff, Nat.reduceBNe, Nat.reduceBEq, Nat.reduceBeqDiff, List.range, List.range.loop, gl0, Tryz.ntmps6, Tryz.results6, PF.toR, givesIf, rulesD, show decide (((2 : Nat) : Int) < ((6 : Nat) : Int)) = true from rfl, show Int.toNat (((2 : Nat) : Int)) = 2 from rfl, List.getD_cons_zero, List.getD_cons_succ, txs_D, hc, hn, ruleE, spec_rule2, sp_rule2, c_rule2, b_rule2]
      exact ⟨by decide, by decide, hhd, hTx, hlen⟩
    · simp (config := {dsimp := false}) only [↓vp0, vz, vn, nq, tys, cellD, wideIR, if_true, if_false, implies_true, forall_const, ne_eq, reduceIte, reduceCtorEq, Nat.reduceEqDiff, Nat.reduceAdd, Nat.reduceMul, Nat.reduceLT, Nat.reduceSub, Nat.reduceLeDiff, Nat.reduceBNe, Nat.reduceBEq, Nat.reduceBeqDiff, List.range, List.range.loop, gl0, Tryz.ntmps6, Tryz.results6, PF.toR, givesIf, rulesD, show decide (((2 : Nat) : Int) < ((6 : Nat) : Int)) = true from rfl, show Int.toNat (((2 : Nat) : Int)) = 2 from rfl, List.getD_cons_zero, List.getD_cons_succ, txs_D, hc, spec_rule2, sp_rule2, c_rule2, b_rule2]
      refine ⟨by decide, by decide, hhd, hTx, hlen, ⟨3, by decide, fun j hj => ?_⟩, ⟨⟨wkD_eq rfl, rfl, wkD_eq rfl, rfl, wkD_eq rfl, rfl, wkD_eq rfl, rfl, trivial⟩, ⟨rfl, Nat.le_of_ble_eq_true rfl, rfl, trivial⟩, trivial⟩, by (try simp only); omega⟩
      rcases Nat.lt_or_ge j 2 with h7 | h7
      · exact hb j h7
      · obtain rfl : j = 2 := by omega
        exact hc
  · cases hc : ruleP 3 l hr
    · have hn := block_no (by decide) hb hc
      simp (config := {dsimp := false}) only [↓vp0, vz, vn, nq, tys, cellD, wideIR, if_true, if_false, implies_true, forall_const, ne_eq, reduceIte, reduceCtorEq, Nat.reduceEqDiff, Nat.reduceAdd, Nat.reduceMul, Nat.reduceLT, Nat.reduceSub, Nat.reduceLeDiff, Nat.reduceBNe, Nat.reduceBEq, Nat.reduceBeqDiff, List.range, List.range.loop, gl0, Tryz.ntmps6, Tryz.results6, PF.toR, givesIf, rulesD, show decide (((3 : Nat) : Int) < ((6 : Nat) : Int)) = true from rfl, show Int.toNat (((3 : Nat) : Int)) = 3 from rfl, List.getD_cons_zero, List.getD_cons_succ, txs_D, hc, hn, ruleE, spec_rule3, sp_rule3, c_rule3, b_rule3]
      exact ⟨by decide, by decide, hhd, hTx, hlen⟩
    · simp (config := {dsimp := false}) only [↓vp0, vz, vn, nq, tys, cellD, wideIR, if_true, if_false, implies_true, forall_const, ne_eq, reduceIte, reduceCtorEq, Nat.reduceEqDiff, Nat.reduceAdd, Nat.reduceMul, Nat.reduceLT, Nat.reduceSub, Nat.reduceLeDiff, Nat.reduceBNe, Nat.reduceBEq, Nat.reduceBeqDiff, List.range, List.range.loop, gl0, Tryz.ntmps6, Tryz.results6, PF.toR, givesIf, rulesD, show decide (((3 : Nat) : Int) < ((6 : Nat) : Int)) = true from rfl, show Int.toNat (((3 : Nat) : Int)) = 3 from rfl, List.getD_cons_zero, List.getD_cons_succ, txs_D, hc, spec_rule3, sp_rule3, c_rule3, b_rule3]
      refine ⟨by decide, by decide, hhd, hTx, hlen, ⟨4, by decide, fun j hj => ?_⟩, ⟨⟨wkD_eq rfl, rfl, wkD_eq rfl, rfl, wkD_eq rfl, rfl, wkD_eq rfl, rfl, trivial⟩, ⟨rfl, Nat.le_of_ble_eq_true rfl, rfl, trivial⟩, trivial⟩, by (try simp only); omega⟩
      rcases Nat.lt_or_ge j 3 with h7 | h7
      · exact hb j h7
      · obtain rfl : j = 3 := by omega
        exact hc
  · cases hc : ruleP 4 l hr
    · have hn := block_no (by decide) hb hc
      simp (config := {dsimp := false}) only [↓vp0, vz, vn, nq, tys, cellD, wideIR, if_true, if_false, implies_true, forall_const, ne_eq, reduceIte, reduceCtorEq, Nat.reduceEqDiff, Nat.reduceAdd, Nat.reduceMul, Nat.reduceLT, Nat.reduceSub, Nat.reduceLeDiff, Nat.reduceBNe, Nat.reduceBEq, Nat.reduceBeqDiff, List.range, List.range.loop, gl0, Tryz.ntmps6, Tryz.results6, PF.toR, givesIf, rulesD, show decide (((4 : Nat) : Int) < ((6 : Nat) : Int)) = true from rfl, show Int.toNat (((4 : Nat) : Int)) = 4 from rfl, List.getD_cons_zero, List.getD_cons_succ, txs_D, hc, hn, ruleE, spec_rule4, sp_rule4, c_rule4, b_rule4]
      exact ⟨by decide, by decide, hhd, hTx, hlen⟩
    · simp (config := {dsimp := false}) only [↓vp0, vz, vn, nq, tys, cellD, wideIR, if_true, if_false, implies_true, forall_const, ne_eq, reduceIte, reduceCtorEq, Nat.reduceEqDiff, Nat.reduceAdd, Nat.reduceMul, Nat.reduceLT, Nat.reduceSub, Nat.reduceLeDiff, Nat.reduceBNe, Nat.reduceBEq, Nat.reduceBeqDiff, List.range, List.range.loop, gl0, Tryz.ntmps6, Tryz.results6, PF.toR, givesIf, rulesD, show decide (((4 : Nat) : Int) < ((6 : Nat) : Int)) = true from rfl, show Int.toNat (((4 : Nat) : Int)) = 4 from rfl, List.getD_cons_zero, List.getD_cons_succ, txs_D, hc, spec_rule4, sp_rule4, c_rule4, b_rule4]
      refine ⟨by decide, by decide, hhd, hTx, hlen, ⟨5, by decide, fun j hj => ?_⟩, ⟨⟨wkD_eq rfl, rfl, wkD_eq rfl, rfl, wkD_eq rfl, rfl, wkD_eq rfl, rfl, trivial⟩, ⟨rfl, Nat.le_of_ble_eq_true rfl, rfl, trivial⟩, trivial⟩, by (try simp only); omega⟩
      rcases Nat.lt_or_ge j 4 with h7 | h7
      · exact hb j h7
      · obtain rfl : j = 4 := by omega
        exact hc
  · cases hc : ruleP 5 l hr
    · have hn := block_no (by decide) hb hc
      simp (config := {dsimp := false}) only [↓vp0, vz, vn, nq, tys, cellD, wideIR, if_true, if_false, implies_true, forall_const, ne_eq, reduceIte, reduceCtorEq, Nat.reduceEqDiff, Nat.reduceAdd, Nat.reduceMul, Nat.reduceLT, Nat.reduceSub, Nat.reduceLeDiff, Nat.reduceBNe, Nat.reduceBEq, Nat.reduceBeqDiff, List.range, List.range.loop, gl0, Tryz.ntmps6, Tryz.results6, PF.toR, givesIf, rulesD, show decide (((5 : Nat) : Int) < ((6 : Nat) : Int)) = true from rfl, show Int.toNat (((5 : Nat) : Int)) = 5 from rfl, List.getD_cons_zero, List.getD_cons_succ, txs_D, hc, hn, ruleE, spec_cwitnessed, sp_cwitnessed, c_cwitnessed, b_cwitnessed]
      exact ⟨by decide, by decide, hhd, hTx, hlen⟩
    · simp (config := {dsimp := false}) only [↓vp0, vz, vn, nq, tys, cellD, wideIR, if_true, if_false, implies_true, forall_const, ne_eq, reduceIte, reduceCtorEq, Nat.reduceEqDiff, Nat.reduceAdd, Nat.reduceMul, Nat.reduceLT, Nat.reduceSub, Nat.reduceLeDiff, Nat.reduceBNe, Nat.reduceBEq, Nat.reduceBeqDiff, List.range, List.range.loop, gl0, Tryz.ntmps6, Tryz.results6, PF.toR, givesIf, rulesD, show decide (((5 : Nat) : Int) < ((6 : Nat) : Int)) = true from rfl, show Int.toNat (((5 : Nat) : Int)) = 5 from rfl, List.getD_cons_zero, List.getD_cons_succ, txs_D, hc, spec_cwitnessed, sp_cwitnessed, c_cwitnessed, b_cwitnessed]
      refine ⟨by decide, by decide, hhd, hTx, hlen, ⟨6, by decide, fun j hj => ?_⟩, ⟨⟨wkD_eq rfl, rfl, wkD_eq rfl, rfl, wkD_eq rfl, rfl, wkD_eq rfl, rfl, trivial⟩, ⟨rfl, Nat.le_of_ble_eq_true rfl, rfl, trivial⟩, trivial⟩, by (try simp only); omega⟩
      rcases Nat.lt_or_ge j 5 with h7 | h7
      · exact hb j h7
      · obtain rfl : j = 5 := by omega
        exact hc
end Go.Vi.CZ
end

section
/-
  THE CHAPTER's BLOCK passes; with another Root it does not.
-/
set_option linter.unusedVariables false
set_option linter.unusedSimpArgs false
namespace Go.Vi
theorem plain_base : baseP plainP = true := rfl
theorem plain_ptx : txs [D.agg [.int .u32 0, .sl .no 36 [D.agg [D.agg [D.arr .u8 32 (List.replicate 32 0), .int .u32 4294967295], .sli .no .u8 [1, 2], .int .u32 0, .sl .no 1 []]], .sl .no 2 [D.agg [.int .i64 50, .sli .no .u8 []]], .int .u32 0]] = [plainP] := rfl
theorem ids_one (t : TxP) : idsP [t] = [idP t] := rfl
theorem rootP_one (x : List Int) : rootP [x] = x := root_one (l := [x]) (i := 0) (by simp) (by simp)
theorem allP_one (x : List Int) : allP [x] = [] := by
  have hd : dep [x].length = 0 := by rw [dep]; simp
  unfold allP; rw [hd]; rfl
theorem plain_rule (hr : List Int) (j : Nat) (hj : j < 6) : ruleP j [plainP] hr = if j = 3 then decide (idP plainP = hr) else true := by
  match j, hj with
  | 0, _ => rfl
  | 1, _ => rfl
  | 2, _ => rfl
  | 3, _ => show decide (rootP (idsP [plainP]) = hr) = _; rw [ids_one, rootP_one]; rfl
  | 4, _ => show (!mutP (allP (idsP [plainP]))) = _; rw [ids_one, allP_one]; rfl
  | 5, _ => rfl
theorem plain_block : blockP [plainP] (idP plainP) = 0 := block_yes fun j hj => by
  rw [plain_rule _ j hj]
  split
  · exact decide_eq_true rfl
  · rfl
theorem plain_block_no {hr : List Int} (h : hr ≠ idP plainP) : blockP [plainP] hr = 20 :=
  block_no (k := 3) (by decide) (fun j hj => by rw [plain_rule _ j (by omega), if_neg (by omega)]) (by rw [plain_rule _ 3 (by decide), if_pos rfl]; exact decide_eq_false fun e => h e.symm)
set_option maxRecDepth 100000 in
theorem xor1_ne : ∀ x : Fin 256, xorI .u8 ((x.1 : Nat) : Int) 1 ≠ ((x.1 : Nat) : Int) := by decide
theorem xor1_ne' {x : Int} (h : 0 ≤ x ∧ x < 256) : xorI .u8 x 1 ≠ x := by
  have := xor1_ne ⟨x.toNat, by omega⟩
  simp only at this
  rwa [show ((x.toNat : Nat) : Int) = x by omega] at this
theorem id_bytesP (t : TxP) : bytes (idP t) := by
  unfold idP
  split
  · exact bytes_sum _
  · exact bytes_rep 32
theorem set_ne {l : List Int} (hl : l.length = 32) (hb : bytes l) : l.set 0 (xorI .u8 (l.getD 0 0) 1) ≠ l := by
  intro e
  have h0 : 0 < l.length := by omega
  have h1 : (l.set 0 (xorI .u8 (l.getD 0 0) 1)).getD 0 0 = xorI .u8 (l.getD 0 0) 1 := by simp [List.getD, h0]
  rw [e] at h1
  have hm : l.getD 0 0 ∈ l := getD_memI h0
  exact xor1_ne' (hb _ hm) h1.symm
end Go.Vi
end

section
set_option linter.unusedVariables false
set_option linter.unusedSimpArgs false
set_option maxHeartbeats 0
set_option maxRecDepth 20000
namespace Go.Vi.CZ
open Go.Proofs

theorem plain_eta : (⟨0, ins [D.agg [D.agg [D.arr .u8 32 (List.replicate 32 0), .int .u32 4294967295], .sli .no .u8 [1, 2], .int .u32 0, .sl .no 1 []]], outs [D.agg [.int .i64 50, .sli .no .u8 []]], 0⟩ : TxP) = plainP := rfl
theorem c_plain : Contract E 8 := by
  refine contract_seeT hE hgl (show E.P.funcs[8]? = some Tryz.f8 from Tryz.func8) rfl (p := sp_plain) (fun _ _ _ => rfl) ?_
  intro args hv
  unfold sp_plain at hv ⊢
  split at hv
  case h_2 => exact hv.elim
  refine ⟨by simp, Nat.le_of_ble_eq_true rfl, ?_⟩
  have hok := tx_okT plain_ok
  simp (config := {dsimp := false}) only [↓vp0, vz, vn, nq, tys, cellD, wideIR, if_true, if_false, implies_true, forall_const, ne_eq, reduceIte, reduceCtorEq, Nat.reduceEqDiff, Nat.reduceAdd, Nat.reduceMul, Nat.reduceLT, Nat.reduceSub, Nat.reduceLeDiff, Nat.reduceBNe, Nat.reduceBEq, Nat.reduceBeqDiff, List.range, List.range.loop, gl0, Tryz.ntmps8, Tryz.results8, PF.toR, gives, spec_tid, sp_tid, c_tid, b_tid]
  refine drawX [0, 1] [(4, [0, 1, 2])] [] (by kernel_rfl) (wild_of rfl) ?_
  simp (config := {dsimp := false}) only [↓vp0, vz, vn, nq, tys, cellD, wideIR, if_true, if_false, implies_true, forall_const, ne_eq, reduceIte, reduceCtorEq, Nat.reduceEqDiff, Nat.reduceAdd, Nat.reduceMul, Nat.reduceLT, Nat.reduceSub, Nat.reduceLeDiff, Nat.reduceBNe, Nat.reduceBEq, Nat.reduceBeqDiff, List.range, List.range.loop, gl0, Tryz.ntmps8, Tryz.results8, vb, ↓vy0, vx0, PF.toR, gives, givesIf, D.bare, bares, Own.bare, D.strip, D.strips, stripO, if_true, plain_eta, plainD, plainT, spec_tid, sp_tid, c_tid, b_tid]
  exact ⟨hok, okUps_all rfl (by kernel_rfl)⟩
theorem c_cworks : Contract E 5 := by
  refine contract_seeT hE hgl (show E.P.funcs[5]? = some Tryz.f5 from Tryz.func5) rfl (p := sp_cworks) (fun _ _ _ => rfl) ?_
  intro args hv
  unfold sp_cworks at hv ⊢
  split at hv
  case h_2 => exact hv.elim
  refine ⟨by simp, Nat.le_of_ble_eq_true rfl, ?_⟩
  have hok := tx_okT plain_ok
  have hid : (idP plainP).length = 32 := id_len _
  have hb0 : decide (blockP [plainP] (idP plainP) = 0) = true := decide_eq_true plain_block
  have hb1 : decide (blockP [plainP] ((idP plainP).set 0 (xorI IntKind.u8 ((idP plainP).getD 0 0) 1)) = 20) = true := decide_eq_true (plain_block_no (set_ne hid (id_bytesP _)))
  simp (config := {dsimp := false}) only [↓vp0, vz, vn, nq, tys, cellD, wideIR, if_true, if_false, implies_true, forall_const, ne_eq, reduceIte, reduceCtorEq, Nat.reduceEqDiff, Nat.reduceAdd, Nat.reduceMul, Nat.reduceLT, Nat.reduceSub, Nat.reduceLeDiff, Nat.reduceBNe, Nat.reduceBEq, Nat.reduceBeqDiff, List.range, List.range.loop, gl0, Tryz.ntmps5, Tryz.results5, vb, PF.toR, gives, givesIf, plainD, plainT, D.bare, bares, Own.bare, D.strip, D.strips, stripO, if_true, plain_eta, plain_ptx, plain_base, hb0, hb1, show Int.toNat 0 = 0 from rfl, List.getD_cons_zero, spec_plain, sp_plain, c_plain, b_plain, spec_cbase, sp_cbase, c_cbase, b_cbase, spec_cblock, sp_cblock, c_cblock, b_cblock]
  have hTx : isTxL (txsD [plainP]) := ⟨_, rfl, fun x hx => by obtain rfl := List.mem_singleton.1 hx; exact plain_ok, by decide⟩
  have hl : ((idP plainP).set 0 (xorI IntKind.u8 ((idP plainP).getD 0 0) 1)).length = 32 := by rw [List.length_set]; exact hid
  refine ⟨Int.le_refl _, by decide, Int.le_refl _, by decide, Int.le_refl _, by decide, anyT_tx plain_ok.any, ⟨by simp, hid⟩, hTx, ⟨by simp, hl⟩, hTx⟩
end Go.Vi.CZ
end

section
set_option linter.unusedVariables false
set_option linter.unusedSimpArgs false
set_option maxHeartbeats 0
set_option maxRecDepth 20000
namespace Go.Vi.CZ
open Go.Proofs

theorem c_rcbase : Contract E 11 := by
  refine contract_seeT hE hgl (show E.P.funcs[11]? = some Tryz.f11 from Tryz.func11) rfl (p := sp_rcbase) (fun _ _ _ => rfl) ?_
  intro args hv
  unfold sp_rcbase at hv ⊢
  split at hv
  case h_2 => exact hv.elim
  rename_i v is os l
  refine ⟨by simp, Nat.le_of_ble_eq_true rfl, ?_⟩
  simp only [givesIf] at hv
  obtain ⟨t, rfl, rfl, rfl, rfl, ht⟩ := hv
  rw [tx_eta]
  by_cases h1 : t.ins.length = 1
  case neg =>
    have d1 : decide (((t.ins.length : Nat) : Int) = 1) = false := decide_eq_false (by omega)
    simp (config := {dsimp := false}) only [↓vp0, vz, vn, nq, tys, cellD, wideIR, if_true, if_false, implies_true, forall_const, ne_eq, reduceIte, reduceCtorEq, Nat.reduceEqDiff, Nat.reduceAdd, Nat.reduceMul, Nat.reduceLT, Nat.reduceSub, Nat.reduceLeDiff, Nat.reduceBNe, Nat.reduceBEq, Nat.reduceBeqDiff, List.range, List.range.loop, gl0, Tryz.ntmps11, Tryz.results11, d1, base_not1 h1, givesIf]
    all_goals rfl
  obtain ⟨tv, ti, to, tl⟩ := t
  obtain ⟨x, rfl⟩ : ∃ x, ti = [x] := by
    match ti, h1 with
    | [x], _ => exact ⟨x, rfl⟩
  have hx := ht.ins x (List.mem_cons_self ..)
  cases hd : decide (x.ix = 4294967295)
  all_goals simp (config := {dsimp := false}) only [↓vp0, vz, vn, nq, tys, cellD, wideIR, if_true, if_false, implies_true, forall_const, ne_eq, reduceIte, reduceCtorEq, Nat.reduceEqDiff, Nat.reduceAdd, Nat.reduceMul, Nat.reduceLT, Nat.reduceSub, Nat.reduceLeDiff, Nat.reduceBNe, Nat.reduceBEq, Nat.reduceBeqDiff, List.range, List.range.loop, gl0, Tryz.ntmps11, Tryz.results11, show insD [x] = [inD x] from rfl, inD, show decide (((1 : Nat) : Int) = 1) = true from rfl, show Int.toNat 0 = 0 from rfl, List.getD_cons_zero, hd, baseP, inBase, givesIf]
  all_goals exact ⟨Int.le_refl _, by decide⟩
theorem c_rcsum : Contract E 12 := by
  refine contract_seeT hE hgl (show E.P.funcs[12]? = some Tryz.f12 from Tryz.func12) rfl (p := sp_rcsum) (fun _ _ _ => rfl) ?_
  intro args hv
  unfold sp_rcsum at hv ⊢
  split at hv
  case h_2 => exact hv.elim
  rename_i v is os l
  refine ⟨by simp, Nat.le_of_ble_eq_true rfl, ?_⟩
  simp only [givesIf] at hv
  obtain ⟨t, rfl, rfl, rfl, rfl, ht⟩ := hv
  have hmo := ht.mo
  simp only [outs_D]
  simp (config := {dsimp := false}) only [↓vp0, vz, vn, nq, tys, cellD, wideIR, if_true, if_false, implies_true, forall_const, ne_eq, reduceIte, reduceCtorEq, Nat.reduceEqDiff, Nat.reduceAdd, Nat.reduceMul, Nat.reduceLT, Nat.reduceSub, Nat.reduceLeDiff, Nat.reduceBNe, Nat.reduceBEq, Nat.reduceBeqDiff, List.range, List.range.loop, gl0, Tryz.ntmps12, Tryz.results12]
  refine loopI {p : Nat × Int // p.1 ≤ t.outs.length ∧ sumG 0 (t.outs.take p.1) = some p.2 ∧ 0 ≤ p.2 ∧ p.2 ≤ 2100000000000000} (fun p => [(5, .int .i64 (p.1.1 : Nat)), (4, .int .i64 p.1.2), (1, .bp 0 0)]) (fun _ => ⟨[(0, .agg [.int .u32 t.ver, .sl .no 36 (insD t.ins), .sl .no 2 (outsD t.outs), .int .u32 t.lock])], [], 20⟩) (fun p => t.outs.length - p.1.1) ⟨(0, 0), by simp [sumG]⟩ (fun _ => rfl) ?_ ?_
  · exact ⟨⟨wkD_eq rfl, rfl, wkD_eq rfl, rfl, wkD_eq rfl, rfl, trivial⟩, ⟨rfl, Nat.le_of_ble_eq_true rfl, rfl, trivial⟩, trivial⟩
  rintro ⟨⟨k, s⟩, hk, hs, hs0, hs1⟩
  simp only at hk hs hs0 hs1
  simp (config := {dsimp := false}) only [↓vp0, vz, vn, nq, tys, cellD, wideIR, if_true, if_false, implies_true, forall_const, ne_eq, reduceIte, reduceCtorEq, Nat.reduceEqDiff, Nat.reduceAdd, Nat.reduceMul, Nat.reduceLT, Nat.reduceSub, Nat.reduceLeDiff, Nat.reduceBNe, Nat.reduceBEq, Nat.reduceBeqDiff, List.range, List.range.loop, gl0, Tryz.ntmps12, Tryz.results12]
  refine ⟨fun hh => ?_, fun hh => ?_⟩
  case refine_2 =>
    have hh := of_decide_eq_false hh
    obtain rfl : k = t.outs.length := by omega
    rw [List.take_of_length_le (Nat.le_refl _)] at hs
    simp (config := {dsimp := false}) only [↓vp0, vz, vn, nq, tys, cellD, wideIR, if_true, if_false, implies_true, forall_const, ne_eq, reduceIte, reduceCtorEq, Nat.reduceEqDiff, Nat.reduceAdd, Nat.reduceMul, Nat.reduceLT, Nat.reduceSub, Nat.reduceLeDiff, Nat.reduceBNe, Nat.reduceBEq, Nat.reduceBeqDiff, List.range, List.range.loop, gl0, Tryz.ntmps12, Tryz.results12, hs, sumV, givesIf]
    all_goals rfl
  have hh := of_decide_eq_true hh
  have hk' : k < t.outs.length := by omega
  have g0 := outsD_get t.outs k hk'
  have hno := sumG_no hk' hs
  have hyes := sumG_step hk' hs
  have hv64 := (ht.outs _ (getD_memI hk')).value
  generalize t.outs.getD k default = x at *
  by_cases c1 : x.value < 0
  · have d1 : decide (x.value < 0) = true := decide_eq_true c1
    simp (config := {dsimp := false}) only [↓vp0, vz, vn, nq, tys, cellD, wideIR, if_true, if_false, implies_true, forall_const, ne_eq, reduceIte, reduceCtorEq, Nat.reduceEqDiff, Nat.reduceAdd, Nat.reduceMul, Nat.reduceLT, Nat.reduceSub, Nat.reduceLeDiff, Nat.reduceBNe, Nat.reduceBEq, Nat.reduceBeqDiff, List.range, List.range.loop, gl0, Tryz.ntmps12, Tryz.results12, Int.toNat_natCast, g0, outD, d1, hno (.inl c1), sumV, givesIf]
    exact ⟨by omega, by omega⟩
  have d1 : decide (x.value < 0) = false := decide_eq_false c1
  by_cases c2 : 2100000000000000 < x.value
  · have d2 : decide (2100000000000000 < x.value) = true := decide_eq_true c2
    simp (config := {dsimp := false}) only [↓vp0, vz, vn, nq, tys, cellD, wideIR, if_true, if_false, implies_true, forall_const, ne_eq, reduceIte, reduceCtorEq, Nat.reduceEqDiff, Nat.reduceAdd, Nat.reduceMul, Nat.reduceLT, Nat.reduceSub, Nat.reduceLeDiff, Nat.reduceBNe, Nat.reduceBEq, Nat.reduceBeqDiff, List.range, List.range.loop, gl0, Tryz.ntmps12, Tryz.results12, Int.toNat_natCast, g0, outD, d1, d2, hno (.inr (.inl c2)), sumV, givesIf]
    exact ⟨by omega, by omega⟩
  have d2 : decide (2100000000000000 < x.value) = false := decide_eq_false c2
  have hw : IntKind.wrap .i64 (s + x.value) = s + x.value := wrapI64 (by omega) (by omega)
  by_cases c3 : 2100000000000000 < s + x.value
  · have d3 : decide (2100000000000000 < s + x.value) = true := decide_eq_true c3
    simp (config := {dsimp := false}) only [↓vp0, vz, vn, nq, tys, cellD, wideIR, if_true, if_false, implies_true, forall_const, ne_eq, reduceIte, reduceCtorEq, Nat.reduceEqDiff, Nat.reduceAdd, Nat.reduceMul, Nat.reduceLT, Nat.reduceSub, Nat.reduceLeDiff, Nat.reduceBNe, Nat.reduceBEq, Nat.reduceBeqDiff, List.range, List.range.loop, gl0, Tryz.ntmps12, Tryz.results12, Int.toNat_natCast, g0, outD, d1, d2, hw, d3, hno (.inr (.inr c3)), sumV, givesIf]
    exact ⟨by omega, by omega⟩
  have d3 : decide (2100000000000000 < s + x.value) = false := decide_eq_false c3
  simp (config := {dsimp := false}) only [↓vp0, vz, vn, nq, tys, cellD, wideIR, if_true, if_false, implies_true, forall_const, ne_eq, reduceIte, reduceCtorEq, Nat.reduceEqDiff, Nat.reduceAdd, Nat.reduceMul, Nat.reduceLT, Nat.reduceSub, Nat.reduceLeDiff, Nat.reduceBNe, Nat.reduceBEq, Nat.reduceBeqDiff, List.range, List.range.loop, gl0, Tryz.ntmps12, Tryz.results12, Int.toNat_natCast, g0, outD, d1, d2, d3, hw]
  refine ⟨by omega, by omega, ⟨(k + 1, s + x.value), by simp only; omega, hyes ?_, by simp only; omega, by simp only; omega⟩, ⟨⟨wkD_eq ?_, rfl, wkD_eq rfl, rfl, wkD_eq rfl, rfl, trivial⟩, ⟨rfl, Nat.le_of_ble_eq_true rfl, rfl, trivial⟩, trivial⟩, by (try simp only); omega⟩
  · unfold badO; omega
  · exact some_i64 (by (try simp only); omega)
end Go.Vi.CZ
end

section
set_option linter.unusedVariables false
set_option linter.unusedSimpArgs false
set_option maxHeartbeats 0
set_option maxRecDepth 20000
namespace Go.Vi.CZ
open Go.Proofs

theorem mix_set {a b : List Int} {m : Nat} (ha : m < a.length) (hb : m < b.length) : (a.take m ++ b.drop m).set m (a.getD m 0) = a.take (m + 1) ++ b.drop (m + 1) := by
  apply List.ext_getElem
  · simp; omega
  · intro i h1 h2
    rw [List.getElem_set]
    split
    · rename_i e
      subst e
      rw [List.getElem_append_left (by simp; omega)]
      simp [List.getD, ha]
    · rename_i hne
      rcases Nat.lt_or_ge i m with h | h
      · rw [List.getElem_append_left (by simp; omega), List.getElem_append_left (by simp; omega)]; simp
      · rw [List.getElem_append_right (by simp; omega), List.getElem_append_right (by simp; omega)]
        simp only [List.getElem_drop, List.length_take]
        congr 1
        omega
theorem mix_all {a b : List Int} {m : Nat} (ha : a.length = m) (hb : b.length = m) : a.take m ++ b.drop m = a := by
  rw [List.take_of_length_le (by omega), List.drop_of_length_le (by omega), List.append_nil]
theorem mark_snoc (l : List OutP) (x : OutP) : lastMark (l ++ [x]) = if markedP x.script = true then some ((x.script.drop 6).take 32) else lastMark l := by
  induction l with
  | nil => rfl
  | cons y r ih =>
    by_cases hm : markedP x.script = true
    · simp only [List.cons_append, lastMark, ih, hm, if_true]
    · simp only [List.cons_append, lastMark, ih, hm, if_false]; rfl
def hOf (o : Option (List Int)) : List Int := o.getD (List.replicate 32 0)
theorem mark_len {l : List OutP} {h : List Int} (e : lastMark l = some h) : h.length = 32 := by
  induction l with
  | nil => cases e
  | cons y r ih =>
    simp only [lastMark] at e
    split at e
    · rename_i h' e'; cases e; exact ih e'
    · split at e
      · rename_i hm; cases e
        have := of_decide_eq_true (Bool.and_eq_true_iff.1 hm).1
        simp only [List.length_take, List.length_drop]; omega
      · cases e
theorem hOf_len (l : List OutP) : (hOf (lastMark l)).length = 32 := by
  cases e : lastMark l with
  | none => rfl
  | some h => exact mark_len e
theorem hashV_eq (o : Option (List Int)) : hashV o = .tup [.arr .u8 32 (hOf o), .bool o.isSome] := by cases o <;> rfl
theorem mark_not {s : List Int} {i : Nat} (h : i < 6) {c : Int} (hc : markB.getD i 0 = c) (hl : 38 ≤ s.length) (e : ¬ s.getD i 0 = c) : markedP s = false := by
  unfold markedP
  rw [decide_eq_false (p := s.take 6 = _), Bool.and_false]
  intro h6
  apply e
  have h6 : s.take 6 = markB := h6
  rw [← hc, ← h6]
  simp [List.getD, List.getElem?_take, h]
theorem mark_yes {s : List Int} (hl : 38 ≤ s.length) (e0 : s.getD 0 0 = 106) (e1 : s.getD 1 0 = 36) (e2 : s.getD 2 0 = 170) (e3 : s.getD 3 0 = 33) (e4 : s.getD 4 0 = 169) (e5 : s.getD 5 0 = 237) : markedP s = true := by
  unfold markedP
  match s, hl with
  | a :: b :: c :: d :: e :: f :: r, hl =>
    simp only [List.getD_cons_zero, List.getD_cons_succ] at e0 e1 e2 e3 e4 e5
    subst e0 e1 e2 e3 e4 e5
    rw [decide_eq_true hl]; simp
theorem c_rcommit : Contract E 15 := by
  refine contract_seeT hE hgl (show E.P.funcs[15]? = some Tryz.f15 from Tryz.func15) rfl (p := sp_gcommit) (fun _ _ _ => rfl) ?_
  intro args hv
  unfold sp_gcommit at hv ⊢
  split at hv
  case h_2 => exact hv.elim
  rename_i h0 hp hr h1 h2 h3 es
  refine ⟨by simp, Nat.le_of_ble_eq_true rfl, ?_⟩
  simp only [givesIf] at hv
  obtain ⟨hhd, L, rfl, hok, hl⟩ := hv
  simp only [txs_D]
  rw [hashV_eq]
  by_cases hz : L.length = 0
  · obtain rfl := List.eq_nil_of_length_eq_zero hz
    simp (config := {dsimp := false}) only [↓vp0, vz, vn, nq, tys, cellD, wideIR, if_true, if_false, implies_true, forall_const, ne_eq, reduceIte, reduceCtorEq, Nat.reduceEqDiff, Nat.reduceAdd, Nat.reduceMul, Nat.reduceLT, Nat.reduceSub, Nat.reduceLeDiff, Nat.reduceBNe, Nat.reduceBEq, Nat.reduceBeqDiff, List.range, List.range.loop, gl0, Tryz.ntmps15, Tryz.results15, show txsD [] = [] from rfl, show decide (((0 : Nat) : Int) = 0) = true from rfl, commitP, hOf, givesIf]
    all_goals rfl
  have d0 : decide (((L.length : Nat) : Int) = 0) = false := decide_eq_false (by omega)
  obtain ⟨t, r, hL⟩ : ∃ t r, L = t :: r := by cases L with
    | nil => exact absurd rfl hz
    | cons t r => exact ⟨t, r, rfl⟩
  have g0 : (txsD L).getD (Int.toNat 0) .any = txD t := by rw [hL]; rfl
  have ht := hok t (by rw [hL]; exact List.mem_cons_self ..)
  have hmo := ht.mo
  have hC : commitP L = lastMark t.outs := by rw [hL]; rfl
  simp (config := {dsimp := false}) only [↓vp0, vz, vn, nq, tys, cellD, wideIR, if_true, if_false, implies_true, forall_const, ne_eq, reduceIte, reduceCtorEq, Nat.reduceEqDiff, Nat.reduceAdd, Nat.reduceMul, Nat.reduceLT, Nat.reduceSub, Nat.reduceLeDiff, Nat.reduceBNe, Nat.reduceBEq, Nat.reduceBeqDiff, List.range, List.range.loop, gl0, Tryz.ntmps15, Tryz.results15, d0]
  refine loopI (Fin (t.outs.length + 1)) (fun k => [(6, .int .i64 (k.1 : Nat)), (5, .bool (lastMark (t.outs.take k.1)).isSome), (1, .bp 0 0), (2, .bp 4 0), (4, .bp 12 0)]) (fun k => ⟨[(0, .agg [.agg [.int .u32 h0, .arr .u8 32 hp, .arr .u8 32 hr, .int .u32 h1, .int .u32 h2, .int .u32 h3], .sl .no 4 (txsD L)]), (4, .arr .u8 32 (List.replicate 32 0)), (12, .arr .u8 32 (hOf (lastMark (t.outs.take k.1))))], [], 40⟩) (fun k => t.outs.length - k.1) 0 (fun _ => rfl) ?_ ?_
  · exact ⟨⟨wkD_eq rfl, rfl, wkD_eq rfl, rfl, wkD_eq rfl, rfl, wkD_eq rfl, rfl, wkD_eq rfl, rfl, trivial⟩, ⟨rfl, Nat.le_of_ble_eq_true rfl, rfl, rfl, Nat.le_of_ble_eq_true rfl, rfl, rfl, Nat.le_of_ble_eq_true rfl, rfl, trivial⟩, trivial⟩
  rintro ⟨k, hk⟩
  simp (config := {dsimp := false}) only [↓vp0, vz, vn, nq, tys, cellD, wideIR, if_true, if_false, implies_true, forall_const, ne_eq, reduceIte, reduceCtorEq, Nat.reduceEqDiff, Nat.reduceAdd, Nat.reduceMul, Nat.reduceLT, Nat.reduceSub, Nat.reduceLeDiff, Nat.reduceBNe, Nat.reduceBEq, Nat.reduceBeqDiff, List.range, List.range.loop, gl0, Tryz.ntmps15, Tryz.results15, g0, txD]
  refine ⟨Int.le_refl _, by omega, fun hh => ?_, fun hh => ?_⟩
  · have hh := of_decide_eq_true hh
    have hk' : k < t.outs.length := by omega
    have g1 := outsD_get t.outs k hk'
    have hx := ht.outs _ (getD_memI hk')
    have htk : t.outs.take (k + 1) = t.outs.take k ++ [t.outs.getD k default] := by rw [List.take_add_one]; simp [List.getD, hk']
    have hsn := mark_snoc (t.outs.take k) (t.outs.getD k default)
    rw [← htk] at hsn
    obtain ⟨x, hxe⟩ : ∃ x, t.outs.getD k default = x := ⟨_, rfl⟩
    rw [hxe] at g1 hx hsn
    obtain ⟨old, hold⟩ : ∃ o, hOf (lastMark (t.outs.take k)) = o := ⟨_, rfl⟩
    have hol : old.length = 32 := by rw [← hold]; exact hOf_len _
    have back : markedP x.script = false → lastMark (t.outs.take (k + 1)) = lastMark (t.outs.take k) := fun hm => by rw [hsn, hm]; rfl
    have hsl := hx.script.2
    by_cases c : 38 ≤ x.script.length
    case neg =>
      have hm : markedP x.script = false := by unfold markedP; rw [decide_eq_false c, Bool.false_and]
      have dl : decide (((x.script.length : Nat) : Int) < 38) = true := decide_eq_true (by omega)
      simp (config := {dsimp := false}) only [↓vp0, vz, vn, nq, tys, cellD, wideIR, if_true, if_false, implies_true, forall_const, ne_eq, reduceIte, reduceCtorEq, Nat.reduceEqDiff, Nat.reduceAdd, Nat.reduceMul, Nat.reduceLT, Nat.reduceSub, Nat.reduceLeDiff, Nat.reduceBNe, Nat.reduceBEq, Nat.reduceBeqDiff, List.range, List.range.loop, gl0, Tryz.ntmps15, Tryz.results15, g0, g1, txD, outD, Int.toNat_natCast, dl]
      refine ⟨Int.le_refl _, by omega, by omega, by omega, ⟨k + 1, by omega⟩, ⟨⟨wkD_eq ?_, rfl, wkD_eq ?_, rfl, wkD_eq rfl, rfl, wkD_eq rfl, rfl, wkD_eq rfl, rfl, trivial⟩, ⟨rfl, Nat.le_of_ble_eq_true rfl, rfl, rfl, Nat.le_of_ble_eq_true rfl, rfl, ?_, Nat.le_of_ble_eq_true rfl, rfl, trivial⟩, trivial⟩, by (try simp only); omega⟩
      · exact some_i64 (by (try simp only); omega)
      · rw [back hm]; rfl
      · rw [back hm]; rfl
    have dl : decide (((x.script.length : Nat) : Int) < 38) = false := decide_eq_false (by omega)
    by_cases e0 : x.script.getD 0 0 = 106
    case neg =>
      have hm := mark_not (i := 0) (by decide) (c := 106) rfl c e0
      simp (config := {dsimp := false}) only [↓vp0, vz, vn, nq, tys, cellD, wideIR, if_true, if_false, implies_true, forall_const, ne_eq, reduceIte, reduceCtorEq, Nat.reduceEqDiff, Nat.reduceAdd, Nat.reduceMul, Nat.reduceLT, Nat.reduceSub, Nat.reduceLeDiff, Nat.reduceBNe, Nat.reduceBEq, Nat.reduceBeqDiff, List.range, List.range.loop, gl0, Tryz.ntmps15, Tryz.results15, g0, g1, txD, outD, Int.toNat_natCast, dl, e0, show Int.toNat 0 = 0 from rfl, decide_true, decide_false]
      refine ⟨Int.le_refl _, by omega, by omega, by omega, by omega, by omega, ⟨k + 1, by omega⟩, ⟨⟨wkD_eq ?_, rfl, wkD_eq ?_, rfl, wkD_eq rfl, rfl, wkD_eq rfl, rfl, wkD_eq rfl, rfl, trivial⟩, ⟨rfl, Nat.le_of_ble_eq_true rfl, rfl, rfl, Nat.le_of_ble_eq_true rfl, rfl, ?_, Nat.le_of_ble_eq_true rfl, rfl, trivial⟩, trivial⟩, by (try simp only); omega⟩
      · exact some_i64 (by (try simp only); omega)
      · rw [back hm]; rfl
      · rw [back hm]; rfl
    by_cases e1 : x.script.getD 1 0 = 36
    case neg =>
      have hm := mark_not (i := 1) (by decide) (c := 36) rfl c e1
      simp (config := {dsimp := false}) only [↓vp0, vz, vn, nq, tys, cellD, wideIR, if_true, if_false, implies_true, forall_const, ne_eq, reduceIte, reduceCtorEq, Nat.reduceEqDiff, Nat.reduceAdd, Nat.reduceMul, Nat.reduceLT, Nat.reduceSub, Nat.reduceLeDiff, Nat.reduceBNe, Nat.reduceBEq, Nat.reduceBeqDiff, List.range, List.range.loop, gl0, Tryz.ntmps15, Tryz.results15, g0, g1, txD, outD, Int.toNat_natCast, dl, e0, e1, show Int.toNat 0 = 0 from rfl, show Int.toNat 1 = 1 from rfl, decide_true, decide_false]
      refine ⟨Int.le_refl _, by omega, by omega, by omega, by omega, by omega, by omega, by omega, ⟨k + 1, by omega⟩, ⟨⟨wkD_eq ?_, rfl, wkD_eq ?_, rfl, wkD_eq rfl, rfl, wkD_eq rfl, rfl, wkD_eq rfl, rfl, trivial⟩, ⟨rfl, Nat.le_of_ble_eq_true rfl, rfl, rfl, Nat.le_of_ble_eq_true rfl, rfl, ?_, Nat.le_of_ble_eq_true rfl, rfl, trivial⟩, trivial⟩, by (try simp only); omega⟩
      · exact some_i64 (by (try simp only); omega)
      · rw [back hm]; rfl
      · rw [back hm]; rfl
    by_cases e2 : x.script.getD 2 0 = 170
    case neg =>
      have hm := mark_not (i := 2) (by decide) (c := 170) rfl c e2
      simp (config := {dsimp := false}) only [↓vp0, vz, vn, nq, tys, cellD, wideIR, if_true, if_false, implies_true, forall_const, ne_eq, reduceIte, reduceCtorEq, Nat.reduceEqDiff, Nat.reduceAdd, Nat.reduceMul, Nat.reduceLT, Nat.reduceSub, Nat.reduceLeDiff, Nat.reduceBNe, Nat.reduceBEq, Nat.reduceBeqDiff, List.range, List.range.loop, gl0, Tryz.ntmps15, Tryz.results15, g0, g1, txD, outD, Int.toNat_natCast, dl, e0, e1, e2, show Int.toNat 0 = 0 from rfl, show Int.toNat 1 = 1 from rfl, show Int.toNat 2 = 2 from rfl, decide_true, decide_false]
      refine ⟨Int.le_refl _, by omega, by omega, by omega, by omega, by omega, by omega, by omega, by omega, by omega, ⟨k + 1, by omega⟩, ⟨⟨wkD_eq ?_, rfl, wkD_eq ?_, rfl, wkD_eq rfl, rfl, wkD_eq rfl, rfl, wkD_eq rfl, rfl, trivial⟩, ⟨rfl, Nat.le_of_ble_eq_true rfl, rfl, rfl, Nat.le_of_ble_eq_true rfl, rfl, ?_, Nat.le_of_ble_eq_true rfl, rfl, trivial⟩, trivial⟩, by (try simp only); omega⟩
      · exact some_i64 (by (try simp only); omega)
      · rw [back hm]; rfl
      · rw [back hm]; rfl
    by_cases e3 : x.script.getD 3 0 = 33
    case neg =>
      have hm := mark_not (i := 3) (by decide) (c := 33) rfl c e3
      simp (config := {dsimp := false}) only [↓vp0, vz, vn, nq, tys, cellD, wideIR, if_true, if_false, implies_true, forall_const, ne_eq, reduceIte, reduceCtorEq, Nat.reduceEqDiff, Nat.reduceAdd, Nat.reduceMul, Nat.reduceLT, Nat.reduceSub, Nat.reduceLeDiff, Nat.reduceBNe, Nat.reduceBEq, Nat.reduceBeqDiff, List.range, List.range.loop, gl0, Tryz.ntmps15, Tryz.results15, g0, g1, txD, outD, Int.toNat_natCast, dl, e0, e1, e2, e3, show Int.toNat 0 = 0 from rfl, show Int.toNat 1 = 1 from rfl, show Int.toNat 2 = 2 from rfl, show Int.toNat 3 = 3 from rfl, decide_true, decide_false]
      refine ⟨Int.le_refl _, by omega, by omega, by omega, by omega, by omega, by omega, by omega, by omega, by omega, by omega, by omega, ⟨k + 1, by omega⟩, ⟨⟨wkD_eq ?_, rfl, wkD_eq ?_, rfl, wkD_eq rfl, rfl, wkD_eq rfl, rfl, wkD_eq rfl, rfl, trivial⟩, ⟨rfl, Nat.le_of_ble_eq_true rfl, rfl, rfl, Nat.le_of_ble_eq_true rfl, rfl, ?_, Nat.le_of_ble_eq_true rfl, rfl, trivial⟩, trivial⟩, by (try simp only); omega⟩
      · exact some_i64 (by (try simp only); omega)
      · rw [back hm]; rfl
      · rw [back hm]; rfl
    by_cases e4 : x.script.getD 4 0 = 169
    case neg =>
      have hm := mark_not (i := 4) (by decide) (c := 169) rfl c e4
      simp (config := {dsimp := false}) only [↓vp0, vz, vn, nq, tys, cellD, wideIR, if_true, if_false, implies_true, forall_const, ne_eq, reduceIte, reduceCtorEq, Nat.reduceEqDiff, Nat.reduceAdd, Nat.reduceMul, Nat.reduceLT, Nat.reduceSub, Nat.reduceLeDiff, Nat.reduceBNe, Nat.reduceBEq, Nat.reduceBeqDiff, List.range, List.range.loop, gl0, Tryz.ntmps15, Tryz.results15, g0, g1, txD, outD, Int.toNat_natCast, dl, e0, e1, e2, e3, e4, show Int.toNat 0 = 0 from rfl, show Int.toNat 1 = 1 from rfl, show Int.toNat 2 = 2 from rfl, show Int.toNat 3 = 3 from rfl, show Int.toNat 4 = 4 from rfl, decide_true, decide_false]
      refine ⟨Int.le_refl _, by omega, by omega, by omega, by omega, by omega, by omega, by omega, by omega, by omega, by omega, by omega, by omega, by omega, ⟨k + 1, by omega⟩, ⟨⟨wkD_eq ?_, rfl, wkD_eq ?_, rfl, wkD_eq rfl, rfl, wkD_eq rfl, rfl, wkD_eq rfl, rfl, trivial⟩, ⟨rfl, Nat.le_of_ble_eq_true rfl, rfl, rfl, Nat.le_of_ble_eq_true rfl, rfl, ?_, Nat.le_of_ble_eq_true rfl, rfl, trivial⟩, trivial⟩, by (try simp only); omega⟩
      · exact some_i64 (by (try simp only); omega)
      · rw [back hm]; rfl
      · rw [back hm]; rfl
    by_cases e5 : x.script.getD 5 0 = 237
    case neg =>
      have hm := mark_not (i := 5) (by decide) (c := 237) rfl c e5
      simp (config := {dsimp := false}) only [↓vp0, vz, vn, nq, tys, cellD, wideIR, if_true, if_false, implies_true, forall_const, ne_eq, reduceIte, reduceCtorEq, Nat.reduceEqDiff, Nat.reduceAdd, Nat.reduceMul, Nat.reduceLT, Nat.reduceSub, Nat.reduceLeDiff, Nat.reduceBNe, Nat.reduceBEq, Nat.reduceBeqDiff, List.range, List.range.loop, gl0, Tryz.ntmps15, Tryz.results15, g0, g1, txD, outD, Int.toNat_natCast, dl, e0, e1, e2, e3, e4, e5, show Int.toNat 0 = 0 from rfl, show Int.toNat 1 = 1 from rfl, show Int.toNat 2 = 2 from rfl, show Int.toNat 3 = 3 from rfl, show Int.toNat 4 = 4 from rfl, show Int.toNat 5 = 5 from rfl, decide_true, decide_false]
      refine ⟨Int.le_refl _, by omega, by omega, by omega, by omega, by omega, by omega, by omega, by omega, by omega, by omega, by omega, by omega, by omega, by omega, by omega, ⟨k + 1, by omega⟩, ⟨⟨wkD_eq ?_, rfl, wkD_eq ?_, rfl, wkD_eq rfl, rfl, wkD_eq rfl, rfl, wkD_eq rfl, rfl, trivial⟩, ⟨rfl, Nat.le_of_ble_eq_true rfl, rfl, rfl, Nat.le_of_ble_eq_true rfl, rfl, ?_, Nat.le_of_ble_eq_true rfl, rfl, trivial⟩, trivial⟩, by (try simp only); omega⟩
      · exact some_i64 (by (try simp only); omega)
      · rw [back hm]; rfl
      · rw [back hm]; rfl
    have hm := mark_yes c e0 e1 e2 e3 e4 e5
    rw [hm, if_pos rfl] at hsn
    simp (config := {dsimp := false}) only [↓vp0, vz, vn, nq, tys, cellD, wideIR, if_true, if_false, implies_true, forall_const, ne_eq, reduceIte, reduceCtorEq, Nat.reduceEqDiff, Nat.reduceAdd, Nat.reduceMul, Nat.reduceLT, Nat.reduceSub, Nat.reduceLeDiff, Nat.reduceBNe, Nat.reduceBEq, Nat.reduceBeqDiff, List.range, List.range.loop, gl0, Tryz.ntmps15, Tryz.results15, g0, g1, txD, outD, Int.toNat_natCast, dl, e0, e1, e2, e3, e4, e5, show Int.toNat 0 = 0 from rfl, show Int.toNat 1 = 1 from rfl, show Int.toNat 2 = 2 from rfl, show Int.toNat 3 = 3 from rfl, show Int.toNat 4 = 4 from rfl, show Int.toNat 5 = 5 from rfl, decide_true]
    refine ⟨by omega, by omega, by omega, by omega, by omega, by omega, by omega, by omega, by omega, by omega, by omega, by omega, by omega, by omega, by omega, by omega, ?_⟩
    have ha : ((x.script.drop 6).take 32).length = 32 := by simp only [List.length_take, List.length_drop]; omega
    refine loopI (Fin 33) (fun m => [(8, .int .i64 (m.1 : Nat)), (7, .sli .no .u8 x.script), (6, .int .i64 (k : Nat)), (5, .bool true), (1, .bp 0 0), (2, .bp 4 0), (4, .bp 12 0)]) (fun m => ⟨[(0, .agg [.agg [.int .u32 h0, .arr .u8 32 hp, .arr .u8 32 hr, .int .u32 h1, .int .u32 h2, .int .u32 h3], .sl .no 4 (txsD L)]), (4, .arr .u8 32 (List.replicate 32 0)), (12, .arr .u8 32 (((x.script.drop 6).take 32).take m.1 ++ old.drop m.1))], [], 276⟩) (fun m => 32 - m.1) 0 (fun _ => rfl) ?_ ?_
    · refine ⟨⟨wkD_eq rfl, rfl, wkD_eq rfl, rfl, wkD_eq rfl, rfl, wkD_eq rfl, rfl, wkD_eq rfl, rfl, wkD_eq rfl, rfl, wkD_eq rfl, rfl, trivial⟩, ⟨rfl, Nat.le_of_ble_eq_true rfl, rfl, rfl, Nat.le_of_ble_eq_true rfl, rfl, ?_, Nat.le_of_ble_eq_true rfl, rfl, trivial⟩, trivial⟩
      show some (D.arr .u8 32 (hOf (lastMark (t.outs.take k)))) = _
      rw [hold]; rfl
    rintro ⟨m, hm'⟩
    simp (config := {dsimp := false}) only [↓vp0, vz, vn, nq, tys, cellD, wideIR, if_true, if_false, implies_true, forall_const, ne_eq, reduceIte, reduceCtorEq, Nat.reduceEqDiff, Nat.reduceAdd, Nat.reduceMul, Nat.reduceLT, Nat.reduceSub, Nat.reduceLeDiff, Nat.reduceBNe, Nat.reduceBEq, Nat.reduceBeqDiff, List.range, List.range.loop, gl0, Tryz.ntmps15, Tryz.results15]
    refine ⟨fun h2 => ?_, fun h2 => ?_⟩
    · have h2 := of_decide_eq_true h2
      have w6 : (IntKind.wrap .i64 (6 + ((m : Nat) : Int))) = ((6 + m : Nat) : Int) := by rw [IntWalk.i64_in _ (by omega)]; omega
      have hs := mix_set (a := (x.script.drop 6).take 32) (b := old) (m := m) (by omega) (by omega)
      have hg : ((x.script.drop 6).take 32).getD m 0 = x.script.getD (6 + m) 0 := by simp [List.getD, List.getElem?_take, show m < 32 by omega]
      simp (config := {dsimp := false}) only [↓vp0, vz, vn, nq, tys, cellD, wideIR, if_true, if_false, implies_true, forall_const, ne_eq, reduceIte, reduceCtorEq, Nat.reduceEqDiff, Nat.reduceAdd, Nat.reduceMul, Nat.reduceLT, Nat.reduceSub, Nat.reduceLeDiff, Nat.reduceBNe, Nat.reduceBEq, Nat.reduceBeqDiff, List.range, List.range.loop, gl0, Tryz.ntmps15, Tryz.results15, w6, Int.toNat_natCast]
      refine ⟨by omega, by omega, by omega, by omega, ⟨m + 1, by omega⟩, ⟨⟨wkD_eq ?_, rfl, wkD_eq rfl, rfl, wkD_eq rfl, rfl, wkD_eq rfl, rfl, wkD_eq rfl, rfl, wkD_eq rfl, rfl, wkD_eq rfl, rfl, trivial⟩, ⟨rfl, Nat.le_of_ble_eq_true rfl, rfl, rfl, Nat.le_of_ble_eq_true rfl, rfl, ?_, Nat.le_of_ble_eq_true rfl, rfl, trivial⟩, trivial⟩, by (try simp only); omega⟩
      · exact some_i64 (by (try simp only); omega)
      · show some (D.arr .u8 32 _) = some _
        rw [← hg, hs]
    · have h2 := of_decide_eq_false h2
      obtain rfl : m = 32 := by omega
      have hmx := mix_all (a := (x.script.drop 6).take 32) (b := old) ha hol
      refine ⟨⟨k + 1, by omega⟩, ⟨⟨wkD_eq ?_, rfl, wkD_eq ?_, rfl, wkD_eq rfl, rfl, wkD_eq rfl, rfl, wkD_eq rfl, rfl, trivial⟩, ⟨rfl, Nat.le_of_ble_eq_true rfl, rfl, rfl, Nat.le_of_ble_eq_true rfl, rfl, ?_, Nat.le_of_ble_eq_true rfl, rfl, trivial⟩, trivial⟩, by (try simp only); omega⟩
      · exact some_i64 (by (try simp only); omega)
      · rw [hsn]; rfl
      · rw [hsn]
        show some (D.arr .u8 32 (((x.script.drop 6).take 32).take 32 ++ old.drop 32)) = _
        rw [hmx]; rfl
  · have hh := of_decide_eq_false hh
    obtain rfl : k = t.outs.length := by omega
    simp (config := {dsimp := false}) only [↓vp0, vz, vn, nq, tys, cellD, wideIR, if_true, if_false, implies_true, forall_const, ne_eq, reduceIte, reduceCtorEq, Nat.reduceEqDiff, Nat.reduceAdd, Nat.reduceMul, Nat.reduceLT, Nat.reduceSub, Nat.reduceLeDiff, Nat.reduceBNe, Nat.reduceBEq, Nat.reduceBeqDiff, List.range, List.range.loop, gl0, Tryz.ntmps15, Tryz.results15, hC, List.take_length, givesIf]
    all_goals rfl
end Go.Vi.CZ
end

section
set_option linter.unusedVariables false
set_option linter.unusedSimpArgs false
set_option maxHeartbeats 0
set_option maxRecDepth 20000
namespace Go.Vi.CZ
open Go.Proofs

theorem partner_pair (l : L2) (i : Nat) (h : 2 * i < l.length) : partnerP l (2 * i) = (pairAt l i).2.1 ∧ (pairAt l i).1 = l.getD (2 * i) [] := by
  refine ⟨?_, rfl⟩
  unfold partnerP pairAt
  rw [if_neg (show ¬ 2 * i % 2 = 1 by omega)]
  by_cases h2 : 2 * i + 2 ≤ l.length
  · rw [if_neg (by omega)]; simp [h2]
  · rw [if_pos (by omega)]; simp [h2]
theorem above_get (l : L2) (i : Nat) (h : i < (l.length + 1) / 2) : (aboveP l).getD i [] = joinP (pairAt l i) := by
  simp [aboveP, pairsOf, List.getD, h]
theorem w2i {i : Nat} (h : i < 100000) : IntKind.wrap .i64 (2 * (i : Int) + 2) = 2 * ((i + 1 : Nat) : Int) := by rw [IntWalk.i64_in _ (by omega)]; omega
theorem c_refPartner : Contract E 46 := by
  refine contract_seeT hE hgl (show E.P.funcs[46]? = some Tryz.f46 from Tryz.func46) rfl (p := sp_refPartner) (fun _ _ _ => rfl) ?_
  intro args hv
  unfold sp_refPartner at hv ⊢
  split at hv
  case h_2 => exact hv.elim
  rename_i es i
  refine ⟨by simp, Nat.le_of_ble_eq_true rfl, ?_⟩
  simp only [givesIf] at hv
  obtain ⟨⟨l, rfl, hl⟩, hlen, h0, h1⟩ := hv
  obtain ⟨n, rfl⟩ : ∃ n : Nat, i = (n : Int) := ⟨i.toNat, by omega⟩
  simp only [arrs_length] at hlen h1
  have w1 : IntKind.wrap .i64 ((n : Int) + 1) = ((n + 1 : Nat) : Int) := w64' (by omega) (by omega)
  rcases Nat.mod_two_eq_zero_or_one n with hm | hm
  · have c1 : decide ((n : Int).tmod 2 = 1) = false := by rw [Int.tmod_eq_emod_of_nonneg (by omega)]; simp; omega
    by_cases h2 : n + 1 < l.length
    · have c2 : decide (((n + 1 : Nat) : Int) ≥ (l.length : Int)) = false := decide_eq_false (by omega)
      have g := arrs_get l (n + 1) (by omega)
      have hp : partnerP l n = l.getD (n + 1) [] := by unfold partnerP; rw [if_neg (show ¬ n % 2 = 1 by omega), if_neg (by omega)]
      simp (config := {dsimp := false}) only [↓vp0, vz, vn, nq, tys, cellD, wideIR, if_true, if_false, implies_true, forall_const, ne_eq, reduceIte, reduceCtorEq, Nat.reduceEqDiff, Nat.reduceAdd, Nat.reduceMul, Nat.reduceLT, Nat.reduceSub, Nat.reduceLeDiff, Nat.reduceBNe, Nat.reduceBEq, Nat.reduceBeqDiff, List.range, List.range.loop, gl0, Tryz.ntmps46, Tryz.results46, arrs_length, w1, c1, c2, g, Int.toNat_natCast]
      rw [hs_arrs, hp]
      exact ⟨by decide, by omega, by omega, rfl⟩
    · have c2 : decide (((n + 1 : Nat) : Int) ≥ (l.length : Int)) = true := decide_eq_true (by omega)
      have g := arrs_get l n (by omega)
      have hp : partnerP l n = l.getD n [] := by unfold partnerP; rw [if_neg (show ¬ n % 2 = 1 by omega), if_pos (by omega)]
      simp (config := {dsimp := false}) only [↓vp0, vz, vn, nq, tys, cellD, wideIR, if_true, if_false, implies_true, forall_const, ne_eq, reduceIte, reduceCtorEq, Nat.reduceEqDiff, Nat.reduceAdd, Nat.reduceMul, Nat.reduceLT, Nat.reduceSub, Nat.reduceLeDiff, Nat.reduceBNe, Nat.reduceBEq, Nat.reduceBeqDiff, List.range, List.range.loop, gl0, Tryz.ntmps46, Tryz.results46, arrs_length, w1, c1, c2, g, Int.toNat_natCast]
      rw [hs_arrs, hp]
      exact ⟨by decide, by omega, by omega, rfl⟩
  · have c1 : decide ((n : Int).tmod 2 = 1) = true := by rw [Int.tmod_eq_emod_of_nonneg (by omega)]; simp; omega
    have w2 : IntKind.wrap .i64 ((n : Int) - 1) = ((n - 1 : Nat) : Int) := w64' (by omega) (by omega)
    have c2 : decide (((n - 1 : Nat) : Int) ≥ (l.length : Int)) = false := decide_eq_false (by omega)
    have g := arrs_get l (n - 1) (by omega)
    have hp : partnerP l n = l.getD (n - 1) [] := by unfold partnerP; rw [if_pos hm, if_neg (by omega)]
    simp (config := {dsimp := false}) only [↓vp0, vz, vn, nq, tys, cellD, wideIR, if_true, if_false, implies_true, forall_const, ne_eq, reduceIte, reduceCtorEq, Nat.reduceEqDiff, Nat.reduceAdd, Nat.reduceMul, Nat.reduceLT, Nat.reduceSub, Nat.reduceLeDiff, Nat.reduceBNe, Nat.reduceBEq, Nat.reduceBeqDiff, List.range, List.range.loop, gl0, Tryz.ntmps46, Tryz.results46, arrs_length, w1, w2, c1, c2, g, Int.toNat_natCast]
    rw [hs_arrs, hp]
    exact ⟨by decide, by omega, by omega, rfl⟩
theorem take_snoc {α : Type} (l : List α) (i : Nat) (h : i < l.length) (d : α) : l.take i ++ [l.getD i d] = l.take (i + 1) := by
  rw [List.take_add_one]
  simp [List.getD, h]
theorem c_refMText : Contract E 35 := by
  refine contract_seeT hE hgl (show E.P.funcs[35]? = some Tryz.f35 from Tryz.func35) rfl (p := sp_refMText) (fun _ _ _ => rfl) ?_
  intro args hv
  unfold sp_refMText at hv ⊢
  split at hv
  case h_2 => exact hv.elim
  rename_i a b
  refine ⟨by simp, Nat.le_of_ble_eq_true rfl, ?_⟩
  simp only [givesIf] at hv
  obtain ⟨ha, hb⟩ := hv
  simp (config := {dsimp := false}) only [↓vp0, vz, vn, nq, tys, cellD, wideIR, if_true, if_false, implies_true, forall_const, ne_eq, reduceIte, reduceCtorEq, Nat.reduceEqDiff, Nat.reduceAdd, Nat.reduceMul, Nat.reduceLT, Nat.reduceSub, Nat.reduceLeDiff, Nat.reduceBNe, Nat.reduceBEq, Nat.reduceBeqDiff, List.range, List.range.loop, gl0, Tryz.ntmps35, Tryz.results35]
  refine loopA [(5, some .u8, 0)] ?_
  simp (config := {dsimp := false}) only [↓vp0, vz, vn, nq, tys, cellD, wideIR, if_true, if_false, implies_true, forall_const, ne_eq, reduceIte, reduceCtorEq, Nat.reduceEqDiff, Nat.reduceAdd, Nat.reduceMul, Nat.reduceLT, Nat.reduceSub, Nat.reduceLeDiff, Nat.reduceBNe, Nat.reduceBEq, Nat.reduceBeqDiff, List.range, List.range.loop, gl0, Tryz.ntmps35, Tryz.results35, adopt]
  refine ⟨Fin 33, (fun i => [(5, .sli (.tok 20) .u8 (a.take i.1)), (6, .int .i64 (i.1 : Int)), (2, .bp 0 0), (3, .bp 4 0)]), (fun i => ⟨[(0, .arr .u8 32 a), (4, .arr .u8 32 b)], [(20, (i.1, 1))], 24⟩), (fun i => 32 - i.1), 0, (fun _ => rfl), ⟨⟨wkD_eq rfl, rfl, wkD_eq rfl, rfl, wkD_eq rfl, rfl, wkD_eq rfl, rfl, trivial⟩, ⟨rfl, Nat.le_of_ble_eq_true rfl, rfl, rfl, Nat.le_of_ble_eq_true rfl, rfl, trivial⟩, ⟨rfl, Nat.le_of_ble_eq_true rfl, trivial⟩⟩, ?_⟩
  rintro ⟨i, hi⟩
  have l1 : (a.take i).length = i := by rw [List.length_take]; omega
  simp (config := {dsimp := false}) only [↓vp0, vz, vn, nq, tys, cellD, wideIR, if_true, if_false, implies_true, forall_const, ne_eq, reduceIte, reduceCtorEq, Nat.reduceEqDiff, Nat.reduceAdd, Nat.reduceMul, Nat.reduceLT, Nat.reduceSub, Nat.reduceLeDiff, Nat.reduceBNe, Nat.reduceBEq, Nat.reduceBeqDiff, List.range, List.range.loop, gl0, Tryz.ntmps35, Tryz.results35, Int.toNat_natCast, l1]
  refine ⟨fun hh => ?_, fun hh => ?_⟩
  · have hh := of_decide_eq_true hh
    refine ⟨by omega, by omega, by omega, ⟨i + 1, by omega⟩, ⟨⟨wkD_eq ?_, rfl, wkD_eq ?_, rfl, wkD_eq rfl, rfl, wkD_eq rfl, rfl, trivial⟩, ⟨rfl, Nat.le_of_ble_eq_true rfl, rfl, rfl, Nat.le_of_ble_eq_true rfl, rfl, trivial⟩, ⟨rfl, Nat.le_of_ble_eq_true rfl, trivial⟩⟩, by (try simp only); omega⟩
    · exact congrArg (fun x => some (D.sli (.tok 20) .u8 x)) (take_snoc a i (by omega) 0)
    · exact some_i64 (by (try simp only); omega)
  have hh := of_decide_eq_false hh
  obtain rfl : i = 32 := by omega
  rw [List.take_of_length_le (by omega)]
  refine loopI (Fin 33) (fun i => [(5, .sli (.tok 20) .u8 (a ++ b.take i.1)), (7, .int .i64 (i.1 : Int)), (2, .bp 0 0), (3, .bp 4 0)]) (fun i => ⟨[(0, .arr .u8 32 a), (4, .arr .u8 32 b)], [(20, (32 + i.1, 1))], 36⟩) (fun i => 32 - i.1) 0 (fun _ => rfl) ?_ ?_
  · refine ⟨⟨wkD_eq ?_, rfl, wkD_eq rfl, rfl, wkD_eq rfl, rfl, wkD_eq rfl, rfl, trivial⟩, ⟨rfl, Nat.le_of_ble_eq_true rfl, rfl, rfl, Nat.le_of_ble_eq_true rfl, rfl, trivial⟩, ⟨rfl, Nat.le_of_ble_eq_true rfl, trivial⟩⟩
    rw [show ((0 : Fin 33) : Nat) = 0 from rfl, List.take_zero, List.append_nil]
    rfl
  rintro ⟨i, hi⟩
  have l2 : (b.take i).length = i := by rw [List.length_take]; omega
  simp (config := {dsimp := false}) only [↓vp0, vz, vn, nq, tys, cellD, wideIR, if_true, if_false, implies_true, forall_const, ne_eq, reduceIte, reduceCtorEq, Nat.reduceEqDiff, Nat.reduceAdd, Nat.reduceMul, Nat.reduceLT, Nat.reduceSub, Nat.reduceLeDiff, Nat.reduceBNe, Nat.reduceBEq, Nat.reduceBeqDiff, List.range, List.range.loop, gl0, Tryz.ntmps35, Tryz.results35, Int.toNat_natCast, List.length_append, l2, ha]
  refine ⟨fun hh => ?_, fun hh => ?_⟩
  · have hh := of_decide_eq_true hh
    refine ⟨by omega, by omega, by omega, ⟨i + 1, by omega⟩, ⟨⟨wkD_eq ?_, rfl, wkD_eq ?_, rfl, wkD_eq rfl, rfl, wkD_eq rfl, rfl, trivial⟩, ⟨rfl, Nat.le_of_ble_eq_true rfl, rfl, rfl, Nat.le_of_ble_eq_true rfl, rfl, trivial⟩, ⟨rfl, Nat.le_of_ble_eq_true rfl, trivial⟩⟩, by (try simp only); omega⟩
    · exact congrArg (fun x => some (D.sli (.tok 20) .u8 x)) ((List.append_assoc ..).trans (congrArg (a ++ ·) (take_snoc b i (by omega) 0)))
    · exact some_i64 (by (try simp only); omega)
  · have hh := of_decide_eq_false hh
    obtain rfl : i = 32 := by omega
    rw [List.take_of_length_le (by omega)]
    rfl
theorem c_refAbove : Contract E 31 := by
  refine contract_seeT hE hgl (show E.P.funcs[31]? = some Tryz.f31 from Tryz.func31) rfl (p := sp_refAbove) (fun _ _ _ => rfl) ?_
  intro args hv
  unfold sp_refAbove at hv ⊢
  split at hv
  case h_2 => exact hv.elim
  rename_i es
  refine ⟨by simp, Nat.le_of_ble_eq_true rfl, ?_⟩
  simp only [givesIf] at hv
  obtain ⟨⟨l, rfl, hl⟩, hlen, hby⟩ := hv
  rw [hs_arrs] at hby
  rw [arrs_length] at hlen
  simp (config := {dsimp := false}) only [↓vp0, vz, vn, nq, tys, cellD, wideIR, if_true, if_false, implies_true, forall_const, ne_eq, reduceIte, reduceCtorEq, Nat.reduceEqDiff, Nat.reduceAdd, Nat.reduceMul, Nat.reduceLT, Nat.reduceSub, Nat.reduceLeDiff, Nat.reduceBNe, Nat.reduceBEq, Nat.reduceBeqDiff, List.range, List.range.loop, gl0, Tryz.ntmps31, Tryz.results31, arrs_length]
  refine loopA [(3, none, 32)] ?_
  simp (config := {dsimp := false}) only [↓vp0, vz, vn, nq, tys, cellD, wideIR, if_true, if_false, implies_true, forall_const, ne_eq, reduceIte, reduceCtorEq, Nat.reduceEqDiff, Nat.reduceAdd, Nat.reduceMul, Nat.reduceLT, Nat.reduceSub, Nat.reduceLeDiff, Nat.reduceBNe, Nat.reduceBEq, Nat.reduceBeqDiff, List.range, List.range.loop, gl0, Tryz.ntmps31, Tryz.results31, adopt]
  refine ⟨Fin ((l.length + 1) / 2 + 1), (fun i => [(3, .sl (.tok 12) 32 (arrs ((aboveP l).take i.1))), (4, .int .i64 (2 * i.1 : Int)), (0, .sl .no 32 (arrs l))]), (fun i => ⟨[], [(12, (i.1, 32))], 16⟩), (fun i => l.length + 1 - 2 * i.1), 0, (fun _ => rfl), ⟨⟨wkD_eq rfl, rfl, wkD_eq rfl, rfl, wkD_eq rfl, rfl, trivial⟩, trivial, ⟨rfl, Nat.le_of_ble_eq_true rfl, trivial⟩⟩, ?_⟩
  rintro ⟨i, hi⟩
  simp (config := {dsimp := false}) only [↓vp0, vz, vn, nq, tys, cellD, wideIR, if_true, if_false, implies_true, forall_const, ne_eq, reduceIte, reduceCtorEq, Nat.reduceEqDiff, Nat.reduceAdd, Nat.reduceMul, Nat.reduceLT, Nat.reduceSub, Nat.reduceLeDiff, Nat.reduceBNe, Nat.reduceBEq, Nat.reduceBeqDiff, List.range, List.range.loop, gl0, Tryz.ntmps31, Tryz.results31, arrs_length]
  refine ⟨fun hh => ?_, fun hh => ?_⟩
  · have hh := of_decide_eq_true hh
    have hil : 2 * i < l.length := by omega
    have hia : i < (aboveP l).length := by rw [above_len]; omega
    have g := arrs_get l (2 * i) hil
    have i2 : (2 * (i : Int)) = ((2 * i : Nat) : Int) := by omega
    have lt : ((aboveP l).take i).length = i := by rw [List.length_take]; omega
    obtain ⟨p1, p2⟩ := partner_pair l i hil
    obtain ⟨⟨q1, q2⟩, q3, q4⟩ := pair_ok hl hby (p := pairAt l i) (List.mem_map_of_mem (by rw [List.mem_range]; omega))
    have tw := twice_eq ((pairAt l i).1 ++ (pairAt l i).2.1) (bytes_append q3 q4) (by simp [q1, q2])
    rw [p2] at q1 q3 tw
    rw [i2]
    refine drawI [3, 0, 4] (by kernel_rfl) ?_
    simp (config := {dsimp := false}) only [↓vp0, vz, vn, nq, tys, cellD, wideIR, if_true, if_false, implies_true, forall_const, ne_eq, reduceIte, reduceCtorEq, Nat.reduceEqDiff, Nat.reduceAdd, Nat.reduceMul, Nat.reduceLT, Nat.reduceSub, Nat.reduceLeDiff, Nat.reduceBNe, Nat.reduceBEq, Nat.reduceBeqDiff, List.range, List.range.loop, gl0, Tryz.ntmps31, Tryz.results31, PF.toR, gives, givesIf, arrs_length, strips_arrs, hs_arrs, Int.toNat_natCast, g, p1, q1, q2, tw, lt, bare_arr, spec_refPartner, sp_refPartner, c_refPartner, b_refPartner, spec_refMText, sp_refMText, c_refMText, b_refMText, spec_refTwice, sp_refTwice, c_refTwice, b_refTwice]
    have hsn : arrs ((aboveP l).take i) ++ [D.arr .u8 32 (sumP (sumP (l.getD (2 * i) [] ++ (pairAt l i).2.1)))] = arrs ((aboveP l).take (i + 1)) := by
      rw [← take_snoc (aboveP l) i hia [], ← arrs_append, above_get l i (by omega)]
      rfl
    refine ⟨by omega, by omega, ⟨l, rfl, hl⟩, by omega, by omega, by omega, by rw [List.length_append, q1, q2]; decide, by omega, .inr trivial, .inr trivial, by kernel_rfl, ⟨i + 1, by omega⟩, ⟨⟨wkD_eq ?_, rfl, wkD_eq ?_, rfl, wkD_eq rfl, rfl, trivial⟩, trivial, ⟨rfl, Nat.le_of_ble_eq_true rfl, trivial⟩⟩, by (try simp only); omega⟩
    · exact congrArg (fun x => some (D.sl (.tok 12) 32 x)) hsn
    · rw [← i2]
      exact congrArg (fun n => some (D.int .i64 n)) (w2i (by omega))
  · have hh := of_decide_eq_false hh
    have : i = (l.length + 1) / 2 := by omega
    rw [List.take_of_length_le (by rw [above_len]; omega), strips_arrs, hs_arrs]
    rfl
end Go.Vi.CZ
end

section
set_option linter.unusedVariables false
set_option linter.unusedSimpArgs false
set_option maxHeartbeats 0
set_option maxRecDepth 20000
namespace Go.Vi.CZ
open Go.Proofs

end Go.Vi.CZ
end

section
set_option linter.unusedVariables false
set_option linter.unusedSimpArgs false
set_option maxHeartbeats 0
set_option maxRecDepth 20000
namespace Go.Vi.CZ
open Go.Proofs

theorem mut_one (p : Pr) : mutP [p] = (!p.2.2 && decide (p.1 = p.2.1)) := by simp [mutP, mutS]
theorem pairs_get (l : L2) (i : Nat) (h : i < (l.length + 1) / 2) (d : Pr) : (pairsOf l).getD i d = pairAt l i := by simp [pairsOf, List.getD, h]
theorem mut_step (T : List Pr) (r : L2) (j : Nat) (h : 2 * j + 1 < r.length) : mutP (T ++ (pairsOf r).take (j + 1)) = (mutP (T ++ (pairsOf r).take j) || decide (r.getD (2 * j) [] = r.getD (2 * j + 1) [])) := by
  have hl : j < (pairsOf r).length := by simp [pairsOf]; omega
  rw [← take_snoc (pairsOf r) j hl ([], [], false), ← List.append_assoc, mutP_append, mut_one, pairs_get r j (by omega)]
  simp [pairAt, show 2 * j + 2 ≤ r.length by omega]
theorem mut_all (T : List Pr) (r : L2) (j : Nat) (h0 : 2 * j ≤ r.length) (h : ¬ 2 * j + 1 < r.length) : mutP (T ++ (pairsOf r).take j) = mutP (T ++ pairsOf r) := by
  have hl : (pairsOf r).length = (r.length + 1) / 2 := by simp [pairsOf]
  rcases Nat.lt_or_ge (2 * j) r.length with h1 | h1
  · have h2 : (pairsOf r).take (j + 1) = pairsOf r := List.take_of_length_le (by omega)
    rw [← h2, List.take_take, Nat.min_eq_left (by omega), ← take_snoc (pairsOf r) j (by omega) ([], [], false), ← List.append_assoc, mutP_append (T ++ _), mut_one, pairs_get r j (by omega)]
    simp [pairAt, show ¬ 2 * j + 2 ≤ r.length by omega]
  · rw [List.take_of_length_le (by omega)]
theorem c_refRoot : Contract E 13 := by
  refine contract_seeT hE hgl (show E.P.funcs[13]? = some Tryz.f13 from Tryz.func13) rfl (p := sp_refRoot) (fun _ _ _ => rfl) ?_
  intro args hv
  unfold sp_refRoot at hv ⊢
  split at hv
  case h_2 => exact hv.elim
  rename_i es
  refine ⟨by simp, Nat.le_of_ble_eq_true rfl, ?_⟩
  simp only [givesIf] at hv
  obtain ⟨⟨l, rfl, hl⟩, hlen, hby⟩ := hv
  rw [hs_arrs] at hby
  rw [arrs_length] at hlen
  by_cases hne : l = []
  · subst hne
    simp (config := {dsimp := false}) only [↓vp0, vz, vn, nq, tys, cellD, wideIR, if_true, if_false, implies_true, forall_const, ne_eq, reduceIte, reduceCtorEq, Nat.reduceEqDiff, Nat.reduceAdd, Nat.reduceMul, Nat.reduceLT, Nat.reduceSub, Nat.reduceLeDiff, Nat.reduceBNe, Nat.reduceBEq, Nat.reduceBeqDiff, List.range, List.range.loop, gl0, Tryz.ntmps13, Tryz.results13, show arrs [] = [] from rfl, show decide (((0 : Nat) : Int) = 0) = true from rfl, hs_arrs]
    rw [show hs [] = [] from rfl, allP_nil, rootP_nil]
    rfl
  have hn0 : decide ((l.length : Int) = 0) = false := decide_eq_false fun e => hne (List.eq_nil_of_length_eq_zero (by omega))
  simp (config := {dsimp := false}) only [↓vp0, vz, vn, nq, tys, cellD, wideIR, if_true, if_false, implies_true, forall_const, ne_eq, reduceIte, reduceCtorEq, Nat.reduceEqDiff, Nat.reduceAdd, Nat.reduceMul, Nat.reduceLT, Nat.reduceSub, Nat.reduceLeDiff, Nat.reduceBNe, Nat.reduceBEq, Nat.reduceBeqDiff, List.range, List.range.loop, gl0, Tryz.ntmps13, Tryz.results13, arrs_length, hn0]
  refine loopI {k : Nat // k ≤ dep l.length} (fun k => [(4, .bool (mutP (pairsTo l k.1))), (0, .sl .no 32 (arrs (rowAt l k.1))), (2, .bp 0 0)]) (fun k => ⟨[(0, .arr .u8 32 (List.replicate 32 0))], [], 24⟩) (fun k => dep l.length - k.1) ⟨0, Nat.zero_le _⟩ (fun _ => rfl) ⟨⟨wkD_eq rfl, rfl, wkD_eq rfl, rfl, wkD_eq rfl, rfl, trivial⟩, ⟨rfl, Nat.le_of_ble_eq_true rfl, rfl, trivial⟩, trivial⟩ ?_
  rintro ⟨k, hk⟩
  have hk1 := row_more k l
  have hk2 := row_h32 hl k
  have hk3 := row_len_le l k
  have hkb := row_bytes hby k
  simp (config := {dsimp := false}) only [↓vp0, vz, vn, nq, tys, cellD, wideIR, if_true, if_false, implies_true, forall_const, ne_eq, reduceIte, reduceCtorEq, Nat.reduceEqDiff, Nat.reduceAdd, Nat.reduceMul, Nat.reduceLT, Nat.reduceSub, Nat.reduceLeDiff, Nat.reduceBNe, Nat.reduceBEq, Nat.reduceBeqDiff, List.range, List.range.loop, gl0, Tryz.ntmps13, Tryz.results13, arrs_length]
  refine ⟨fun hh => ?_, fun hh => ?_⟩
  · have hh := of_decide_eq_true hh
    have hkd : k < dep l.length := hk1.1 (by omega)
    generalize hr : rowAt l k = r at hk1 hk2 hk3 hkb hh
    generalize hT : pairsTo l k = T
    refine loopI {j : Nat // 2 * j ≤ r.length} (fun j => [(4, .bool (mutP (T ++ (pairsOf r).take j.1))), (5, .int .i64 (2 * j.1 : Int)), (0, .sl .no 32 (arrs r)), (2, .bp 0 0)]) (fun j => ⟨[(0, .arr .u8 32 (List.replicate 32 0))], [], 40⟩) (fun j => r.length - 2 * j.1) ⟨0, by omega⟩ (fun _ => rfl) ?_ ?_
    · refine ⟨⟨wkD_eq ?_, rfl, wkD_eq rfl, rfl, wkD_eq rfl, rfl, wkD_eq rfl, rfl, trivial⟩, ⟨rfl, Nat.le_of_ble_eq_true rfl, rfl, trivial⟩, trivial⟩
      rw [List.take_zero, List.append_nil]
      rfl
    rintro ⟨j, hj⟩
    have i2 : (2 * (j : Int)) = ((2 * j : Nat) : Int) := by omega
    have w1 : IntKind.wrap .i64 (((2 * j : Nat) : Int) + 1) = ((2 * j + 1 : Nat) : Int) := w64' (by omega) (by omega)
    simp only [i2]
    simp (config := {dsimp := false}) only [↓vp0, vz, vn, nq, tys, cellD, wideIR, if_true, if_false, implies_true, forall_const, ne_eq, reduceIte, reduceCtorEq, Nat.reduceEqDiff, Nat.reduceAdd, Nat.reduceMul, Nat.reduceLT, Nat.reduceSub, Nat.reduceLeDiff, Nat.reduceBNe, Nat.reduceBEq, Nat.reduceBeqDiff, List.range, List.range.loop, gl0, Tryz.ntmps13, Tryz.results13, arrs_length, w1]
    refine ⟨fun hh => ?_, fun hh => ?_⟩
    · have hh := of_decide_eq_true hh
      have g1 := arrs_get r (2 * j) (by omega)
      have g2 := arrs_get r (2 * j + 1) (by omega)
      have ms := mut_step T r j (by omega)
      refine drawI [0, 5, 4, 2] (by kernel_rfl) ?_
      cases he : decide (r.getD (2 * j) [] = r.getD (2 * j + 1) [])
      · rw [he, Bool.or_false] at ms
        simp (config := {dsimp := false}) only [↓vp0, vz, vn, nq, tys, cellD, wideIR, if_true, if_false, implies_true, forall_const, ne_eq, reduceIte, reduceCtorEq, Nat.reduceEqDiff, Nat.reduceAdd, Nat.reduceMul, Nat.reduceLT, Nat.reduceSub, Nat.reduceLeDiff, Nat.reduceBNe, Nat.reduceBEq, Nat.reduceBeqDiff, List.range, List.range.loop, gl0, Tryz.ntmps13, Tryz.results13, arrs_length, Int.toNat_natCast, w1, g1, g2, he]
        refine ⟨by omega, by omega, by omega, by omega, ⟨j + 1, by omega⟩, ⟨⟨wkD_eq ?_, rfl, wkD_eq ?_, rfl, wkD_eq rfl, rfl, wkD_eq rfl, rfl, trivial⟩, ⟨rfl, Nat.le_of_ble_eq_true rfl, rfl, trivial⟩, trivial⟩, by (try simp only); omega⟩
        · rw [ms]; rfl
        · rw [← i2]
          exact congrArg (fun n => some (D.int .i64 n)) (w2i (by omega))
      · rw [he, Bool.or_true] at ms
        simp (config := {dsimp := false}) only [↓vp0, vz, vn, nq, tys, cellD, wideIR, if_true, if_false, implies_true, forall_const, ne_eq, reduceIte, reduceCtorEq, Nat.reduceEqDiff, Nat.reduceAdd, Nat.reduceMul, Nat.reduceLT, Nat.reduceSub, Nat.reduceLeDiff, Nat.reduceBNe, Nat.reduceBEq, Nat.reduceBeqDiff, List.range, List.range.loop, gl0, Tryz.ntmps13, Tryz.results13, arrs_length, Int.toNat_natCast, w1, g1, g2, he]
        refine ⟨by omega, by omega, by omega, by omega, ⟨j + 1, by omega⟩, ⟨⟨wkD_eq ?_, rfl, wkD_eq ?_, rfl, wkD_eq rfl, rfl, wkD_eq rfl, rfl, trivial⟩, ⟨rfl, Nat.le_of_ble_eq_true rfl, rfl, trivial⟩, trivial⟩, by (try simp only); omega⟩
        · rw [ms]; rfl
        · rw [← i2]
          exact congrArg (fun n => some (D.int .i64 n)) (w2i (by omega))
    · have hh := of_decide_eq_false hh
      have ma := mut_all T r j hj (by omega)
      simp (config := {dsimp := false}) only [↓vp0, vz, vn, nq, tys, cellD, wideIR, if_true, if_false, implies_true, forall_const, ne_eq, reduceIte, reduceCtorEq, Nat.reduceEqDiff, Nat.reduceAdd, Nat.reduceMul, Nat.reduceLT, Nat.reduceSub, Nat.reduceLeDiff, Nat.reduceBNe, Nat.reduceBEq, Nat.reduceBeqDiff, List.range, List.range.loop, gl0, Tryz.ntmps13, Tryz.results13, PF.toR, gives, givesIf, arrs_length, strips_arrs, hs_arrs, spec_refAbove, sp_refAbove, c_refAbove, b_refAbove]
      refine ⟨⟨r, rfl, hk2⟩, by omega, hkb, ⟨k + 1, hkd⟩, ⟨⟨wkD_eq ?_, rfl, wkD_eq ?_, rfl, wkD_eq rfl, rfl, trivial⟩, ⟨rfl, Nat.le_of_ble_eq_true rfl, rfl, trivial⟩, trivial⟩, by (try simp only); omega⟩
      · rw [ma]
        subst hr hT
        rfl
      · subst hr
        rfl
  · have hh := of_decide_eq_false hh
    have he := row_end hk (by omega)
    have hp := List.length_pos_iff.2 (row_pos l hne k)
    have g0' := arrs_get (rowAt l k) 0 hp
    simp (config := {dsimp := false}) only [↓vp0, vz, vn, nq, tys, cellD, wideIR, if_true, if_false, implies_true, forall_const, ne_eq, reduceIte, reduceCtorEq, Nat.reduceEqDiff, Nat.reduceAdd, Nat.reduceMul, Nat.reduceLT, Nat.reduceSub, Nat.reduceLeDiff, Nat.reduceBNe, Nat.reduceBEq, Nat.reduceBeqDiff, List.range, List.range.loop, gl0, Tryz.ntmps13, Tryz.results13, arrs_length, g0', show Int.toNat 0 = 0 from rfl]
    refine ⟨by decide, by omega, ?_⟩
    rw [hs_arrs]
    unfold allP rootP
    rw [if_neg hne, ← he]
    rfl
end Go.Vi.CZ
end

section
set_option linter.unusedVariables false
set_option linter.unusedSimpArgs false
set_option maxHeartbeats 0
set_option maxRecDepth 20000
namespace Go.Vi.CZ
open Go.Proofs

theorem c_rput : Contract E 63 := by
  refine contract_seeT hE hgl (show E.P.funcs[63]? = some Tryz.f63 from Tryz.func63) rfl (p := sp_rput) (fun _ _ _ => rfl) ?_
  intro args hv
  unfold sp_rput at hv ⊢
  split at hv
  case h_2 => exact hv.elim
  rename_i v is os l
  refine ⟨by simp, Nat.le_of_ble_eq_true rfl, ?_⟩
  simp only [givesIf] at hv
  have hok := hv
  obtain ⟨t, rfl, rfl, rfl, rfl, ht, -⟩ := okT_tx hok
  have eta : (⟨t.ver, t.ins, t.outs, t.lock⟩ : TxP) = t := rfl
  obtain ⟨W, hW⟩ : ∃ W, witnessedP t = W := ⟨_, rfl⟩
  have hW' : t.ins.any hasWit = W := hW
  by_cases h : checkP t = 0
  · have hlen := lay_len ht h W
    have hd : decide (checkP t = 0) = true := decide_eq_true h
    simp (config := {dsimp := false}) only [↓vp0, vz, vn, nq, tys, cellD, wideIR, if_true, if_false, implies_true, forall_const, ne_eq, reduceIte, reduceCtorEq, Nat.reduceEqDiff, Nat.reduceAdd, Nat.reduceMul, Nat.reduceLT, Nat.reduceSub, Nat.reduceLeDiff, Nat.reduceBNe, Nat.reduceBEq, Nat.reduceBeqDiff, List.range, List.range.loop, gl0, Tryz.ntmps63, Tryz.results63, PF.toR, givesIf, eta, hd, hW, put_0 h, spec_rcheck, sp_tcheck, c_rcheck, b_rcheck]
    refine ⟨hok, ?_⟩
    refine drawI [1] (by kernel_rfl) ?_
    simp (config := {dsimp := false}) only [↓vp0, vz, vn, nq, tys, cellD, wideIR, if_true, if_false, implies_true, forall_const, ne_eq, reduceIte, reduceCtorEq, Nat.reduceEqDiff, Nat.reduceAdd, Nat.reduceMul, Nat.reduceLT, Nat.reduceSub, Nat.reduceLeDiff, Nat.reduceBNe, Nat.reduceBEq, Nat.reduceBeqDiff, List.range, List.range.loop, gl0, Tryz.ntmps63, Tryz.results63, PF.toR, givesIf, eta, hW', spec_rwitnessed, sp_twitnessed, c_rwitnessed, b_rwitnessed, spec_rlay, sp_rlay, c_rlay, b_rlay]
    refine ⟨hok, hok, by omega, ?_⟩
    rw [hW, put_0 h]; rfl
  · have hd : decide (checkP t = 0) = false := decide_eq_false h
    simp (config := {dsimp := false}) only [↓vp0, vz, vn, nq, tys, cellD, wideIR, if_true, if_false, implies_true, forall_const, ne_eq, reduceIte, reduceCtorEq, Nat.reduceEqDiff, Nat.reduceAdd, Nat.reduceMul, Nat.reduceLT, Nat.reduceSub, Nat.reduceLeDiff, Nat.reduceBNe, Nat.reduceBEq, Nat.reduceBeqDiff, List.range, List.range.loop, gl0, Tryz.ntmps63, Tryz.results63, PF.toR, givesIf, eta, hd, put_e h, spec_rcheck, sp_tcheck, c_rcheck, b_rcheck]
    exact hok
theorem c_rfull : Contract E 48 := by
  refine contract_seeT hE hgl (show E.P.funcs[48]? = some Tryz.f48 from Tryz.func48) rfl (p := sp_tfull) (fun _ _ _ => rfl) ?_
  intro args hv
  unfold sp_tfull at hv ⊢
  split at hv
  case h_2 => exact hv.elim
  rename_i v is os l
  refine ⟨by simp, Nat.le_of_ble_eq_true rfl, ?_⟩
  simp only [givesIf] at hv
  have hok := hv
  obtain ⟨t, rfl, rfl, rfl, rfl, ht, -⟩ := okT_tx hok
  have eta : (⟨t.ver, t.ins, t.outs, t.lock⟩ : TxP) = t := rfl
  by_cases h : checkP t = 0
  · have hlen := lay_len ht h (witnessedP t)
    have hby := lay_bytes ht (witnessedP t)
    have hf : fullP t = sumP (sumP (layI t (witnessedP t))) := if_pos h
    simp (config := {dsimp := false}) only [↓vp0, vz, vn, nq, tys, cellD, wideIR, if_true, if_false, implies_true, forall_const, ne_eq, reduceIte, reduceCtorEq, Nat.reduceEqDiff, Nat.reduceAdd, Nat.reduceMul, Nat.reduceLT, Nat.reduceSub, Nat.reduceLeDiff, Nat.reduceBNe, Nat.reduceBEq, Nat.reduceBeqDiff, List.range, List.range.loop, gl0, Tryz.ntmps48, Tryz.results48, PF.toR, givesIf, eta, put_0 h, hf, eq_self, decide_true, List.nil_append, spec_rput, sp_rput, c_rput, b_rput, spec_refTwice, sp_refTwice, c_refTwice, b_refTwice]
    exact ⟨hok, by omega, by rw [twice_eq _ hby (by omega)]⟩
  · have hf : fullP t = List.replicate 32 0 := if_neg h
    simp (config := {dsimp := false}) only [↓vp0, vz, vn, nq, tys, cellD, wideIR, if_true, if_false, implies_true, forall_const, ne_eq, reduceIte, reduceCtorEq, Nat.reduceEqDiff, Nat.reduceAdd, Nat.reduceMul, Nat.reduceLT, Nat.reduceSub, Nat.reduceLeDiff, Nat.reduceBNe, Nat.reduceBEq, Nat.reduceBeqDiff, List.range, List.range.loop, gl0, Tryz.ntmps48, Tryz.results48, PF.toR, givesIf, eta, put_e h, hf, h, decide_false, spec_rput, sp_rput, c_rput, b_rput, spec_refTwice, sp_refTwice, c_refTwice, b_refTwice]
    exact hok
theorem c_rfulls : Contract E 33 := by
  refine contract_seeT hE hgl (show E.P.funcs[33]? = some Tryz.f33 from Tryz.func33) rfl (p := sp_fulls) (fun _ _ _ => rfl) ?_
  intro args hv
  unfold sp_fulls at hv ⊢
  split at hv
  case h_2 => exact hv.elim
  rename_i h0' hp hr h1 h2 h3 es
  refine ⟨by simp, Nat.le_of_ble_eq_true rfl, ?_⟩
  simp only [givesIf] at hv
  obtain ⟨hhd, ⟨l, rfl, hok, hl⟩, hlen⟩ := hv
  simp only [txsD_length] at hlen
  have hx : ∀ (a : L2) (x : List Int), arrs a ++ [D.arr .u8 32 x] = arrs (a ++ [x]) := fun a x => arrs_append a [x]
  have htl : (hashesP true l).take l.length = hashesP true l := List.take_of_length_le (by rw [hashes_len]; exact Nat.le_refl _)
  simp (config := {dsimp := false}) only [↓vp0, vz, vn, nq, tys, cellD, wideIR, if_true, if_false, implies_true, forall_const, ne_eq, reduceIte, reduceCtorEq, Nat.reduceEqDiff, Nat.reduceAdd, Nat.reduceMul, Nat.reduceLT, Nat.reduceSub, Nat.reduceLeDiff, Nat.reduceBNe, Nat.reduceBEq, Nat.reduceBeqDiff, List.range, List.range.loop, gl0, Tryz.ntmps33, Tryz.results33]
  refine loopA [(3, none, 32)] ?_
  simp only [adopt, look, if_true, if_false, reduceIte, Nat.reduceEqDiff, setL, List.length_nil]
  refine ⟨Fin (l.length + 1), fun k => [(3, .sl (.tok 16) 32 (arrs ((hashesP true l).take k.1))), (4, .int .i64 (k.1 : Nat)), (1, .bp 0 0)], fun k => ⟨[(0, .agg [.agg [.int .u32 h0', .arr .u8 32 hp, .arr .u8 32 hr, .int .u32 h1, .int .u32 h2, .int .u32 h3], .sl .no 4 (txsD l)])], [(16, (k.1, 32))], 20⟩, fun k => l.length - k.1, 0, fun _ => rfl, ?_, ?_⟩
  · exact ⟨⟨wkD_eq rfl, rfl, wkD_eq rfl, rfl, wkD_eq rfl, rfl, trivial⟩, ⟨rfl, Nat.le_of_ble_eq_true rfl, rfl, trivial⟩, ⟨rfl, Nat.le_of_ble_eq_true rfl, trivial⟩⟩
  rintro ⟨k, hk⟩
  have hal : (arrs ((hashesP true l).take k)).length = k := by rw [arrs_length, List.length_take, hashes_len]; omega
  simp (config := {dsimp := false}) only [↓vp0, vz, vn, nq, tys, cellD, wideIR, if_true, if_false, implies_true, forall_const, ne_eq, reduceIte, reduceCtorEq, Nat.reduceEqDiff, Nat.reduceAdd, Nat.reduceMul, Nat.reduceLT, Nat.reduceSub, Nat.reduceLeDiff, Nat.reduceBNe, Nat.reduceBEq, Nat.reduceBeqDiff, List.range, List.range.loop, gl0, Tryz.ntmps33, Tryz.results33]
  refine ⟨fun hh => ?_, fun hh => ?_⟩
  · have hh := of_decide_eq_true hh
    have hk' : k < l.length := by omega
    have g1 := txsD_get l k hk'
    have ht := hok _ (getD_memI hk')
    have hg := hashes_get true l k hk'
    rw [if_pos rfl] at hg
    by_cases hz : k = 0
    · have hd : decide (((k : Nat) : Int) = 0) = true := decide_eq_true (by omega)
      simp (config := {dsimp := false}) only [↓vp0, vz, vn, nq, tys, cellD, wideIR, if_true, if_false, implies_true, forall_const, ne_eq, reduceIte, reduceCtorEq, Nat.reduceEqDiff, Nat.reduceAdd, Nat.reduceMul, Nat.reduceLT, Nat.reduceSub, Nat.reduceLeDiff, Nat.reduceBNe, Nat.reduceBEq, Nat.reduceBeqDiff, List.range, List.range.loop, gl0, Tryz.ntmps33, Tryz.results33, PF.toR, givesIf, Int.toNat_natCast, g1, txD, hal, hd, spec_rfull, sp_tfull, c_rfull, b_rfull]
      refine ⟨by omega, by omega, tx_okT ht, by omega, .inr trivial, .inr trivial, ⟨k + 1, by omega⟩, ⟨⟨wkD_eq ?_, rfl, wkD_eq ?_, rfl, wkD_eq rfl, rfl, trivial⟩, ⟨rfl, Nat.le_of_ble_eq_true rfl, rfl, trivial⟩, ⟨rfl, Nat.le_of_ble_eq_true rfl, trivial⟩⟩, by (try simp only); omega⟩
      · rw [hg, if_pos hz, bare_arr, hx]; rfl
      · exact some_i64 (by (try simp only); omega)
    · have hd : decide (((k : Nat) : Int) = 0) = false := decide_eq_false (by omega)
      simp (config := {dsimp := false}) only [↓vp0, vz, vn, nq, tys, cellD, wideIR, if_true, if_false, implies_true, forall_const, ne_eq, reduceIte, reduceCtorEq, Nat.reduceEqDiff, Nat.reduceAdd, Nat.reduceMul, Nat.reduceLT, Nat.reduceSub, Nat.reduceLeDiff, Nat.reduceBNe, Nat.reduceBEq, Nat.reduceBeqDiff, List.range, List.range.loop, gl0, Tryz.ntmps33, Tryz.results33, PF.toR, givesIf, Int.toNat_natCast, g1, txD, hal, hd, spec_rfull, sp_tfull, c_rfull, b_rfull]
      refine ⟨by omega, by omega, tx_okT ht, by omega, .inr trivial, .inr trivial, ⟨k + 1, by omega⟩, ⟨⟨wkD_eq ?_, rfl, wkD_eq ?_, rfl, wkD_eq rfl, rfl, trivial⟩, ⟨rfl, Nat.le_of_ble_eq_true rfl, rfl, trivial⟩, ⟨rfl, Nat.le_of_ble_eq_true rfl, trivial⟩⟩, by (try simp only); omega⟩
      · rw [hg, if_neg hz, bare_arr, hx]; rfl
      · exact some_i64 (by (try simp only); omega)
  · have hh := of_decide_eq_false hh
    obtain rfl : k = l.length := by omega
    simp (config := {dsimp := false}) only [↓vp0, vz, vn, nq, tys, cellD, wideIR, if_true, if_false, implies_true, forall_const, ne_eq, reduceIte, reduceCtorEq, Nat.reduceEqDiff, Nat.reduceAdd, Nat.reduceMul, Nat.reduceLT, Nat.reduceSub, Nat.reduceLeDiff, Nat.reduceBNe, Nat.reduceBEq, Nat.reduceBeqDiff, List.range, List.range.loop, gl0, Tryz.ntmps33, Tryz.results33, givesIf, htl, strips_arrs]
    all_goals rfl
end Go.Vi.CZ
end

section
set_option linter.unusedVariables false
set_option linter.unusedSimpArgs false
set_option maxHeartbeats 0
set_option maxRecDepth 20000
namespace Go.Vi.CZ
open Go.Proofs

theorem c_rids : Contract E 14 := by
  refine contract_seeT hE hgl (show E.P.funcs[14]? = some Tryz.f14 from Tryz.func14) rfl (p := sp_ids) (fun _ _ _ => rfl) ?_
  intro args hv
  unfold sp_ids at hv ⊢
  split at hv
  case h_2 => exact hv.elim
  rename_i h0' hp hr h1 h2 h3 es
  refine ⟨by simp, Nat.le_of_ble_eq_true rfl, ?_⟩
  simp only [givesIf] at hv
  obtain ⟨hhd, ⟨l, rfl, hok, hl⟩, hlen⟩ := hv
  simp only [txsD_length] at hlen
  have hx : ∀ (a : L2) (x : List Int), arrs a ++ [D.arr .u8 32 x] = arrs (a ++ [x]) := fun a x => arrs_append a [x]
  have htl : (hashesP false l).take l.length = hashesP false l := List.take_of_length_le (by rw [hashes_len]; exact Nat.le_refl _)
  simp (config := {dsimp := false}) only [↓vp0, vz, vn, nq, tys, cellD, wideIR, if_true, if_false, implies_true, forall_const, ne_eq, reduceIte, reduceCtorEq, Nat.reduceEqDiff, Nat.reduceAdd, Nat.reduceMul, Nat.reduceLT, Nat.reduceSub, Nat.reduceLeDiff, Nat.reduceBNe, Nat.reduceBEq, Nat.reduceBeqDiff, List.range, List.range.loop, gl0, Tryz.ntmps14, Tryz.results14]
  refine loopA [(3, none, 32)] ?_
  simp only [adopt, look, if_true, if_false, reduceIte, Nat.reduceEqDiff, setL, List.length_nil]
  refine ⟨Fin (l.length + 1), fun k => [(3, .sl (.tok 16) 32 (arrs ((hashesP false l).take k.1))), (4, .int .i64 (k.1 : Nat)), (1, .bp 0 0)], fun k => ⟨[(0, .agg [.agg [.int .u32 h0', .arr .u8 32 hp, .arr .u8 32 hr, .int .u32 h1, .int .u32 h2, .int .u32 h3], .sl .no 4 (txsD l)])], [(16, (k.1, 32))], 20⟩, fun k => l.length - k.1, 0, fun _ => rfl, ?_, ?_⟩
  · exact ⟨⟨wkD_eq rfl, rfl, wkD_eq rfl, rfl, wkD_eq rfl, rfl, trivial⟩, ⟨rfl, Nat.le_of_ble_eq_true rfl, rfl, trivial⟩, ⟨rfl, Nat.le_of_ble_eq_true rfl, trivial⟩⟩
  rintro ⟨k, hk⟩
  have hal : (arrs ((hashesP false l).take k)).length = k := by rw [arrs_length, List.length_take, hashes_len]; omega
  simp (config := {dsimp := false}) only [↓vp0, vz, vn, nq, tys, cellD, wideIR, if_true, if_false, implies_true, forall_const, ne_eq, reduceIte, reduceCtorEq, Nat.reduceEqDiff, Nat.reduceAdd, Nat.reduceMul, Nat.reduceLT, Nat.reduceSub, Nat.reduceLeDiff, Nat.reduceBNe, Nat.reduceBEq, Nat.reduceBeqDiff, List.range, List.range.loop, gl0, Tryz.ntmps14, Tryz.results14]
  refine ⟨fun hh => ?_, fun hh => ?_⟩
  · have hh := of_decide_eq_true hh
    have hk' : k < l.length := by omega
    have g1 := txsD_get l k hk'
    have ht := hok _ (getD_memI hk')
    have hg := hashes_get false l k hk'
    rw [if_neg (by decide)] at hg
    simp (config := {dsimp := false}) only [↓vp0, vz, vn, nq, tys, cellD, wideIR, if_true, if_false, implies_true, forall_const, ne_eq, reduceIte, reduceCtorEq, Nat.reduceEqDiff, Nat.reduceAdd, Nat.reduceMul, Nat.reduceLT, Nat.reduceSub, Nat.reduceLeDiff, Nat.reduceBNe, Nat.reduceBEq, Nat.reduceBeqDiff, List.range, List.range.loop, gl0, Tryz.ntmps14, Tryz.results14, PF.toR, givesIf, Int.toNat_natCast, g1, txD, hal, spec_rid, sp_tid, c_rid, b_rid]
    refine ⟨by omega, by omega, tx_okT ht, by omega, .inr trivial, .inr trivial, ⟨k + 1, by omega⟩, ⟨⟨wkD_eq ?_, rfl, wkD_eq ?_, rfl, wkD_eq rfl, rfl, trivial⟩, ⟨rfl, Nat.le_of_ble_eq_true rfl, rfl, trivial⟩, ⟨rfl, Nat.le_of_ble_eq_true rfl, trivial⟩⟩, by (try simp only); omega⟩
    · rw [hg, bare_arr, hx]; rfl
    · exact some_i64 (by (try simp only); omega)
  · have hh := of_decide_eq_false hh
    obtain rfl : k = l.length := by omega
    simp (config := {dsimp := false}) only [↓vp0, vz, vn, nq, tys, cellD, wideIR, if_true, if_false, implies_true, forall_const, ne_eq, reduceIte, reduceCtorEq, Nat.reduceEqDiff, Nat.reduceAdd, Nat.reduceMul, Nat.reduceLT, Nat.reduceSub, Nat.reduceLeDiff, Nat.reduceBNe, Nat.reduceBEq, Nat.reduceBeqDiff, List.range, List.range.loop, gl0, Tryz.ntmps14, Tryz.results14, givesIf, htl, strips_arrs]
    all_goals rfl
end Go.Vi.CZ
end

section
set_option linter.unusedVariables false
set_option linter.unusedSimpArgs false
set_option maxHeartbeats 0
set_option maxRecDepth 20000
namespace Go.Vi.CZ
open Go.Proofs

theorem id_bytes (t : TxP) : bytes (idP t) := by
  unfold idP
  split
  · exact bytes_sum _
  · intro x hx; rw [List.eq_of_mem_replicate hx]; decide
theorem full_bytes (t : TxP) : bytes (fullP t) := by
  unfold fullP
  split
  · exact bytes_sum _
  · intro x hx; rw [List.eq_of_mem_replicate hx]; decide
theorem zeros_bytes : bytes (List.replicate 32 0) := by intro x hx; rw [List.eq_of_mem_replicate hx]; decide
theorem hashes_bytes (f : Bool) (l : List TxP) : ∀ x ∈ hashesP f l, bytes x := by
  intro x hx
  obtain ⟨i, _, rfl⟩ := List.mem_map.1 hx
  split
  · split
    · exact zeros_bytes
    · exact full_bytes _
  · exact id_bytes _
theorem root_bytes {l : L2} (h : ∀ x ∈ l, bytes x) : bytes (rootP l) := by
  unfold rootP
  split
  · exact zeros_bytes
  · rename_i hne
    exact row_bytes h _ _ (getD_mem (List.length_pos_iff.2 (row_pos l hne _)))
theorem c_rwanted : Contract E 16 := by
  refine contract_seeT hE hgl (show E.P.funcs[16]? = some Tryz.f16 from Tryz.func16) rfl (p := sp_gwanted) (fun _ _ _ => rfl) ?_
  intro args hv
  unfold sp_gwanted at hv ⊢
  split at hv
  case h_2 => exact hv.elim
  rename_i h0 hp hr h1 h2 h3 es
  refine ⟨by simp, Nat.le_of_ble_eq_true rfl, ?_⟩
  simp only [givesIf] at hv
  obtain ⟨hhd, ⟨L, rfl, hok, hl⟩, hlen⟩ := hv
  simp only [txs_D, txsD_length] at hlen ⊢
  have hisL : isTxL (txsD L) := ⟨L, rfl, hok, hl⟩
  by_cases hz : L.length = 0
  · have d0 : decide (((L.length : Nat) : Int) = 0) = true := decide_eq_true (by omega)
    simp (config := {dsimp := false}) only [↓vp0, vz, vn, nq, tys, cellD, wideIR, if_true, if_false, implies_true, forall_const, ne_eq, reduceIte, reduceCtorEq, Nat.reduceEqDiff, Nat.reduceAdd, Nat.reduceMul, Nat.reduceLT, Nat.reduceSub, Nat.reduceLeDiff, Nat.reduceBNe, Nat.reduceBEq, Nat.reduceBeqDiff, List.range, List.range.loop, gl0, Tryz.ntmps16, Tryz.results16, d0, wanted_0 hz, hashV, givesIf]
    all_goals rfl
  have d0 : decide (((L.length : Nat) : Int) = 0) = false := decide_eq_false (by omega)
  obtain ⟨t, r, hL⟩ : ∃ t r, L = t :: r := by cases L with
    | nil => exact absurd rfl hz
    | cons t r => exact ⟨t, r, rfl⟩
  have g0 : (txsD L).getD (Int.toNat 0) .any = txD t := by rw [hL]; rfl
  have ht := hok t (by rw [hL]; exact List.mem_cons_self ..)
  have hmi := ht.mi
  by_cases hi : t.ins.length = 1
  case neg =>
    have d1 : decide (((t.ins.length : Nat) : Int) = 1) = false := decide_eq_false (by omega)
    have hw : wantedP L = none := by rw [hL]; exact wanted_1 hi
    simp (config := {dsimp := false}) only [↓vp0, vz, vn, nq, tys, cellD, wideIR, if_true, if_false, implies_true, forall_const, ne_eq, reduceIte, reduceCtorEq, Nat.reduceEqDiff, Nat.reduceAdd, Nat.reduceMul, Nat.reduceLT, Nat.reduceSub, Nat.reduceLeDiff, Nat.reduceBNe, Nat.reduceBEq, Nat.reduceBeqDiff, List.range, List.range.loop, gl0, Tryz.ntmps16, Tryz.results16, d0, d1, g0, txD, hw, hashV, givesIf]
    (repeat' apply And.intro) <;> first | exact Int.le_refl _ | omega | rfl
  have d1 : decide (((t.ins.length : Nat) : Int) = 1) = true := decide_eq_true (by omega)
  obtain ⟨x, hx⟩ := one_of hi
  have g1 : (insD t.ins).getD (Int.toNat 0) .any = inD x := by rw [hx]; rfl
  have hxo := ht.ins x (by rw [hx]; exact List.mem_cons_self ..)
  have hmw := hxo.many
  by_cases hwl : x.wit.length = 1
  case neg =>
    have d2 : decide (((x.wit.length : Nat) : Int) = 1) = false := decide_eq_false (by omega)
    have hw : wantedP L = none := by rw [hL]; exact wanted_2 hx hwl
    simp (config := {dsimp := false}) only [↓vp0, vz, vn, nq, tys, cellD, wideIR, if_true, if_false, implies_true, forall_const, ne_eq, reduceIte, reduceCtorEq, Nat.reduceEqDiff, Nat.reduceAdd, Nat.reduceMul, Nat.reduceLT, Nat.reduceSub, Nat.reduceLeDiff, Nat.reduceBNe, Nat.reduceBEq, Nat.reduceBeqDiff, List.range, List.range.loop, gl0, Tryz.ntmps16, Tryz.results16, d0, d1, d2, g0, g1, txD, inD, hw, hashV, givesIf]
    (repeat' apply And.intro) <;> first | exact Int.le_refl _ | omega | rfl
  have d2 : decide (((x.wit.length : Nat) : Int) = 1) = true := decide_eq_true (by omega)
  obtain ⟨w, hw⟩ := one_of hwl
  have g2 : (slis x.wit).getD (Int.toNat 0) .any = .sli .no .u8 w := by rw [hw]; rfl
  have hwo := (hxo.wit w (by rw [hw]; exact List.mem_cons_self ..)).2
  have hW : wantedP L = if w.length = 32 then some (H2 (rootP (hashesP true L)) w) else none := by rw [hL]; exact wanted_3 hx hw
  by_cases h32' : w.length = 32
  case neg =>
    have d3 : decide (((w.length : Nat) : Int) = 32) = false := decide_eq_false (by omega)
    rw [if_neg h32'] at hW
    simp (config := {dsimp := false}) only [↓vp0, vz, vn, nq, tys, cellD, wideIR, if_true, if_false, implies_true, forall_const, ne_eq, reduceIte, reduceCtorEq, Nat.reduceEqDiff, Nat.reduceAdd, Nat.reduceMul, Nat.reduceLT, Nat.reduceSub, Nat.reduceLeDiff, Nat.reduceBNe, Nat.reduceBEq, Nat.reduceBeqDiff, List.range, List.range.loop, gl0, Tryz.ntmps16, Tryz.results16, d0, d1, d2, d3, g0, g1, g2, txD, inD, hW, hashV, givesIf]
    (repeat' apply And.intro) <;> first | exact Int.le_refl _ | omega | rfl
  have d3 : decide (((w.length : Nat) : Int) = 32) = true := decide_eq_true (by omega)
  rw [if_pos h32'] at hW
  have hrl : (rootP (hashesP true L)).length = 32 := root_len (hashes_32 true L)
  have hhb := hashes_bytes true L
  have hwb := (hxo.wit w (by rw [hw]; exact List.mem_cons_self ..)).1
  have hrb := root_bytes hhb
  simp (config := {dsimp := false}) only [↓vp0, vz, vn, nq, tys, cellD, wideIR, if_true, if_false, implies_true, forall_const, ne_eq, reduceIte, reduceCtorEq, Nat.reduceEqDiff, Nat.reduceAdd, Nat.reduceMul, Nat.reduceLT, Nat.reduceSub, Nat.reduceLeDiff, Nat.reduceBNe, Nat.reduceBEq, Nat.reduceBeqDiff, List.range, List.range.loop, gl0, Tryz.ntmps16, Tryz.results16, d0, d1, d2, d3, g0, g1, g2, txD, inD]
  (repeat' apply And.intro)
  any_goals first | exact Int.le_refl _ | omega
  refine loopI (Fin 33) (fun m => [(5, .int .i64 (m.1 : Nat)), (1, .bp 0 0), (2, .bp 4 0), (4, .bp 168 0)]) (fun m => ⟨[(0, .agg [.agg [.int .u32 h0, .arr .u8 32 hp, .arr .u8 32 hr, .int .u32 h1, .int .u32 h2, .int .u32 h3], .sl .no 4 (txsD L)]), (4, .arr .u8 32 (List.replicate 32 0)), (168, .arr .u8 32 (w.take m.1 ++ (List.replicate 32 (0 : Int)).drop m.1))], [], 176⟩) (fun m => 32 - m.1) 0 (fun _ => rfl) ?_ ?_
  · exact ⟨⟨wkD_eq rfl, rfl, wkD_eq rfl, rfl, wkD_eq rfl, rfl, wkD_eq rfl, rfl, trivial⟩, ⟨rfl, Nat.le_of_ble_eq_true rfl, rfl, rfl, Nat.le_of_ble_eq_true rfl, rfl, rfl, Nat.le_of_ble_eq_true rfl, rfl, trivial⟩, trivial⟩
  rintro ⟨m, hm'⟩
  simp (config := {dsimp := false}) only [↓vp0, vz, vn, nq, tys, cellD, wideIR, if_true, if_false, implies_true, forall_const, ne_eq, reduceIte, reduceCtorEq, Nat.reduceEqDiff, Nat.reduceAdd, Nat.reduceMul, Nat.reduceLT, Nat.reduceSub, Nat.reduceLeDiff, Nat.reduceBNe, Nat.reduceBEq, Nat.reduceBeqDiff, List.range, List.range.loop, gl0, Tryz.ntmps16, Tryz.results16]
  refine ⟨fun h2 => ?_, fun h2 => ?_⟩
  · have h2 := of_decide_eq_true h2
    have hs := mix_set (a := w) (b := List.replicate 32 (0 : Int)) (m := m) (by omega) (by simp; omega)
    simp (config := {dsimp := false}) only [↓vp0, vz, vn, nq, tys, cellD, wideIR, if_true, if_false, implies_true, forall_const, ne_eq, reduceIte, reduceCtorEq, Nat.reduceEqDiff, Nat.reduceAdd, Nat.reduceMul, Nat.reduceLT, Nat.reduceSub, Nat.reduceLeDiff, Nat.reduceBNe, Nat.reduceBEq, Nat.reduceBeqDiff, List.range, List.range.loop, gl0, Tryz.ntmps16, Tryz.results16, g0, g1, g2, txD, inD, Int.toNat_natCast]
    refine ⟨Int.le_refl _, by omega, Int.le_refl _, by omega, Int.le_refl _, by omega, by omega, by omega, by omega, by omega, ⟨m + 1, by omega⟩, ⟨⟨wkD_eq ?_, rfl, wkD_eq rfl, rfl, wkD_eq rfl, rfl, wkD_eq rfl, rfl, trivial⟩, ⟨rfl, Nat.le_of_ble_eq_true rfl, rfl, rfl, Nat.le_of_ble_eq_true rfl, rfl, ?_, Nat.le_of_ble_eq_true rfl, rfl, trivial⟩, trivial⟩, by (try simp only); omega⟩
    · exact some_i64 (by (try simp only); omega)
    · show some (D.arr .u8 32 _) = some _
      rw [hs]
  · have h2 := of_decide_eq_false h2
    obtain rfl : m = 32 := by omega
    have hmx : w.take 32 ++ (List.replicate 32 (0 : Int)).drop 32 = w := mix_all h32' (by simp)
    have hte := twice_eq (rootP (hashesP true L) ++ w) (bytes_app hrb hwb) (by rw [List.length_append, hrl, h32']; decide)
    simp (config := {dsimp := false}) only [↓vp0, vz, vn, nq, tys, cellD, wideIR, if_true, if_false, implies_true, forall_const, ne_eq, reduceIte, reduceCtorEq, Nat.reduceEqDiff, Nat.reduceAdd, Nat.reduceMul, Nat.reduceLT, Nat.reduceSub, Nat.reduceLeDiff, Nat.reduceBNe, Nat.reduceBEq, Nat.reduceBeqDiff, List.range, List.range.loop, gl0, Tryz.ntmps16, Tryz.results16, PF.toR, hmx, hrl, h32', hte, givesIf, strips_arrs, hs_arrs, spec_rfulls, sp_fulls, c_rfulls, b_rfulls, spec_refRoot, sp_refRoot, c_refRoot, b_refRoot, spec_refMText, sp_refMText, c_refMText, b_refMText, spec_refTwice, sp_refTwice, c_refTwice, b_refTwice]
    exact ⟨hhd, hisL, by omega, ⟨_, rfl, hashes_32 true L⟩, by rw [arrs_length, hashes_len]; omega, hhb, by rw [List.length_append, hrl, h32']; decide, by rw [hW]; rfl⟩
end Go.Vi.CZ
end

section
set_option linter.unusedVariables false
set_option linter.unusedSimpArgs false
set_option maxHeartbeats 0
set_option maxRecDepth 20000
namespace Go.Vi.CZ
open Go.Proofs

theorem small_no {l : List TxP} {t : TxP} (h : t ∈ l) (hb : txSmall t = false) : smallP l = false := by
  unfold smallP
  rw [List.all_eq_false.2 ⟨t, h, by rw [hb]; decide⟩, Bool.and_false]
theorem small_yes {l : List TxP} (h8 : l.length ≤ 8) (h : ∀ j, j < l.length → txSmall (l.getD j default) = true) : smallP l = true := by
  unfold smallP
  rw [decide_eq_true h8, Bool.true_and, List.all_eq_true]
  intro x hx
  obtain ⟨i, h1, rfl⟩ := List.getElem_of_mem hx
  have := h i h1
  simpa [List.getD, h1] using this
theorem all_get {α : Type} [Inhabited α] {p : α → Bool} {l : List α} (h : ∀ j, j < l.length → p (l.getD j default) = true) : l.all p = true := by
  rw [List.all_eq_true]
  intro x hx
  obtain ⟨i, h1, rfl⟩ := List.getElem_of_mem hx
  have := h i h1
  simpa [List.getD, h1] using this
theorem all_no {α : Type} {p : α → Bool} {l : List α} {x : α} (hx : x ∈ l) (h : p x = false) : l.all p = false := List.all_eq_false.2 ⟨x, hx, by rw [h]; decide⟩
def w200 (w : List Int) : Bool := decide (w.length ≤ 200)
theorem inSmall_eq (x : InP) : inSmall x = ((decide (x.script.length ≤ 200) && decide (x.wit.length ≤ 6)) && x.wit.all w200) := rfl
theorem c_small : Contract E 4 := by
  refine contract_seeT hE hgl (show E.P.funcs[4]? = some Tryz.f4 from Tryz.func4) rfl (p := sp_small) (fun _ _ _ => rfl) ?_
  intro args hv
  unfold sp_small at hv ⊢
  split at hv
  case h_2 => exact hv.elim
  rename_i h0 hp hr h1 h2 h3 es
  refine ⟨by simp, Nat.le_of_ble_eq_true rfl, ?_⟩
  simp only [givesIf] at hv
  obtain ⟨hhd, l, rfl, hok, hl⟩ := hv
  simp only [txs_D]
  by_cases h8 : l.length ≤ 8
  case neg =>
    have d0 : decide ((8 : Int) < ((l.length : Nat) : Int)) = true := decide_eq_true (by omega)
    have hs : smallP l = false := by unfold smallP; rw [decide_eq_false h8, Bool.false_and]
    simp (config := {dsimp := false}) only [↓vp0, vz, vn, nq, tys, cellD, wideIR, if_true, if_false, implies_true, forall_const, ne_eq, reduceIte, reduceCtorEq, Nat.reduceEqDiff, Nat.reduceAdd, Nat.reduceMul, Nat.reduceLT, Nat.reduceSub, Nat.reduceLeDiff, Nat.reduceBNe, Nat.reduceBEq, Nat.reduceBeqDiff, List.range, List.range.loop, gl0, Tryz.ntmps4, Tryz.results4, d0, hs, givesIf]
    all_goals rfl
  have d0 : decide ((8 : Int) < ((l.length : Nat) : Int)) = false := decide_eq_false (by omega)
  simp (config := {dsimp := false}) only [↓vp0, vz, vn, nq, tys, cellD, wideIR, if_true, if_false, implies_true, forall_const, ne_eq, reduceIte, reduceCtorEq, Nat.reduceEqDiff, Nat.reduceAdd, Nat.reduceMul, Nat.reduceLT, Nat.reduceSub, Nat.reduceLeDiff, Nat.reduceBNe, Nat.reduceBEq, Nat.reduceBeqDiff, List.range, List.range.loop, gl0, Tryz.ntmps4, Tryz.results4, d0]
  refine loopI {k : Nat // k ≤ l.length ∧ ∀ j, j < k → txSmall (l.getD j default) = true} (fun k => [(3, .int .i64 (k.1 : Nat)), (1, .bp 0 0)]) (fun _ => ⟨[(0, .agg [.agg [.int .u32 h0, .arr .u8 32 hp, .arr .u8 32 hr, .int .u32 h1, .int .u32 h2, .int .u32 h3], .sl .no 4 (txsD l)])], [], 28⟩) (fun k => l.length - k.1) ⟨0, by simp⟩ (fun _ => rfl) ?_ ?_
  · exact ⟨⟨wkD_eq rfl, rfl, wkD_eq rfl, rfl, trivial⟩, ⟨rfl, Nat.le_of_ble_eq_true rfl, rfl, trivial⟩, trivial⟩
  rintro ⟨k, hk, hb⟩
  simp (config := {dsimp := false}) only [↓vp0, vz, vn, nq, tys, cellD, wideIR, if_true, if_false, implies_true, forall_const, ne_eq, reduceIte, reduceCtorEq, Nat.reduceEqDiff, Nat.reduceAdd, Nat.reduceMul, Nat.reduceLT, Nat.reduceSub, Nat.reduceLeDiff, Nat.reduceBNe, Nat.reduceBEq, Nat.reduceBeqDiff, List.range, List.range.loop, gl0, Tryz.ntmps4, Tryz.results4]
  refine ⟨fun hh => ?_, fun hh => ?_⟩
  case refine_2 =>
    have hh := of_decide_eq_false hh
    obtain rfl : k = l.length := by omega
    simp (config := {dsimp := false}) only [↓vp0, vz, vn, nq, tys, cellD, wideIR, if_true, if_false, implies_true, forall_const, ne_eq, reduceIte, reduceCtorEq, Nat.reduceEqDiff, Nat.reduceAdd, Nat.reduceMul, Nat.reduceLT, Nat.reduceSub, Nat.reduceLeDiff, Nat.reduceBNe, Nat.reduceBEq, Nat.reduceBeqDiff, List.range, List.range.loop, gl0, Tryz.ntmps4, Tryz.results4, small_yes h8 hb, givesIf]
    all_goals rfl
  have hh := of_decide_eq_true hh
  have hk' : k < l.length := by omega
  have g0 := txsD_get l k hk'
  have ht := hok _ (getD_memI hk')
  have hmi := ht.mi
  have hmo := ht.mo
  have no : txSmall (l.getD k default) = false → smallP l = false := small_no (getD_memI hk')
  by_cases c1 : (l.getD k default).ins.length ≤ 6
  case neg =>
    have hs := no (by unfold txSmall; rw [decide_eq_false c1, Bool.false_and, Bool.false_and])
    have d1 : decide ((6 : Int) < (((l.getD k default).ins.length : Nat) : Int)) = true := decide_eq_true (by omega)
    simp (config := {dsimp := false}) only [↓vp0, vz, vn, nq, tys, cellD, wideIR, if_true, if_false, implies_true, forall_const, ne_eq, reduceIte, reduceCtorEq, Nat.reduceEqDiff, Nat.reduceAdd, Nat.reduceMul, Nat.reduceLT, Nat.reduceSub, Nat.reduceLeDiff, Nat.reduceBNe, Nat.reduceBEq, Nat.reduceBeqDiff, List.range, List.range.loop, gl0, Tryz.ntmps4, Tryz.results4, Int.toNat_natCast, g0, txD, d1, hs, givesIf]
    exact ⟨by omega, by omega⟩
  have d1 : decide ((6 : Int) < (((l.getD k default).ins.length : Nat) : Int)) = false := decide_eq_false (by omega)
  by_cases c2 : (l.getD k default).outs.length ≤ 6
  case neg =>
    have hs := no (by unfold txSmall; rw [decide_eq_false c2, Bool.and_false, Bool.false_and])
    have d2 : decide ((6 : Int) < (((l.getD k default).outs.length : Nat) : Int)) = true := decide_eq_true (by omega)
    simp (config := {dsimp := false}) only [↓vp0, vz, vn, nq, tys, cellD, wideIR, if_true, if_false, implies_true, forall_const, ne_eq, reduceIte, reduceCtorEq, Nat.reduceEqDiff, Nat.reduceAdd, Nat.reduceMul, Nat.reduceLT, Nat.reduceSub, Nat.reduceLeDiff, Nat.reduceBNe, Nat.reduceBEq, Nat.reduceBeqDiff, List.range, List.range.loop, gl0, Tryz.ntmps4, Tryz.results4, Int.toNat_natCast, g0, txD, d1, d2, hs, givesIf]
    exact ⟨by omega, by omega⟩
  have d2 : decide ((6 : Int) < (((l.getD k default).outs.length : Nat) : Int)) = false := decide_eq_false (by omega)
  simp (config := {dsimp := false}) only [↓vp0, vz, vn, nq, tys, cellD, wideIR, if_true, if_false, implies_true, forall_const, ne_eq, reduceIte, reduceCtorEq, Nat.reduceEqDiff, Nat.reduceAdd, Nat.reduceMul, Nat.reduceLT, Nat.reduceSub, Nat.reduceLeDiff, Nat.reduceBNe, Nat.reduceBEq, Nat.reduceBeqDiff, List.range, List.range.loop, gl0, Tryz.ntmps4, Tryz.results4, Int.toNat_natCast, g0, txD, d1, d2]
  refine ⟨by omega, by omega, ?_⟩
  refine loopI {m : Nat // m ≤ (l.getD k default).ins.length ∧ ∀ j, j < m → inSmall ((l.getD k default).ins.getD j default) = true} (fun m => [(5, .int .i64 (m.1 : Nat)), (4, .bp 68 0), (3, .int .i64 (k : Nat)), (1, .bp 0 0)]) (fun _ => ⟨[(0, .agg [.agg [.int .u32 h0, .arr .u8 32 hp, .arr .u8 32 hr, .int .u32 h1, .int .u32 h2, .int .u32 h3], .sl .no 4 (txsD l)]), (68, txD (l.getD k default))], [], 120⟩) (fun m => (l.getD k default).ins.length - m.1) ⟨0, by simp⟩ (fun _ => rfl) ?_ ?_
  · exact ⟨⟨wkD_eq rfl, rfl, wkD_eq rfl, rfl, wkD_eq rfl, rfl, wkD_eq rfl, rfl, trivial⟩, ⟨rfl, Nat.le_of_ble_eq_true rfl, rfl, rfl, Nat.le_of_ble_eq_true rfl, rfl, trivial⟩, trivial⟩
  rintro ⟨m, hm, hbm⟩
  simp (config := {dsimp := false}) only [↓vp0, vz, vn, nq, tys, cellD, wideIR, if_true, if_false, implies_true, forall_const, ne_eq, reduceIte, reduceCtorEq, Nat.reduceEqDiff, Nat.reduceAdd, Nat.reduceMul, Nat.reduceLT, Nat.reduceSub, Nat.reduceLeDiff, Nat.reduceBNe, Nat.reduceBEq, Nat.reduceBeqDiff, List.range, List.range.loop, gl0, Tryz.ntmps4, Tryz.results4, txD]
  refine ⟨fun hh2 => ?_, fun hh2 => ?_⟩
  · have hh2 := of_decide_eq_true hh2
    have hm' : m < (l.getD k default).ins.length := by omega
    have g1 := insD_get (l.getD k default).ins m hm'
    have hx := ht.ins _ (getD_memI hm')
    have hmw := hx.many
    have hms := hx.script.2
    have no2 : inSmall ((l.getD k default).ins.getD m default) = false → smallP l = false := fun h => no (by unfold txSmall; rw [all_no (getD_memI hm') h, Bool.false_and, Bool.and_false])
    by_cases c3 : ((l.getD k default).ins.getD m default).script.length ≤ 200
    case neg =>
      have hs := no2 (by unfold inSmall; rw [decide_eq_false c3, Bool.false_and, Bool.false_and])
      have d3 : decide ((200 : Int) < ((((l.getD k default).ins.getD m default).script.length : Nat) : Int)) = true := decide_eq_true (by omega)
      simp (config := {dsimp := false}) only [↓vp0, vz, vn, nq, tys, cellD, wideIR, if_true, if_false, implies_true, forall_const, ne_eq, reduceIte, reduceCtorEq, Nat.reduceEqDiff, Nat.reduceAdd, Nat.reduceMul, Nat.reduceLT, Nat.reduceSub, Nat.reduceLeDiff, Nat.reduceBNe, Nat.reduceBEq, Nat.reduceBeqDiff, List.range, List.range.loop, gl0, Tryz.ntmps4, Tryz.results4, Int.toNat_natCast, g1, txD, inD, d3, hs, givesIf]
      exact ⟨by omega, by omega⟩
    have d3 : decide ((200 : Int) < ((((l.getD k default).ins.getD m default).script.length : Nat) : Int)) = false := decide_eq_false (by omega)
    by_cases c4 : ((l.getD k default).ins.getD m default).wit.length ≤ 6
    case neg =>
      have hs := no2 (by unfold inSmall; rw [decide_eq_false c4, Bool.and_false, Bool.false_and])
      have d4 : decide ((6 : Int) < ((((l.getD k default).ins.getD m default).wit.length : Nat) : Int)) = true := decide_eq_true (by omega)
      simp (config := {dsimp := false}) only [↓vp0, vz, vn, nq, tys, cellD, wideIR, if_true, if_false, implies_true, forall_const, ne_eq, reduceIte, reduceCtorEq, Nat.reduceEqDiff, Nat.reduceAdd, Nat.reduceMul, Nat.reduceLT, Nat.reduceSub, Nat.reduceLeDiff, Nat.reduceBNe, Nat.reduceBEq, Nat.reduceBeqDiff, List.range, List.range.loop, gl0, Tryz.ntmps4, Tryz.results4, Int.toNat_natCast, g1, txD, inD, d3, d4, hs, givesIf]
      exact ⟨by omega, by omega, by omega, by omega⟩
    have d4 : decide ((6 : Int) < ((((l.getD k default).ins.getD m default).wit.length : Nat) : Int)) = false := decide_eq_false (by omega)
    simp (config := {dsimp := false}) only [↓vp0, vz, vn, nq, tys, cellD, wideIR, if_true, if_false, implies_true, forall_const, ne_eq, reduceIte, reduceCtorEq, Nat.reduceEqDiff, Nat.reduceAdd, Nat.reduceMul, Nat.reduceLT, Nat.reduceSub, Nat.reduceLeDiff, Nat.reduceBNe, Nat.reduceBEq, Nat.reduceBeqDiff, List.range, List.range.loop, gl0, Tryz.ntmps4, Tryz.results4, Int.toNat_natCast, g1, txD, inD, d3, d4]
    refine ⟨by omega, by omega, by omega, by omega, ?_⟩
    refine loopI {q : Nat // q ≤ ((l.getD k default).ins.getD m default).wit.length ∧ ∀ j, j < q → w200 (((l.getD k default).ins.getD m default).wit.getD j default) = true} (fun q => [(6, .int .i64 (q.1 : Nat)), (5, .int .i64 (m : Nat)), (4, .bp 68 0), (3, .int .i64 (k : Nat)), (1, .bp 0 0)]) (fun _ => ⟨[(0, .agg [.agg [.int .u32 h0, .arr .u8 32 hp, .arr .u8 32 hr, .int .u32 h1, .int .u32 h2, .int .u32 h3], .sl .no 4 (txsD l)]), (68, txD (l.getD k default))], [], 216⟩) (fun q => ((l.getD k default).ins.getD m default).wit.length - q.1) ⟨0, by simp⟩ (fun _ => rfl) ?_ ?_
    · exact ⟨⟨wkD_eq rfl, rfl, wkD_eq rfl, rfl, wkD_eq rfl, rfl, wkD_eq rfl, rfl, wkD_eq rfl, rfl, trivial⟩, ⟨rfl, Nat.le_of_ble_eq_true rfl, rfl, rfl, Nat.le_of_ble_eq_true rfl, rfl, trivial⟩, trivial⟩
    rintro ⟨q, hq, hbq⟩
    simp (config := {dsimp := false}) only [↓vp0, vz, vn, nq, tys, cellD, wideIR, if_true, if_false, implies_true, forall_const, ne_eq, reduceIte, reduceCtorEq, Nat.reduceEqDiff, Nat.reduceAdd, Nat.reduceMul, Nat.reduceLT, Nat.reduceSub, Nat.reduceLeDiff, Nat.reduceBNe, Nat.reduceBEq, Nat.reduceBeqDiff, List.range, List.range.loop, gl0, Tryz.ntmps4, Tryz.results4, Int.toNat_natCast, g1, txD, inD]
    refine ⟨by omega, by omega, fun hh3 => ?_, fun hh3 => ?_⟩
    · have hh3 := of_decide_eq_true hh3
      have hq' : q < ((l.getD k default).ins.getD m default).wit.length := by omega
      have g2 : (slis ((l.getD k default).ins.getD m default).wit).getD q .any = .sli .no .u8 (((l.getD k default).ins.getD m default).wit.getD q default) := slis_get _ q hq'
      have hwm := (hx.wit _ (getD_memI hq')).2
      cases hp : w200 (((l.getD k default).ins.getD m default).wit.getD q default)
      · have hs := no2 (by rw [inSmall_eq, all_no (p := w200) (getD_memI hq') hp, Bool.and_false])
        have d5 : decide ((200 : Int) < (((((l.getD k default).ins.getD m default).wit.getD q default).length : Nat) : Int)) = true := decide_eq_true (by have := of_decide_eq_false hp; omega)
        simp (config := {dsimp := false}) only [↓vp0, vz, vn, nq, tys, cellD, wideIR, if_true, if_false, implies_true, forall_const, ne_eq, reduceIte, reduceCtorEq, Nat.reduceEqDiff, Nat.reduceAdd, Nat.reduceMul, Nat.reduceLT, Nat.reduceSub, Nat.reduceLeDiff, Nat.reduceBNe, Nat.reduceBEq, Nat.reduceBeqDiff, List.range, List.range.loop, gl0, Tryz.ntmps4, Tryz.results4, Int.toNat_natCast, g1, g2, txD, inD, d5, hs, givesIf]
        exact ⟨by omega, by omega, by omega, by omega⟩
      · have d5 : decide ((200 : Int) < (((((l.getD k default).ins.getD m default).wit.getD q default).length : Nat) : Int)) = false := decide_eq_false (by have := of_decide_eq_true hp; omega)
        simp (config := {dsimp := false}) only [↓vp0, vz, vn, nq, tys, cellD, wideIR, if_true, if_false, implies_true, forall_const, ne_eq, reduceIte, reduceCtorEq, Nat.reduceEqDiff, Nat.reduceAdd, Nat.reduceMul, Nat.reduceLT, Nat.reduceSub, Nat.reduceLeDiff, Nat.reduceBNe, Nat.reduceBEq, Nat.reduceBeqDiff, List.range, List.range.loop, gl0, Tryz.ntmps4, Tryz.results4, Int.toNat_natCast, g1, g2, txD, inD, d5]
        refine ⟨by omega, by omega, by omega, by omega, ⟨q + 1, by omega, fun j hj => ?_⟩, ⟨⟨wkD_eq ?_, rfl, wkD_eq rfl, rfl, wkD_eq rfl, rfl, wkD_eq rfl, rfl, wkD_eq rfl, rfl, trivial⟩, ⟨rfl, Nat.le_of_ble_eq_true rfl, rfl, rfl, Nat.le_of_ble_eq_true rfl, rfl, trivial⟩, trivial⟩, by (try simp only); omega⟩
        · rcases Nat.lt_or_ge j q with h7 | h7
          · exact hbq j h7
          · obtain rfl : j = q := by omega
            exact hp
        · exact some_i64 (by (try simp only); omega)
    · have hh3 := of_decide_eq_false hh3
      obtain rfl : q = ((l.getD k default).ins.getD m default).wit.length := by omega
      have hp : inSmall ((l.getD k default).ins.getD m default) = true := by
        rw [inSmall_eq, decide_eq_true c3, decide_eq_true c4, all_get (p := w200) hbq]; rfl
      refine ⟨⟨m + 1, by omega, fun j hj => ?_⟩, ⟨⟨wkD_eq ?_, rfl, wkD_eq rfl, rfl, wkD_eq rfl, rfl, wkD_eq rfl, rfl, trivial⟩, ⟨rfl, Nat.le_of_ble_eq_true rfl, rfl, rfl, Nat.le_of_ble_eq_true rfl, rfl, trivial⟩, trivial⟩, by (try simp only); omega⟩
      · rcases Nat.lt_or_ge j m with h7 | h7
        · exact hbm j h7
        · obtain rfl : j = m := by omega
          exact hp
      · exact some_i64 (by (try simp only); omega)
  have hh2 := of_decide_eq_false hh2
  obtain rfl : m = (l.getD k default).ins.length := by omega
  refine loopI {m : Nat // m ≤ (l.getD k default).outs.length ∧ ∀ j, j < m → outSmall ((l.getD k default).outs.getD j default) = true} (fun m => [(7, .int .i64 (m.1 : Nat)), (4, .bp 68 0), (3, .int .i64 (k : Nat)), (1, .bp 0 0)]) (fun _ => ⟨[(0, .agg [.agg [.int .u32 h0, .arr .u8 32 hp, .arr .u8 32 hr, .int .u32 h1, .int .u32 h2, .int .u32 h3], .sl .no 4 (txsD l)]), (68, txD (l.getD k default))], [], 144⟩) (fun m => (l.getD k default).outs.length - m.1) ⟨0, by simp⟩ (fun _ => rfl) ?_ ?_
  · exact ⟨⟨wkD_eq rfl, rfl, wkD_eq rfl, rfl, wkD_eq rfl, rfl, wkD_eq rfl, rfl, trivial⟩, ⟨rfl, Nat.le_of_ble_eq_true rfl, rfl, rfl, Nat.le_of_ble_eq_true rfl, rfl, trivial⟩, trivial⟩
  rintro ⟨m, hm, hbo⟩
  simp (config := {dsimp := false}) only [↓vp0, vz, vn, nq, tys, cellD, wideIR, if_true, if_false, implies_true, forall_const, ne_eq, reduceIte, reduceCtorEq, Nat.reduceEqDiff, Nat.reduceAdd, Nat.reduceMul, Nat.reduceLT, Nat.reduceSub, Nat.reduceLeDiff, Nat.reduceBNe, Nat.reduceBEq, Nat.reduceBeqDiff, List.range, List.range.loop, gl0, Tryz.ntmps4, Tryz.results4, txD]
  refine ⟨fun hh2 => ?_, fun hh2 => ?_⟩
  · have hh2 := of_decide_eq_true hh2
    have hm' : m < (l.getD k default).outs.length := by omega
    have g1 := outsD_get (l.getD k default).outs m hm'
    have hx := ht.outs _ (getD_memI hm')
    have hms := hx.script.2
    cases hp : outSmall ((l.getD k default).outs.getD m default)
    · have hs := no (by unfold txSmall; rw [all_no (getD_memI hm') hp, Bool.and_false, Bool.and_false])
      have d5 : decide ((200 : Int) < ((((l.getD k default).outs.getD m default).script.length : Nat) : Int)) = true := decide_eq_true (by have := of_decide_eq_false hp; omega)
      simp (config := {dsimp := false}) only [↓vp0, vz, vn, nq, tys, cellD, wideIR, if_true, if_false, implies_true, forall_const, ne_eq, reduceIte, reduceCtorEq, Nat.reduceEqDiff, Nat.reduceAdd, Nat.reduceMul, Nat.reduceLT, Nat.reduceSub, Nat.reduceLeDiff, Nat.reduceBNe, Nat.reduceBEq, Nat.reduceBeqDiff, List.range, List.range.loop, gl0, Tryz.ntmps4, Tryz.results4, Int.toNat_natCast, g1, txD, outD, d5, hs, givesIf]
      exact ⟨by omega, by omega⟩
    · have d5 : decide ((200 : Int) < ((((l.getD k default).outs.getD m default).script.length : Nat) : Int)) = false := decide_eq_false (by have := of_decide_eq_true hp; omega)
      simp (config := {dsimp := false}) only [↓vp0, vz, vn, nq, tys, cellD, wideIR, if_true, if_false, implies_true, forall_const, ne_eq, reduceIte, reduceCtorEq, Nat.reduceEqDiff, Nat.reduceAdd, Nat.reduceMul, Nat.reduceLT, Nat.reduceSub, Nat.reduceLeDiff, Nat.reduceBNe, Nat.reduceBEq, Nat.reduceBeqDiff, List.range, List.range.loop, gl0, Tryz.ntmps4, Tryz.results4, Int.toNat_natCast, g1, txD, outD, d5]
      refine ⟨by omega, by omega, ⟨m + 1, by omega, fun j hj => ?_⟩, ⟨⟨wkD_eq ?_, rfl, wkD_eq rfl, rfl, wkD_eq rfl, rfl, wkD_eq rfl, rfl, trivial⟩, ⟨rfl, Nat.le_of_ble_eq_true rfl, rfl, rfl, Nat.le_of_ble_eq_true rfl, rfl, trivial⟩, trivial⟩, by (try simp only); omega⟩
      · rcases Nat.lt_or_ge j m with h7 | h7
        · exact hbo j h7
        · obtain rfl : j = m := by omega
          exact hp
      · exact some_i64 (by (try simp only); omega)
  have hh2 := of_decide_eq_false hh2
  obtain rfl : m = (l.getD k default).outs.length := by omega
  have hp : txSmall (l.getD k default) = true := by
    unfold txSmall
    rw [decide_eq_true c1, decide_eq_true c2, all_get hbm, all_get hbo]; rfl
  refine ⟨⟨k + 1, by omega, fun j hj => ?_⟩, ⟨⟨wkD_eq ?_, rfl, wkD_eq rfl, rfl, trivial⟩, ⟨rfl, Nat.le_of_ble_eq_true rfl, rfl, trivial⟩, trivial⟩, by (try simp only); omega⟩
  · rcases Nat.lt_or_ge j k with h7 | h7
    · exact hb j h7
    · obtain rfl : j = k := by omega
      exact hp
  · exact some_i64 (by (try simp only); omega)
end Go.Vi.CZ
end

section
set_option linter.unusedVariables false
set_option linter.unusedSimpArgs false
set_option maxHeartbeats 0
set_option maxRecDepth 20000
namespace Go.Vi.CZ
open Go.Proofs

theorem coin_no0 {t : TxP} {r : List TxP} (h : baseP t = false) : coinP (t :: r) = false := by
  show ((baseP t && !r.any baseP) && _) = false
  rw [h]; rfl
theorem coin_nos {t : TxP} {r : List TxP} (h : (decide (2 ≤ (t.ins.getD 0 default).script.length) && decide ((t.ins.getD 0 default).script.length ≤ 100)) = false) : coinP (t :: r) = false := by
  show ((baseP t && !r.any baseP) && _) = false
  rw [h, Bool.and_false]
theorem coin_nok {t : TxP} {r : List TxP} {k : Nat} (h1 : 1 ≤ k) (hk : k < (t :: r).length) (h : baseP ((t :: r).getD k default) = true) : coinP (t :: r) = false := by
  obtain ⟨k, rfl⟩ : ∃ j, k = j + 1 := ⟨k - 1, by omega⟩
  rw [List.getD_cons_succ] at h
  have hk : k < r.length := by simpa using hk
  have : r.any baseP = true := List.any_eq_true.2 ⟨_, getD_memI hk, h⟩
  show ((baseP t && !r.any baseP) && _) = false
  rw [this]; simp
theorem coin_yes {t : TxP} {r : List TxP} (hb : baseP t = true) (hs : (decide (2 ≤ (t.ins.getD 0 default).script.length) && decide ((t.ins.getD 0 default).script.length ≤ 100)) = true) (h : ∀ j, 1 ≤ j → j < (t :: r).length → baseP ((t :: r).getD j default) = false) : coinP (t :: r) = true := by
  show ((baseP t && !r.any baseP) && _) = true
  have : r.any baseP = false := List.any_eq_false.2 fun x hx => by
    obtain ⟨i, h1, rfl⟩ := List.getElem_of_mem hx
    have := h (i + 1) (by omega) (by simpa using h1)
    simp only [List.getD_cons_succ] at this
    rw [show r.getD i default = r[i] by simp [List.getD, h1]] at this
    rw [this]; decide
  rw [hb, this, hs]; rfl
theorem any_noG {l : List TxP} {p : TxP → Bool} {k : Nat} (hk : k < l.length) (h : p (l.getD k default) = true) : (!l.any p) = false := by
  have : l.any p = true := List.any_eq_true.2 ⟨_, getD_memI hk, h⟩
  rw [this]; rfl
theorem any_yesG {l : List TxP} {p : TxP → Bool} (h : ∀ j, j < l.length → p (l.getD j default) = false) : (!l.any p) = true := by
  have : l.any p = false := List.any_eq_false.2 fun x hx => by
    obtain ⟨i, h1, rfl⟩ := List.getElem_of_mem hx
    have := h i h1
    rw [show l.getD i default = l[i] by simp [List.getD, h1]] at this
    rw [this]; decide
  rw [this]; rfl
theorem dbl_yes {t : TxP} {j k : Nat} (hj : j < k) (hk : k < t.ins.length) (h : keyI (t.ins.getD j default) = keyI (t.ins.getD k default)) : doubleP t = true := by
  unfold doubleP
  rw [decide_eq_false (fun hn => ?_)]; rfl
  have h1 : j < (t.ins.map keyI).length := by rw [List.length_map]; omega
  have h2 : k < (t.ins.map keyI).length := by rw [List.length_map]; omega
  apply List.pairwise_iff_getElem.1 hn j k h1 h2 hj
  simp only [List.getElem_map]
  have e1 : t.ins.getD j default = t.ins[j]'(by omega) := by simp [List.getD, show j < t.ins.length by omega]
  have e2 : t.ins.getD k default = t.ins[k]'(by omega) := by simp [List.getD, show k < t.ins.length by omega]
  rw [← e1, ← e2, h]
theorem dbl_no {t : TxP} (h : ∀ a, a < t.ins.length → ∀ b, b < a → keyI (t.ins.getD b default) ≠ keyI (t.ins.getD a default)) : doubleP t = false := by
  unfold doubleP
  rw [decide_eq_true (?_ : (t.ins.map keyI).Nodup)]; rfl
  refine List.pairwise_iff_getElem.2 fun i j h1 h2 hij => ?_
  rw [List.length_map] at h1 h2
  have := h j h2 i hij
  simp only [List.getElem_map]
  have e1 : t.ins.getD i default = t.ins[i]'(by omega) := by simp [List.getD, show i < t.ins.length by omega]
  have e2 : t.ins.getD j default = t.ins[j]'(by omega) := by simp [List.getD, show j < t.ins.length by omega]
  rwa [e1, e2] at this
theorem c_rcblock : Contract E 7 := by
  refine contract_seeT hE hgl (show E.P.funcs[7]? = some Tryz.f7 from Tryz.func7) rfl (p := sp_rcblock) (fun _ _ _ => rfl) ?_
  intro args hv
  unfold sp_rcblock at hv ⊢
  split at hv
  case h_2 => exact hv.elim
  rename_i h0 hp hr h1 h2 h3 es
  refine ⟨by simp, Nat.le_of_ble_eq_true rfl, ?_⟩
  simp only [givesIf] at hv
  obtain ⟨hhd, ⟨l, rfl, hok, hl⟩, hlen⟩ := hv
  simp only [txs_D, txsD_length] at hlen ⊢
  have hTx : isTxL (txsD l) := ⟨l, rfl, hok, hl⟩
  have c23 : coinP l = false → blockP l hr = 23 := fun h => block_no (k := 0) (by decide) (fun j hj => by omega) h
  cases l with
  | nil =>
    have hb := c23 rfl
    simp (config := {dsimp := false}) only [↓vp0, vz, vn, nq, tys, cellD, wideIR, if_true, if_false, implies_true, forall_const, ne_eq, reduceIte, reduceCtorEq, Nat.reduceEqDiff, Nat.reduceAdd, Nat.reduceMul, Nat.reduceLT, Nat.reduceSub, Nat.reduceLeDiff, Nat.reduceBNe, Nat.reduceBEq, Nat.reduceBeqDiff, List.range, List.range.loop, gl0, Tryz.ntmps7, Tryz.results7, show txsD [] = [] from rfl, show decide (((0 : Nat) : Int) = 0) = true from rfl, hb, givesIf]
    all_goals rfl
  | cons t r =>
  have ht := hok t (List.mem_cons_self ..)
  have ha := anyT_tx ht.any
  have d0 : decide (((r.length + 1 : Nat) : Int) = 0) = false := decide_eq_false (by omega)
  cases hb : baseP t
  · have hbk := c23 (coin_no0 hb)
    simp (config := {dsimp := false}) only [↓vp0, vz, vn, nq, tys, cellD, wideIR, if_true, if_false, implies_true, forall_const, ne_eq, reduceIte, reduceCtorEq, Nat.reduceEqDiff, Nat.reduceAdd, Nat.reduceMul, Nat.reduceLT, Nat.reduceSub, Nat.reduceLeDiff, Nat.reduceBNe, Nat.reduceBEq, Nat.reduceBeqDiff, List.range, List.range.loop, gl0, Tryz.ntmps7, Tryz.results7, PF.toR, givesIf, show txsD (t :: r) = txD t :: txsD r from rfl, txD, d0, tx_eta, hb, hbk, show Int.toNat 0 = 0 from rfl, List.getD_cons_zero, spec_rcbase, sp_rcbase, c_rcbase, b_rcbase]
    exact ⟨Int.le_refl _, by omega, ha⟩
  obtain ⟨tv, ti, to, tl⟩ := t
  obtain ⟨x, rfl⟩ : ∃ x, ti = [x] := by
    unfold baseP at hb
    split at hb
    · exact ⟨_, by assumption⟩
    · cases hb
  have hsl := (ht.ins x (List.mem_cons_self ..)).script.2
  have hix : ins [D.agg [D.agg [D.arr .u8 32 x.prev, .int .u32 x.ix], .sli .no .u8 x.script, .int .u32 x.seq, .sl .no 1 (slis x.wit)]] = [x] := ins_D [x]
  have d2 : decide (((x.script.length : Nat) : Int) < 2) = !decide (2 ≤ x.script.length) := by
    by_cases h : 2 ≤ x.script.length
    · rw [decide_eq_true h, decide_eq_false (by omega)]; rfl
    · rw [decide_eq_false h, decide_eq_true (by omega)]; rfl
  have d3 : decide ((100 : Int) < ((x.script.length : Nat) : Int)) = !decide (x.script.length ≤ 100) := by
    by_cases h : x.script.length ≤ 100
    · rw [decide_eq_true h, decide_eq_false (by omega)]; rfl
    · rw [decide_eq_false h, decide_eq_true (by omega)]; rfl
  cases hs2 : decide (2 ≤ x.script.length)
  · have hbk := c23 (coin_nos (by show (decide (2 ≤ x.script.length) && _) = false; rw [hs2]; rfl))
    simp (config := {dsimp := false}) only [↓vp0, vz, vn, nq, tys, cellD, wideIR, if_true, if_false, implies_true, forall_const, ne_eq, reduceIte, reduceCtorEq, Nat.reduceEqDiff, Nat.reduceAdd, Nat.reduceMul, Nat.reduceLT, Nat.reduceSub, Nat.reduceLeDiff, Nat.reduceBNe, Nat.reduceBEq, Nat.reduceBeqDiff, List.range, List.range.loop, gl0, Tryz.ntmps7, Tryz.results7, PF.toR, givesIf, show txsD (⟨tv, [x], to, tl⟩ :: r) = txD ⟨tv, [x], to, tl⟩ :: txsD r from rfl, txD, d0, hix, outs_D, hb, hbk, d2, hs2, show insD [x] = [inD x] from rfl, inD, show Int.toNat 0 = 0 from rfl, List.getD_cons_zero, Bool.not_false, Bool.not_true, spec_rcbase, sp_rcbase, c_rcbase, b_rcbase]
    exact ⟨Int.le_refl _, by omega, ha, Int.le_refl _, by omega, Int.le_refl _, by decide⟩
  cases hs3 : decide (x.script.length ≤ 100)
  · have hbk := c23 (coin_nos (by show (_ && decide (x.script.length ≤ 100)) = false; rw [hs3, Bool.and_false]))
    simp (config := {dsimp := false}) only [↓vp0, vz, vn, nq, tys, cellD, wideIR, if_true, if_false, implies_true, forall_const, ne_eq, reduceIte, reduceCtorEq, Nat.reduceEqDiff, Nat.reduceAdd, Nat.reduceMul, Nat.reduceLT, Nat.reduceSub, Nat.reduceLeDiff, Nat.reduceBNe, Nat.reduceBEq, Nat.reduceBeqDiff, List.range, List.range.loop, gl0, Tryz.ntmps7, Tryz.results7, PF.toR, givesIf, show txsD (⟨tv, [x], to, tl⟩ :: r) = txD ⟨tv, [x], to, tl⟩ :: txsD r from rfl, txD, d0, hix, outs_D, hb, hbk, d2, hs2, d3, hs3, show insD [x] = [inD x] from rfl, inD, show Int.toNat 0 = 0 from rfl, List.getD_cons_zero, Bool.not_false, Bool.not_true, spec_rcbase, sp_rcbase, c_rcbase, b_rcbase]
    exact ⟨Int.le_refl _, by omega, ha, Int.le_refl _, by omega, Int.le_refl _, by decide, Int.le_refl _, by omega, Int.le_refl _, by decide⟩
  have hc2 : (decide (2 ≤ (([x] : List InP).getD 0 default).script.length) && decide ((([x] : List InP).getD 0 default).script.length ≤ 100)) = true := by
    show (decide (2 ≤ x.script.length) && decide (x.script.length ≤ 100)) = true
    rw [hs2, hs3]; rfl
  have hcy := coin_yes (t := ⟨tv, [x], to, tl⟩) (r := r) hb hc2
  have hcn := fun k h1 hk => coin_nok (t := ⟨tv, [x], to, tl⟩) (r := r) (k := k) h1 hk
  simp (config := {dsimp := false}) only [↓vp0, vz, vn, nq, tys, cellD, wideIR, if_true, if_false, implies_true, forall_const, ne_eq, reduceIte, reduceCtorEq, Nat.reduceEqDiff, Nat.reduceAdd, Nat.reduceMul, Nat.reduceLT, Nat.reduceSub, Nat.reduceLeDiff, Nat.reduceBNe, Nat.reduceBEq, Nat.reduceBeqDiff, List.range, List.range.loop, gl0, Tryz.ntmps7, Tryz.results7, PF.toR, givesIf, show txsD (⟨tv, [x], to, tl⟩ :: r) = txD ⟨tv, [x], to, tl⟩ :: txsD r from rfl, txD, d0, hix, outs_D, hb, d2, hs2, d3, hs3, show insD [x] = [inD x] from rfl, inD, show Int.toNat 0 = 0 from rfl, List.getD_cons_zero, Bool.not_false, Bool.not_true, spec_rcbase, sp_rcbase, c_rcbase, b_rcbase]
  refine ⟨Int.le_refl _, by omega, ha, Int.le_refl _, by omega, Int.le_refl _, by decide, Int.le_refl _, by omega, Int.le_refl _, by decide, ?_⟩
  have hne : 1 ≤ (⟨tv, [x], to, tl⟩ :: r : List TxP).length := by simp
  obtain ⟨L, hL⟩ : ∃ L : List TxP, ⟨tv, [x], to, tl⟩ :: r = L := ⟨_, rfl⟩
  refine loopI {k : Nat // 1 ≤ k ∧ k ≤ L.length ∧ ∀ j, 1 ≤ j → j < k → baseP (L.getD j default) = false} (fun k => [(3, .int .i64 (k.1 : Nat)), (1, .bp 0 0)]) (fun _ => ⟨[(0, .agg [.agg [.int .u32 h0, .arr .u8 32 hp, .arr .u8 32 hr, .int .u32 h1, .int .u32 h2, .int .u32 h3], .sl .no 4 (txsD L)])], [], 156⟩) (fun k => L.length - k.1) ⟨1, Nat.le_refl _, hL ▸ hne, fun j h1 h2 => by omega⟩ (fun _ => rfl) ?_ ?_
  · subst hL; exact ⟨⟨wkD_eq rfl, rfl, wkD_eq rfl, rfl, trivial⟩, ⟨rfl, Nat.le_of_ble_eq_true rfl, rfl, trivial⟩, trivial⟩
  simp only [hL] at *
  clear hb hc2 hs2 hs3 d2 d3 hsl hix ht ha d0
  rintro ⟨k, hk1, hk, hbk⟩
  simp (config := {dsimp := false}) only [↓vp0, vz, vn, nq, tys, cellD, wideIR, if_true, if_false, implies_true, forall_const, ne_eq, reduceIte, reduceCtorEq, Nat.reduceEqDiff, Nat.reduceAdd, Nat.reduceMul, Nat.reduceLT, Nat.reduceSub, Nat.reduceLeDiff, Nat.reduceBNe, Nat.reduceBEq, Nat.reduceBeqDiff, List.range, List.range.loop, gl0, Tryz.ntmps7, Tryz.results7]
  refine ⟨fun hh => ?_, fun hh => ?_⟩
  case refine_1 =>
    have hh := of_decide_eq_true hh
    have hk' : k < L.length := by omega
    have g0 := txsD_get L k hk'
    have ht := hok _ (getD_memI hk')
    have ha := anyT_tx ht.any
    cases hbt : baseP (L.getD k default)
    · simp (config := {dsimp := false}) only [↓vp0, vz, vn, nq, tys, cellD, wideIR, if_true, if_false, implies_true, forall_const, ne_eq, reduceIte, reduceCtorEq, Nat.reduceEqDiff, Nat.reduceAdd, Nat.reduceMul, Nat.reduceLT, Nat.reduceSub, Nat.reduceLeDiff, Nat.reduceBNe, Nat.reduceBEq, Nat.reduceBeqDiff, List.range, List.range.loop, gl0, Tryz.ntmps7, Tryz.results7, PF.toR, givesIf, Int.toNat_natCast, g0, txD, tx_eta, hbt, spec_rcbase, sp_rcbase, c_rcbase, b_rcbase]
      refine ⟨by omega, by omega, ha, ⟨k + 1, by omega, by omega, fun j h1 h2 => ?_⟩, ⟨⟨wkD_eq ?_, rfl, wkD_eq rfl, rfl, trivial⟩, ⟨rfl, Nat.le_of_ble_eq_true rfl, rfl, trivial⟩, trivial⟩, by (try simp only); omega⟩
      · rcases Nat.lt_or_ge j k with h7 | h7
        · exact hbk j h1 h7
        · obtain rfl : j = k := by omega
          exact hbt
      · exact some_i64 (by (try simp only); omega)
    · have hbl := c23 (hcn k hk1 hk' hbt)
      simp (config := {dsimp := false}) only [↓vp0, vz, vn, nq, tys, cellD, wideIR, if_true, if_false, implies_true, forall_const, ne_eq, reduceIte, reduceCtorEq, Nat.reduceEqDiff, Nat.reduceAdd, Nat.reduceMul, Nat.reduceLT, Nat.reduceSub, Nat.reduceLeDiff, Nat.reduceBNe, Nat.reduceBEq, Nat.reduceBeqDiff, List.range, List.range.loop, gl0, Tryz.ntmps7, Tryz.results7, PF.toR, givesIf, Int.toNat_natCast, g0, txD, tx_eta, hbt, hbl, spec_rcbase, sp_rcbase, c_rcbase, b_rcbase]
      exact ⟨by omega, by omega, ha⟩
  have hh := of_decide_eq_false hh
  have hcoin : coinP L = true := hcy fun j h1 h2 => hbk j h1 (by omega)
  clear hcy hcn hbk hh hk hk1
  refine loopI {k : Nat // k ≤ L.length ∧ ∀ j, j < k → doubleP (L.getD j default) = false} (fun k => [(4, .int .i64 (k.1 : Nat)), (1, .bp 0 0)]) (fun _ => ⟨[(0, .agg [.agg [.int .u32 h0, .arr .u8 32 hp, .arr .u8 32 hr, .int .u32 h1, .int .u32 h2, .int .u32 h3], .sl .no 4 (txsD L)])], [], 180⟩) (fun k => L.length - k.1) ⟨0, by simp⟩ (fun _ => rfl) ?_ ?_
  · exact ⟨⟨wkD_eq rfl, rfl, wkD_eq rfl, rfl, trivial⟩, ⟨rfl, Nat.le_of_ble_eq_true rfl, rfl, trivial⟩, trivial⟩
  rintro ⟨k, hk, hbk⟩
  simp (config := {dsimp := false}) only [↓vp0, vz, vn, nq, tys, cellD, wideIR, if_true, if_false, implies_true, forall_const, ne_eq, reduceIte, reduceCtorEq, Nat.reduceEqDiff, Nat.reduceAdd, Nat.reduceMul, Nat.reduceLT, Nat.reduceSub, Nat.reduceLeDiff, Nat.reduceBNe, Nat.reduceBEq, Nat.reduceBeqDiff, List.range, List.range.loop, gl0, Tryz.ntmps7, Tryz.results7]
  refine ⟨fun hh => ?_, fun hh => ?_⟩
  case refine_1 =>
    have hh := of_decide_eq_true hh
    have hk' : k < L.length := by omega
    have g0 := txsD_get L k hk'
    have hm := getD_memI hk'
    have ht := hok _ hm
    have h24 : doubleP (L.getD k default) = true → blockP L hr = 24 := fun h => block_no (k := 1) (by decide) (fun j hj => by
      obtain rfl : j = 0 := by omega
      exact hcoin) (any_noG hk' h)
    generalize htt : L.getD k default = t at *
    have hti := ht.mi
    simp (config := {dsimp := false}) only [↓vp0, vz, vn, nq, tys, cellD, wideIR, if_true, if_false, implies_true, forall_const, ne_eq, reduceIte, reduceCtorEq, Nat.reduceEqDiff, Nat.reduceAdd, Nat.reduceMul, Nat.reduceLT, Nat.reduceSub, Nat.reduceLeDiff, Nat.reduceBNe, Nat.reduceBEq, Nat.reduceBeqDiff, List.range, List.range.loop, gl0, Tryz.ntmps7, Tryz.results7, Int.toNat_natCast, g0, txD]
    refine ⟨by omega, by omega, ?_⟩
    refine loopI {q : Nat // q ≤ t.ins.length ∧ ∀ a, a < q → ∀ b, b < a → keyI (t.ins.getD b default) ≠ keyI (t.ins.getD a default)} (fun q => [(6, .int .i64 (q.1 : Nat)), (5, .sl .no 36 (insD t.ins)), (4, .int .i64 (k : Nat)), (1, .bp 0 0)]) (fun _ => ⟨[(0, .agg [.agg [.int .u32 h0, .arr .u8 32 hp, .arr .u8 32 hr, .int .u32 h1, .int .u32 h2, .int .u32 h3], .sl .no 4 (txsD L)])], [], 232⟩) (fun q => t.ins.length - q.1) ⟨0, by simp⟩ (fun _ => rfl) ?_ ?_
    · exact ⟨⟨wkD_eq rfl, rfl, wkD_eq rfl, rfl, wkD_eq rfl, rfl, wkD_eq rfl, rfl, trivial⟩, ⟨rfl, Nat.le_of_ble_eq_true rfl, rfl, trivial⟩, trivial⟩
    rintro ⟨q, hq, hbq⟩
    simp (config := {dsimp := false}) only [↓vp0, vz, vn, nq, tys, cellD, wideIR, if_true, if_false, implies_true, forall_const, ne_eq, reduceIte, reduceCtorEq, Nat.reduceEqDiff, Nat.reduceAdd, Nat.reduceMul, Nat.reduceLT, Nat.reduceSub, Nat.reduceLeDiff, Nat.reduceBNe, Nat.reduceBEq, Nat.reduceBeqDiff, List.range, List.range.loop, gl0, Tryz.ntmps7, Tryz.results7]
    refine ⟨fun hh2 => ?_, fun hh2 => ?_⟩
    case refine_2 =>
      have hh2 := of_decide_eq_false hh2
      have hdn : doubleP t = false := dbl_no fun a ha => hbq a (by omega)
      refine ⟨⟨k + 1, by omega, fun j hj => ?_⟩, ⟨⟨wkD_eq ?_, rfl, wkD_eq rfl, rfl, trivial⟩, ⟨rfl, Nat.le_of_ble_eq_true rfl, rfl, trivial⟩, trivial⟩, by (try simp only); omega⟩
      · rcases Nat.lt_or_ge j k with h7 | h7
        · exact hbk j h7
        · obtain rfl : j = k := by omega
          rw [htt]; exact hdn
      · exact some_i64 (by (try simp only); omega)
    have hh2 := of_decide_eq_true hh2
    have hq' : q < t.ins.length := by omega
    refine loopI {j : Nat // j ≤ q ∧ ∀ b, b < j → keyI (t.ins.getD b default) ≠ keyI (t.ins.getD q default)} (fun j => [(7, .int .i64 (j.1 : Nat)), (6, .int .i64 (q : Nat)), (5, .sl .no 36 (insD t.ins)), (4, .int .i64 (k : Nat)), (1, .bp 0 0)]) (fun _ => ⟨[(0, .agg [.agg [.int .u32 h0, .arr .u8 32 hp, .arr .u8 32 hr, .int .u32 h1, .int .u32 h2, .int .u32 h3], .sl .no 4 (txsD L)])], [], 252⟩) (fun j => q - j.1) ⟨0, by simp⟩ (fun _ => rfl) ?_ ?_
    · exact ⟨⟨wkD_eq rfl, rfl, wkD_eq rfl, rfl, wkD_eq rfl, rfl, wkD_eq rfl, rfl, wkD_eq rfl, rfl, trivial⟩, ⟨rfl, Nat.le_of_ble_eq_true rfl, rfl, trivial⟩, trivial⟩
    rintro ⟨j, hj, hbj⟩
    simp (config := {dsimp := false}) only [↓vp0, vz, vn, nq, tys, cellD, wideIR, if_true, if_false, implies_true, forall_const, ne_eq, reduceIte, reduceCtorEq, Nat.reduceEqDiff, Nat.reduceAdd, Nat.reduceMul, Nat.reduceLT, Nat.reduceSub, Nat.reduceLeDiff, Nat.reduceBNe, Nat.reduceBEq, Nat.reduceBeqDiff, List.range, List.range.loop, gl0, Tryz.ntmps7, Tryz.results7]
    refine ⟨fun hh3 => ?_, fun hh3 => ?_⟩
    case refine_2 =>
      have hh3 := of_decide_eq_false hh3
      refine ⟨⟨q + 1, by omega, fun a ha b hb => ?_⟩, ⟨⟨wkD_eq ?_, rfl, wkD_eq rfl, rfl, wkD_eq rfl, rfl, wkD_eq rfl, rfl, trivial⟩, ⟨rfl, Nat.le_of_ble_eq_true rfl, rfl, trivial⟩, trivial⟩, by (try simp only); omega⟩
      · rcases Nat.lt_or_ge a q with h7 | h7
        · exact hbq a h7 b hb
        · obtain rfl : a = q := by omega
          exact hbj b (by omega)
      · exact some_i64 (by (try simp only); omega)
    have hh3 := of_decide_eq_true hh3
    have hj' : j < q := by omega
    have gj := insD_get t.ins j (by omega)
    have gq := insD_get t.ins q hq'
    have hdy := dbl_yes (t := t) hj' hq'
    generalize hxe : t.ins.getD j default = x at *
    generalize hye : t.ins.getD q default = y at *
    have he2 : eqFs E (eqB E 7) 0 [(0, 24), (32, 22)] [D.arr IntKind.u8 32 y.prev, D.int IntKind.u32 y.ix] [D.arr IntKind.u8 32 x.prev, D.int IntKind.u32 x.ix] = some (decide (y.prev = x.prev) && decide (y.ix = x.ix)) := by
      simp [eqFs, eqB, D.size, tsize, known, E, tyC]
    have hke : (decide (y.prev = x.prev) && decide (y.ix = x.ix)) = decide (keyI x = keyI y) := by
      unfold keyI
      by_cases h1 : y.prev = x.prev
      · by_cases h2 : y.ix = x.ix
        · rw [h1, h2]; simp
        · rw [decide_eq_false h2, Bool.and_false, decide_eq_false (fun e => h2 (Prod.mk.inj e).2.symm)]
      · rw [decide_eq_false h1, Bool.false_and, decide_eq_false (fun e => h1 (Prod.mk.inj e).1.symm)]
    rw [hke] at he2
    refine drawI [1, 4, 5, 6, 7] (by kernel_rfl) ?_
    by_cases hkk : keyI x = keyI y
    · rw [decide_eq_true hkk] at he2
      have hbl := h24 (hdy hkk)
      simp (config := {dsimp := false}) only [↓vp0, vz, vn, nq, tys, cellD, wideIR, if_true, if_false, implies_true, forall_const, ne_eq, reduceIte, reduceCtorEq, Nat.reduceEqDiff, Nat.reduceAdd, Nat.reduceMul, Nat.reduceLT, Nat.reduceSub, Nat.reduceLeDiff, Nat.reduceBNe, Nat.reduceBEq, Nat.reduceBeqDiff, List.range, List.range.loop, gl0, Tryz.ntmps7, Tryz.results7, Int.toNat_natCast, gj, gq, inD, he2, hbl, givesIf]
      exact ⟨by omega, by omega, by omega, by omega⟩
    · rw [decide_eq_false hkk] at he2
      simp (config := {dsimp := false}) only [↓vp0, vz, vn, nq, tys, cellD, wideIR, if_true, if_false, implies_true, forall_const, ne_eq, reduceIte, reduceCtorEq, Nat.reduceEqDiff, Nat.reduceAdd, Nat.reduceMul, Nat.reduceLT, Nat.reduceSub, Nat.reduceLeDiff, Nat.reduceBNe, Nat.reduceBEq, Nat.reduceBeqDiff, List.range, List.range.loop, gl0, Tryz.ntmps7, Tryz.results7, Int.toNat_natCast, gj, gq, inD, he2]
      refine ⟨by omega, by omega, by omega, by omega, ⟨j + 1, by omega, fun b hb => ?_⟩, ⟨⟨wkD_eq ?_, rfl, wkD_eq rfl, rfl, wkD_eq rfl, rfl, wkD_eq rfl, rfl, wkD_eq rfl, rfl, trivial⟩, ⟨rfl, Nat.le_of_ble_eq_true rfl, rfl, trivial⟩, trivial⟩, by (try simp only); omega⟩
      · rcases Nat.lt_or_ge b j with h7 | h7
        · exact hbj b h7
        · obtain rfl : b = j := by omega
          rw [hxe]; exact hkk
      · exact some_i64 (by (try simp only); omega)
  have hh := of_decide_eq_false hh
  have hdb : ruleP 1 L hr = true := any_yesG (p := doubleP) fun j hj => hbk j (by omega)
  clear hbk hh hk
  refine loopI {k : Nat // k ≤ L.length ∧ ∀ j, j < k → badP (L.getD j default) = false} (fun k => [(8, .int .i64 (k.1 : Nat)), (1, .bp 0 0)]) (fun _ => ⟨[(0, .agg [.agg [.int .u32 h0, .arr .u8 32 hp, .arr .u8 32 hr, .int .u32 h1, .int .u32 h2, .int .u32 h3], .sl .no 4 (txsD L)])], [], 204⟩) (fun k => L.length - k.1) ⟨0, by simp⟩ (fun _ => rfl) ?_ ?_
  · exact ⟨⟨wkD_eq rfl, rfl, wkD_eq rfl, rfl, trivial⟩, ⟨rfl, Nat.le_of_ble_eq_true rfl, rfl, trivial⟩, trivial⟩
  rintro ⟨k, hk, hbk⟩
  simp (config := {dsimp := false}) only [↓vp0, vz, vn, nq, tys, cellD, wideIR, if_true, if_false, implies_true, forall_const, ne_eq, reduceIte, reduceCtorEq, Nat.reduceEqDiff, Nat.reduceAdd, Nat.reduceMul, Nat.reduceLT, Nat.reduceSub, Nat.reduceLeDiff, Nat.reduceBNe, Nat.reduceBEq, Nat.reduceBeqDiff, List.range, List.range.loop, gl0, Tryz.ntmps7, Tryz.results7]
  refine ⟨fun hh => ?_, fun hh => ?_⟩
  case refine_1 =>
    have hh := of_decide_eq_true hh
    have hk' : k < L.length := by omega
    have g0 := txsD_get L k hk'
    have hm := getD_memI hk'
    have ht := hok _ hm
    have ha := anyT_tx ht.any
    have h32' : badP (L.getD k default) = true → blockP L hr = 32 := fun h => block_no (k := 2) (by decide) (fun j hj => by
      match j, hj with
      | 0, _ => exact hcoin
      | 1, _ => exact hdb) (any_noG hk' h)
    cases hsm : sumG 0 (L.getD k default).outs
    · have hbl := h32' (by unfold badP; rw [hsm]; rfl)
      simp (config := {dsimp := false}) only [↓vp0, vz, vn, nq, tys, cellD, wideIR, if_true, if_false, implies_true, forall_const, ne_eq, reduceIte, reduceCtorEq, Nat.reduceEqDiff, Nat.reduceAdd, Nat.reduceMul, Nat.reduceLT, Nat.reduceSub, Nat.reduceLeDiff, Nat.reduceBNe, Nat.reduceBEq, Nat.reduceBeqDiff, List.range, List.range.loop, gl0, Tryz.ntmps7, Tryz.results7, vb, PF.toR, givesIf, Int.toNat_natCast, g0, txD, outs_D, hsm, sumV, hbl, spec_rcsum, sp_rcsum, c_rcsum, b_rcsum]
      exact ⟨by omega, by omega, ha⟩
    · simp (config := {dsimp := false}) only [↓vp0, vz, vn, nq, tys, cellD, wideIR, if_true, if_false, implies_true, forall_const, ne_eq, reduceIte, reduceCtorEq, Nat.reduceEqDiff, Nat.reduceAdd, Nat.reduceMul, Nat.reduceLT, Nat.reduceSub, Nat.reduceLeDiff, Nat.reduceBNe, Nat.reduceBEq, Nat.reduceBeqDiff, List.range, List.range.loop, gl0, Tryz.ntmps7, Tryz.results7, vb, PF.toR, givesIf, Int.toNat_natCast, g0, txD, outs_D, hsm, sumV, spec_rcsum, sp_rcsum, c_rcsum, b_rcsum]
      refine ⟨by omega, by omega, ha, ⟨k + 1, by omega, fun j hj => ?_⟩, ⟨⟨wkD_eq ?_, rfl, wkD_eq rfl, rfl, trivial⟩, ⟨rfl, Nat.le_of_ble_eq_true rfl, rfl, trivial⟩, trivial⟩, by (try simp only); omega⟩
      · rcases Nat.lt_or_ge j k with h7 | h7
        · exact hbk j h7
        · obtain rfl : j = k := by omega
          unfold badP; rw [hsm]; rfl
      · exact some_i64 (by (try simp only); omega)
  have hh := of_decide_eq_false hh
  have hsb : ruleP 2 L hr = true := any_yesG (p := badP) fun j hj => hbk j (by omega)
  have i1 : hashesP false L = idsP L := rfl
  have n1 : (idsP L).length = L.length := hashes_len false L
  have jA : isH (arrs (idsP L)) := ⟨_, rfl, hashes_32 _ _⟩
  have y1 : ∀ h ∈ idsP L, bytes h := hashes_bytes false L
  have b20 : rootP (idsP L) ≠ hr → blockP L hr = 20 := fun h => block_no (k := 3) (by decide) (fun j hj => by
    match j, hj with
    | 0, _ => exact hcoin
    | 1, _ => exact hdb
    | 2, _ => exact hsb) (decide_eq_false h)
  by_cases hrt : rootP (idsP L) = hr
  case neg =>
    have dr : decide (rootP (idsP L) = hr) = false := decide_eq_false hrt
    have hbl := b20 hrt
    simp (config := {dsimp := false}) only [↓vp0, vz, vn, nq, tys, cellD, wideIR, if_true, if_false, implies_true, forall_const, ne_eq, reduceIte, reduceCtorEq, Nat.reduceEqDiff, Nat.reduceAdd, Nat.reduceMul, Nat.reduceLT, Nat.reduceSub, Nat.reduceLeDiff, Nat.reduceBNe, Nat.reduceBEq, Nat.reduceBeqDiff, List.range, List.range.loop, gl0, Tryz.ntmps7, Tryz.results7, vb, PF.toR, gives, givesIf, txs_D, txsD_length, strips_arrs, hs_arrs, i1, dr, hbl, Bool.not_false, spec_rids, sp_ids, c_rids, b_rids, spec_refRoot, sp_refRoot, c_refRoot, b_refRoot]
    exact ⟨hhd, hTx, by omega, jA, by rw [arrs_length, n1]; omega, y1⟩
  have dr : decide (rootP (idsP L) = hr) = true := decide_eq_true hrt
  cases hmt : mutP (allP (idsP L))
  case true =>
    have hbl : blockP L hr = 21 := block_no (k := 4) (by decide) (fun j hj => by
      match j, hj with
      | 0, _ => exact hcoin
      | 1, _ => exact hdb
      | 2, _ => exact hsb
      | 3, _ => exact dr) (by show (!mutP (allP (idsP L))) = false; rw [hmt]; rfl)
    simp (config := {dsimp := false}) only [↓vp0, vz, vn, nq, tys, cellD, wideIR, if_true, if_false, implies_true, forall_const, ne_eq, reduceIte, reduceCtorEq, Nat.reduceEqDiff, Nat.reduceAdd, Nat.reduceMul, Nat.reduceLT, Nat.reduceSub, Nat.reduceLeDiff, Nat.reduceBNe, Nat.reduceBEq, Nat.reduceBeqDiff, List.range, List.range.loop, gl0, Tryz.ntmps7, Tryz.results7, vb, PF.toR, gives, givesIf, txs_D, txsD_length, strips_arrs, hs_arrs, i1, hrt, hmt, hbl, eq_self, decide_true, Bool.not_true, spec_rids, sp_ids, c_rids, b_rids, spec_refRoot, sp_refRoot, c_refRoot, b_refRoot]
    exact ⟨hhd, hTx, by omega, jA, by rw [arrs_length, n1]; omega, y1⟩
  have hpre : ∀ j, j < 5 → ruleP j L hr = true := fun j hj => by
    match j, hj with
    | 0, _ => exact hcoin
    | 1, _ => exact hdb
    | 2, _ => exact hsb
    | 3, _ => exact dr
    | 4, _ => show (!mutP (allP (idsP L))) = true; rw [hmt]; rfl
  have b22 : witP L = false → blockP L hr = 22 := fun h => block_no (k := 5) (by decide) hpre h
  have b0 : witP L = true → blockP L hr = 0 := fun h => block_yes fun j hj => by
    rcases Nat.lt_or_ge j 5 with h7 | h7
    · exact hpre j h7
    · obtain rfl : j = 5 := by omega
      exact h
  cases hc : commitP L with
  | none =>
    have hw : witP L = !L.any witnessedP := by unfold witP; rw [hc]
    cases hg : wantedP L
    all_goals simp (config := {dsimp := false}) only [↓vp0, vz, vn, nq, tys, cellD, wideIR, if_true, if_false, implies_true, forall_const, ne_eq, reduceIte, reduceCtorEq, Nat.reduceEqDiff, Nat.reduceAdd, Nat.reduceMul, Nat.reduceLT, Nat.reduceSub, Nat.reduceLeDiff, Nat.reduceBNe, Nat.reduceBEq, Nat.reduceBeqDiff, List.range, List.range.loop, gl0, Tryz.ntmps7, Tryz.results7, vb, PF.toR, gives, givesIf, txs_D, txsD_length, strips_arrs, hs_arrs, i1, hrt, hmt, hc, hg, hashV, eq_self, decide_true, Bool.not_true, spec_rids, sp_ids, c_rids, b_rids, spec_refRoot, sp_refRoot, c_refRoot, b_refRoot, spec_rcommit, sp_gcommit, c_rcommit, b_rcommit, spec_rwanted, sp_gwanted, c_rwanted, b_rwanted]
    all_goals refine ⟨hhd, hTx, by omega, jA, by rw [arrs_length, n1]; omega, y1, hhd, hTx, hhd, hTx, by omega, ?_⟩
    · refine loopI {k : Nat // k ≤ L.length ∧ ∀ j, j < k → witnessedP (L.getD j default) = false} (fun k => [(17, .int .i64 (k.1 : Nat)), (14, .bool false), (1, .bp 0 0)]) (fun _ => ⟨[(0, .agg [.agg [.int .u32 h0, .arr .u8 32 hp, .arr .u8 32 hr, .int .u32 h1, .int .u32 h2, .int .u32 h3], .sl .no 4 (txsD L)])], [], 392⟩) (fun k => L.length - k.1) ⟨0, by simp⟩ (fun _ => rfl) ?_ ?_
      · exact ⟨⟨wkD_eq rfl, rfl, wkD_eq rfl, rfl, wkD_eq rfl, rfl, trivial⟩, ⟨rfl, Nat.le_of_ble_eq_true rfl, rfl, trivial⟩, trivial⟩
      rintro ⟨k, hk, hbk⟩
      by_cases hk' : k < L.length
      case neg =>
        have dk : decide (((k : Nat) : Int) < ((L.length : Nat) : Int)) = false := decide_eq_false (by omega)
        have hbl := b0 (hw.trans (any_yesG (p := witnessedP) fun j hj => hbk j (by omega)))
        simp (config := {dsimp := false}) only [↓vp0, vz, vn, nq, tys, cellD, wideIR, if_true, if_false, implies_true, forall_const, ne_eq, reduceIte, reduceCtorEq, Nat.reduceEqDiff, Nat.reduceAdd, Nat.reduceMul, Nat.reduceLT, Nat.reduceSub, Nat.reduceLeDiff, Nat.reduceBNe, Nat.reduceBEq, Nat.reduceBeqDiff, List.range, List.range.loop, gl0, Tryz.ntmps7, Tryz.results7, dk, hbl, givesIf]
      have dk : decide (((k : Nat) : Int) < ((L.length : Nat) : Int)) = true := decide_eq_true (by omega)
      have g0 := txsD_get L k hk'
      have hkk := tx_okT (hok _ (getD_memI hk'))
      cases hwt : witnessedP (L.getD k default)
      · have hww : (L.getD k default).ins.any hasWit = false := hwt
        simp (config := {dsimp := false}) only [↓vp0, vz, vn, nq, tys, cellD, wideIR, if_true, if_false, implies_true, forall_const, ne_eq, reduceIte, reduceCtorEq, Nat.reduceEqDiff, Nat.reduceAdd, Nat.reduceMul, Nat.reduceLT, Nat.reduceSub, Nat.reduceLeDiff, Nat.reduceBNe, Nat.reduceBEq, Nat.reduceBeqDiff, List.range, List.range.loop, gl0, Tryz.ntmps7, Tryz.results7, PF.toR, givesIf, Int.toNat_natCast, g0, txD, ins_D, hww, dk, Bool.not_false, spec_rwitnessed, sp_twitnessed, c_rwitnessed, b_rwitnessed]
        refine ⟨by omega, by omega, hkk, ⟨k + 1, by omega, fun j hj => ?_⟩, ⟨⟨wkD_eq ?_, rfl, wkD_eq rfl, rfl, wkD_eq rfl, rfl, trivial⟩, ⟨rfl, Nat.le_of_ble_eq_true rfl, rfl, trivial⟩, trivial⟩, by (try simp only); omega⟩
        · rcases Nat.lt_or_ge j k with h7 | h7
          · exact hbk j h7
          · obtain rfl : j = k := by omega
            exact hwt
        · exact some_i64 (by (try simp only); omega)
      · have hww : (L.getD k default).ins.any hasWit = true := hwt
        have hbl := b22 (hw.trans (any_noG hk' hwt))
        simp (config := {dsimp := false}) only [↓vp0, vz, vn, nq, tys, cellD, wideIR, if_true, if_false, implies_true, forall_const, ne_eq, reduceIte, reduceCtorEq, Nat.reduceEqDiff, Nat.reduceAdd, Nat.reduceMul, Nat.reduceLT, Nat.reduceSub, Nat.reduceLeDiff, Nat.reduceBNe, Nat.reduceBEq, Nat.reduceBeqDiff, List.range, List.range.loop, gl0, Tryz.ntmps7, Tryz.results7, PF.toR, givesIf, Int.toNat_natCast, g0, txD, ins_D, hww, dk, hbl, Bool.not_false, spec_rwitnessed, sp_twitnessed, c_rwitnessed, b_rwitnessed]
        exact ⟨by omega, by omega, hkk⟩
    · refine loopI {k : Nat // k ≤ L.length ∧ ∀ j, j < k → witnessedP (L.getD j default) = false} (fun k => [(17, .int .i64 (k.1 : Nat)), (14, .bool false), (1, .bp 0 0)]) (fun _ => ⟨[(0, .agg [.agg [.int .u32 h0, .arr .u8 32 hp, .arr .u8 32 hr, .int .u32 h1, .int .u32 h2, .int .u32 h3], .sl .no 4 (txsD L)])], [], 392⟩) (fun k => L.length - k.1) ⟨0, by simp⟩ (fun _ => rfl) ?_ ?_
      · exact ⟨⟨wkD_eq rfl, rfl, wkD_eq rfl, rfl, wkD_eq rfl, rfl, trivial⟩, ⟨rfl, Nat.le_of_ble_eq_true rfl, rfl, trivial⟩, trivial⟩
      rintro ⟨k, hk, hbk⟩
      by_cases hk' : k < L.length
      case neg =>
        have dk : decide (((k : Nat) : Int) < ((L.length : Nat) : Int)) = false := decide_eq_false (by omega)
        have hbl := b0 (hw.trans (any_yesG (p := witnessedP) fun j hj => hbk j (by omega)))
        simp (config := {dsimp := false}) only [↓vp0, vz, vn, nq, tys, cellD, wideIR, if_true, if_false, implies_true, forall_const, ne_eq, reduceIte, reduceCtorEq, Nat.reduceEqDiff, Nat.reduceAdd, Nat.reduceMul, Nat.reduceLT, Nat.reduceSub, Nat.reduceLeDiff, Nat.reduceBNe, Nat.reduceBEq, Nat.reduceBeqDiff, List.range, List.range.loop, gl0, Tryz.ntmps7, Tryz.results7, dk, hbl, givesIf]
      have dk : decide (((k : Nat) : Int) < ((L.length : Nat) : Int)) = true := decide_eq_true (by omega)
      have g0 := txsD_get L k hk'
      have hkk := tx_okT (hok _ (getD_memI hk'))
      cases hwt : witnessedP (L.getD k default)
      · have hww : (L.getD k default).ins.any hasWit = false := hwt
        simp (config := {dsimp := false}) only [↓vp0, vz, vn, nq, tys, cellD, wideIR, if_true, if_false, implies_true, forall_const, ne_eq, reduceIte, reduceCtorEq, Nat.reduceEqDiff, Nat.reduceAdd, Nat.reduceMul, Nat.reduceLT, Nat.reduceSub, Nat.reduceLeDiff, Nat.reduceBNe, Nat.reduceBEq, Nat.reduceBeqDiff, List.range, List.range.loop, gl0, Tryz.ntmps7, Tryz.results7, PF.toR, givesIf, Int.toNat_natCast, g0, txD, ins_D, hww, dk, Bool.not_false, spec_rwitnessed, sp_twitnessed, c_rwitnessed, b_rwitnessed]
        refine ⟨by omega, by omega, hkk, ⟨k + 1, by omega, fun j hj => ?_⟩, ⟨⟨wkD_eq ?_, rfl, wkD_eq rfl, rfl, wkD_eq rfl, rfl, trivial⟩, ⟨rfl, Nat.le_of_ble_eq_true rfl, rfl, trivial⟩, trivial⟩, by (try simp only); omega⟩
        · rcases Nat.lt_or_ge j k with h7 | h7
          · exact hbk j h7
          · obtain rfl : j = k := by omega
            exact hwt
        · exact some_i64 (by (try simp only); omega)
      · have hww : (L.getD k default).ins.any hasWit = true := hwt
        have hbl := b22 (hw.trans (any_noG hk' hwt))
        simp (config := {dsimp := false}) only [↓vp0, vz, vn, nq, tys, cellD, wideIR, if_true, if_false, implies_true, forall_const, ne_eq, reduceIte, reduceCtorEq, Nat.reduceEqDiff, Nat.reduceAdd, Nat.reduceMul, Nat.reduceLT, Nat.reduceSub, Nat.reduceLeDiff, Nat.reduceBNe, Nat.reduceBEq, Nat.reduceBeqDiff, List.range, List.range.loop, gl0, Tryz.ntmps7, Tryz.results7, PF.toR, givesIf, Int.toNat_natCast, g0, txD, ins_D, hww, dk, hbl, Bool.not_false, spec_rwitnessed, sp_twitnessed, c_rwitnessed, b_rwitnessed]
        exact ⟨by omega, by omega, hkk⟩
  | some h =>
    cases hg : wantedP L with
    | none =>
      have hbl := b22 (by unfold witP; rw [hc]; simp only []; rw [hg])
      simp (config := {dsimp := false}) only [↓vp0, vz, vn, nq, tys, cellD, wideIR, if_true, if_false, implies_true, forall_const, ne_eq, reduceIte, reduceCtorEq, Nat.reduceEqDiff, Nat.reduceAdd, Nat.reduceMul, Nat.reduceLT, Nat.reduceSub, Nat.reduceLeDiff, Nat.reduceBNe, Nat.reduceBEq, Nat.reduceBeqDiff, List.range, List.range.loop, gl0, Tryz.ntmps7, Tryz.results7, vb, PF.toR, gives, givesIf, txs_D, txsD_length, strips_arrs, hs_arrs, i1, hrt, hmt, hc, hg, hashV, hbl, eq_self, decide_true, Bool.not_true, Bool.not_false, spec_rids, sp_ids, c_rids, b_rids, spec_refRoot, sp_refRoot, c_refRoot, b_refRoot, spec_rcommit, sp_gcommit, c_rcommit, b_rcommit, spec_rwanted, sp_gwanted, c_rwanted, b_rwanted]
      exact ⟨hhd, hTx, by omega, jA, by rw [arrs_length, n1]; omega, y1, hhd, hTx, hhd, hTx, by omega⟩
    | some w =>
      have hwp : witP L = decide (w = h) := by unfold witP; rw [hc]; simp only []; rw [hg]
      by_cases hwh : h = w
      · have dw : decide (h = w) = true := decide_eq_true hwh
        have hbl := b0 (hwp.trans (decide_eq_true hwh.symm))
        simp (config := {dsimp := false}) only [↓vp0, vz, vn, nq, tys, cellD, wideIR, if_true, if_false, implies_true, forall_const, ne_eq, reduceIte, reduceCtorEq, Nat.reduceEqDiff, Nat.reduceAdd, Nat.reduceMul, Nat.reduceLT, Nat.reduceSub, Nat.reduceLeDiff, Nat.reduceBNe, Nat.reduceBEq, Nat.reduceBeqDiff, List.range, List.range.loop, gl0, Tryz.ntmps7, Tryz.results7, vb, PF.toR, gives, givesIf, txs_D, txsD_length, strips_arrs, hs_arrs, i1, hrt, hmt, hc, hg, hashV, dw, eq_self, decide_true, Bool.not_true, Bool.not_false, spec_rids, sp_ids, c_rids, b_rids, spec_refRoot, sp_refRoot, c_refRoot, b_refRoot, spec_rcommit, sp_gcommit, c_rcommit, b_rcommit, spec_rwanted, sp_gwanted, c_rwanted, b_rwanted]
        refine ⟨hhd, hTx, by omega, jA, by rw [arrs_length, n1]; omega, y1, hhd, hTx, hhd, hTx, by omega, ?_⟩
        refine loopI Unit (fun _ => [(17, .int .i64 0), (14, .bool true), (1, .bp 0 0)]) (fun _ => ⟨[(0, .agg [.agg [.int .u32 h0, .arr .u8 32 hp, .arr .u8 32 hr, .int .u32 h1, .int .u32 h2, .int .u32 h3], .sl .no 4 (txsD L)])], [], 392⟩) (fun _ => 0) () (fun _ => rfl) ?_ ?_
        · exact ⟨⟨wkD_eq rfl, rfl, wkD_eq rfl, rfl, wkD_eq rfl, rfl, trivial⟩, ⟨rfl, Nat.le_of_ble_eq_true rfl, rfl, trivial⟩, trivial⟩
        rintro ⟨⟩
        have dk : decide ((0 : Int) < ((L.length : Nat) : Int)) = true := decide_eq_true (by omega)
        simp (config := {dsimp := false}) only [↓vp0, vz, vn, nq, tys, cellD, wideIR, if_true, if_false, implies_true, forall_const, ne_eq, reduceIte, reduceCtorEq, Nat.reduceEqDiff, Nat.reduceAdd, Nat.reduceMul, Nat.reduceLT, Nat.reduceSub, Nat.reduceLeDiff, Nat.reduceBNe, Nat.reduceBEq, Nat.reduceBeqDiff, List.range, List.range.loop, gl0, Tryz.ntmps7, Tryz.results7, dk, Bool.not_true, hbl, givesIf]
      · have dw : decide (h = w) = false := decide_eq_false hwh
        have hbl := b22 (hwp.trans (decide_eq_false fun e => hwh e.symm))
        simp (config := {dsimp := false}) only [↓vp0, vz, vn, nq, tys, cellD, wideIR, if_true, if_false, implies_true, forall_const, ne_eq, reduceIte, reduceCtorEq, Nat.reduceEqDiff, Nat.reduceAdd, Nat.reduceMul, Nat.reduceLT, Nat.reduceSub, Nat.reduceLeDiff, Nat.reduceBNe, Nat.reduceBEq, Nat.reduceBeqDiff, List.range, List.range.loop, gl0, Tryz.ntmps7, Tryz.results7, vb, PF.toR, gives, givesIf, txs_D, txsD_length, strips_arrs, hs_arrs, i1, hrt, hmt, hc, hg, hashV, dw, hbl, eq_self, decide_true, Bool.not_true, Bool.not_false, spec_rids, sp_ids, c_rids, b_rids, spec_refRoot, sp_refRoot, c_refRoot, b_refRoot, spec_rcommit, sp_gcommit, c_rcommit, b_rcommit, spec_rwanted, sp_gwanted, c_rwanted, b_rwanted]
        exact ⟨hhd, hTx, by omega, jA, by rw [arrs_length, n1]; omega, y1, hhd, hTx, hhd, hTx, by omega⟩
end Go.Vi.CZ
end

section
set_option linter.unusedVariables false
set_option linter.unusedSimpArgs false
set_option maxHeartbeats 0
set_option maxRecDepth 20000
namespace Go.Vi.CZ
open Go.Proofs

theorem c_lawCheckBlocks : Contract E 3 := by
  refine contract_seeT hE hgl (show E.P.funcs[3]? = some Tryz.f3 from Tryz.func3) rfl (p := sp_lawCheckBlocks) (fun _ _ _ => rfl) ?_
  intro args hv
  unfold sp_lawCheckBlocks at hv ⊢
  split at hv
  case h_2 => exact hv.elim
  rename_i h0 hp hr h1 h2 h3 es
  refine ⟨by simp, Nat.le_of_ble_eq_true rfl, ?_⟩
  simp only [givesIf] at hv
  obtain ⟨hhd, hT⟩ := hv
  have hT0 := hT
  obtain ⟨l, rfl, hok, hl⟩ := hT
  cases hs : smallP l
  · simp (config := {dsimp := false}) only [↓vp0, vz, vn, nq, tys, cellD, wideIR, if_true, if_false, implies_true, forall_const, ne_eq, reduceIte, reduceCtorEq, Nat.reduceEqDiff, Nat.reduceAdd, Nat.reduceMul, Nat.reduceLT, Nat.reduceSub, Nat.reduceLeDiff, Nat.reduceBNe, Nat.reduceBEq, Nat.reduceBeqDiff, List.range, List.range.loop, gl0, Tryz.ntmps3, Tryz.results3, PF.toR, gives, givesIf, txs_D, hs, spec_small, sp_small, c_small, b_small, spec_cworks, sp_cworks, c_cworks, b_cworks]
    exact ⟨hhd, hT0⟩
  obtain ⟨hok, hl8⟩ := any_ok hok hs
  have hTx : isTxL (txsD l) := ⟨l, rfl, hok, by omega⟩
  simp (config := {dsimp := false}) only [↓vp0, vz, vn, nq, tys, cellD, wideIR, if_true, if_false, implies_true, forall_const, ne_eq, reduceIte, reduceCtorEq, Nat.reduceEqDiff, Nat.reduceAdd, Nat.reduceMul, Nat.reduceLT, Nat.reduceSub, Nat.reduceLeDiff, Nat.reduceBNe, Nat.reduceBEq, Nat.reduceBeqDiff, List.range, List.range.loop, gl0, Tryz.ntmps3, Tryz.results3, PF.toR, gives, givesIf, txs_D, txsD_length, hs, eq_self, decide_true, Bool.not_true, spec_small, sp_small, c_small, b_small, spec_cworks, sp_cworks, c_cworks, b_cworks]
  refine ⟨hhd, hT0, ?_⟩
  refine drawI [1] (by kernel_rfl) ?_
  simp (config := {dsimp := false}) only [↓vp0, vz, vn, nq, tys, cellD, wideIR, if_true, if_false, implies_true, forall_const, ne_eq, reduceIte, reduceCtorEq, Nat.reduceEqDiff, Nat.reduceAdd, Nat.reduceMul, Nat.reduceLT, Nat.reduceSub, Nat.reduceLeDiff, Nat.reduceBNe, Nat.reduceBEq, Nat.reduceBeqDiff, List.range, List.range.loop, gl0, Tryz.ntmps3, Tryz.results3, PF.toR, gives, givesIf, txs_D, txsD_length, eq_self, decide_true, Bool.not_true, spec_cblock, sp_cblock, c_cblock, b_cblock, spec_rcblock, sp_rcblock, c_rcblock, b_rcblock, spec_cworks, sp_cworks, c_cworks, b_cworks]
  exact ⟨hhd, hTx, by omega⟩
end Go.Vi.CZ
end

section
set_option linter.unusedVariables false
set_option linter.unusedSimpArgs false
namespace Go.Proofs.YtneickpgbhckmaaGreatDoor
open Go.ChangeShapes Go.WideShapes Go.RowKit Go.Vi Go.Vi.CZ

theorem Tryz.own : ownKnob Tryz.prog.godebug = none := by kernel_rfl
theorem Tryz.laidOut : laidOutB Tryz.prog = true := by kernel_rfl

theorem globs_of_laid {W : World} (h : laidMetH Tryz.prog [("spinney/sha.roundNumbers", Rows.laid_spinney_sha_roundNumbers)] W) : Globs Go.Vi.CZ.E (g0 W) W := by
  rw [MakeChecks.laidMetH_plain _ _ _ (by kernel_rfl)] at h
  obtain ⟨ps, ⟨g, t, cs, fuel, p, q, hg, ht, hv, hd, _, _⟩, _, _⟩ := h
  obtain rfl := Option.some.inj ((show Tryz.prog.globalNamed "spinney/sha.roundNumbers" = some 0 by kernel_rfl).symm.trans hg)
  obtain rfl := Option.some.inj ((show (Tryz.prog.globals[0]?).map (·.type) = some 133 by kernel_rfl).symm.trans ht)
  obtain ⟨xs, m, _, ex, hcl, hl, hel⟩ := DataW.trod_array Tryz.underlying133 hd
  have c5 : Tryz.prog.cellsOf 22 = 1 := by kernel_rfl
  have hlen : kList.length = 64 := by decide
  have e3 : (xs.map (·.1)) = kList.map fun n => .lit (.int .u32 n) :=
    (DataW.agg.inj (Prod.mk.inj ex).1).symm
  have cell : ∀ r, r < 64 → cs.toList[r]? = some (.int .u32 (kList.getD r 0)) := by
    intro r hr
    have hE := hel r hr
    rw [c5, Nat.mul_one, List.getElem?_eq_getElem (by omega)] at hE
    obtain ⟨z, e1, e2, _⟩ := DataW.trod_int Tryz.underlying22 hE
    have e4 : (xs.map (·.1))[r]? = (kList.map fun n => (DataW.lit (.int .u32 n) : DataW Unit))[r]? := by rw [e3]
    rw [List.getElem?_map, List.getElem?_map, List.getElem?_eq_getElem (by omega : r < xs.length), List.getElem?_eq_getElem (by omega : r < kList.length), e2] at e4
    have hz : z = kList.getD r 0 := by
      simp only [Option.map_some, Option.some.injEq, DataW.lit.injEq, Lit.int.injEq, true_and] at e4
      rw [e4, List.getD, List.getElem?_eq_getElem (by omega : r < kList.length)]; rfl
    rw [← hz]
    have h0 : ((cs.toList.drop r).take 1)[0]? = some (.int .u32 z) := by rw [e1]; rfl
    simpa using h0
  have at0 : At W 0 0 (ints .u32 kList) := by
    intro i v hi
    simp only [ints, List.getElem?_map, Option.map_eq_some_iff] at hi
    obtain ⟨z, hz, rfl⟩ := hi
    have hil : i < 64 := by
      have := (List.getElem?_eq_some_iff.1 hz).1
      omega
    have := cell i hil
    rw [List.getD_eq_getElem?_getD, hz] at this
    rw [Nat.zero_add, World.var?_cell hg hv i]
    simpa using this
  intro i d hi
  change glC i = some d at hi
  unfold glC at hi
  split at hi <;> cases hi
  refine ⟨0, 0, ints .u32 kList, rfl, ⟨hlen, rfl⟩, ?_, at0⟩
  have := at0 63 _ (by rw [ints, List.getElem?_map, List.getElem?_eq_getElem (by omega : 63 < kList.length)]; rfl)
  have := cell_lt this
  show 0 + (ints .u32 kList).length ≤ rowSize W 0
  simp only [ints, List.length_map, hlen]
  omega

end Go.Proofs.YtneickpgbhckmaaGreatDoor
end

section
/-
  BLOCKS, as what is handed is read.
-/
set_option linter.unusedVariables false
namespace Go.Vi
open Go.RowKit Go.WideShapes Go.ChangeShapes

theorem lay_nil {P : Program} {a b : Nat} (h : a = b) : LayF P [] a b := h
def rU32 (d : D) : Prop := ∃ n, d = .int .u32 n ∧ (Lit.int .u32 n).wf = true
def rI64 (d : D) : Prop := ∃ n, d = .int .i64 n ∧ (Lit.int .i64 n).wf = true
def rH (d : D) : Prop := ∃ xs, d = .arr .u8 32 xs ∧ xs.length = 32 ∧ ∀ x ∈ xs, (Lit.int .u8 x).wf = true
def rScr (d : D) : Prop := ∃ xs, d = .sli .no .u8 xs ∧ (∀ x ∈ xs, (Lit.int .u8 x).wf = true) ∧ xs.length ≤ maxLen
def rSl (sz : Nat) (R : D → Prop) (d : D) : Prop := ∃ es, d = .sl .no sz es ∧ (∀ x ∈ es, R x) ∧ es.length ≤ maxLen
def rAg (Rs : List (D → Prop)) (d : D) : Prop := ∃ ds, d = .agg ds ∧ All2 (fun d R => R d) ds Rs
def rIn (d : D) : Prop := ∃ x : InP, d = inD x ∧ x.Any
def rOut (d : D) : Prop := ∃ x : OutP, d = outD x ∧ x.Any
def rTx (d : D) : Prop := ∃ x : TxP, d = txD x ∧ x.Any
theorem wf_u32 {n : Int} (h : (Lit.int .u32 n).wf = true) : u32ok n := by
  simp only [Lit.wf, Bool.and_eq_true, decide_eq_true_eq, show IntKind.u32.min = 0 from rfl, show IntKind.u32.max = 4294967295 from rfl] at h
  exact ⟨h.1, by omega⟩
theorem wf_i64 {n : Int} (h : (Lit.int .i64 n).wf = true) : -9223372036854775808 ≤ n ∧ n ≤ 9223372036854775807 := by
  simpa only [Lit.wf, Bool.and_eq_true, decide_eq_true_eq, show IntKind.i64.min = -9223372036854775808 from rfl, show IntKind.i64.max = 9223372036854775807 from rfl] using h
theorem wf_bytes {xs : List Int} (h : ∀ x ∈ xs, (Lit.int .u8 x).wf = true) : bytes xs := by
  intro x hx
  have := h x hx
  simp only [Lit.wf, Bool.and_eq_true, decide_eq_true_eq, show IntKind.u8.min = 0 from rfl, show IntKind.u8.max = 255 from rfl] at this
  omega
theorem maxLen_eq : maxLen = 9223372036854775807 := by decide
theorem all_map {α : Type} {R : D → Prop} {p : α → Prop} {f : α → D} (h : ∀ d, R d → ∃ x, d = f x ∧ p x) : ∀ es : List D, (∀ x ∈ es, R x) → ∃ l : List α, es = l.map f ∧ ∀ x ∈ l, p x
  | [], _ => ⟨[], rfl, fun x hx => by cases hx⟩
  | e :: es, he => by
    obtain ⟨x, rfl, hx⟩ := h e (he e (by simp))
    obtain ⟨l, rfl, hl⟩ := all_map h es fun y hy => he y (by simp [hy])
    exact ⟨x :: l, rfl, fun y hy => by
      rcases List.mem_cons.1 hy with rfl | hy
      · exact hx
      · exact hl y hy⟩
theorem all_mapL {α : Type} {R : D → Prop} {p : α → Prop} {f : α → D} (h : ∀ d, R d → ∃ x, d = f x ∧ p x) {sz : Nat} {d : D} (hd : rSl sz R d) : ∃ l : List α, d = .sl .no sz (l.map f) ∧ (∀ x ∈ l, p x) ∧ l.length ≤ 9223372036854775807 := by
  obtain ⟨es, rfl, he, hl⟩ := hd
  obtain ⟨l, rfl, h2⟩ := all_map h es he
  rw [List.length_map, maxLen_eq] at hl
  exact ⟨l, rfl, h2, hl⟩
theorem scr_r (d : D) (h : rScr d) : ∃ s : List Int, d = .sli .no .u8 s ∧ scrW s := by
  obtain ⟨s, rfl, h1, h2⟩ := h
  exact ⟨s, rfl, wf_bytes h1, by rw [maxLen_eq] at h2; exact h2⟩
theorem all2_2 {ds : List D} {R0 R1 : D → Prop} (h : All2 (fun d R => R d) ds [R0, R1]) : ∃ a b, ds = [a, b] ∧ R0 a ∧ R1 b := by
  match ds, h with
  | [a, b], h => exact ⟨a, b, rfl, h.1, h.2.1⟩
theorem all2_4 {ds : List D} {R0 R1 R2 R3 : D → Prop} (h : All2 (fun d R => R d) ds [R0, R1, R2, R3]) : ∃ a b c d, ds = [a, b, c, d] ∧ R0 a ∧ R1 b ∧ R2 c ∧ R3 d := by
  match ds, h with
  | [a, b, c, d], h => exact ⟨a, b, c, d, rfl, h.1, h.2.1, h.2.2.1, h.2.2.2.1⟩
theorem all2_6 {ds : List D} {R0 R1 R2 R3 R4 R5 : D → Prop} (h : All2 (fun d R => R d) ds [R0, R1, R2, R3, R4, R5]) : ∃ a b c d e f, ds = [a, b, c, d, e, f] ∧ R0 a ∧ R1 b ∧ R2 c ∧ R3 d ∧ R4 e ∧ R5 f := by
  match ds, h with
  | [a, b, c, d, e, f], h => exact ⟨a, b, c, d, e, f, rfl, h.1, h.2.1, h.2.2.1, h.2.2.2.1, h.2.2.2.2.1, h.2.2.2.2.2.1⟩
theorem raw_in (d : D) (h : rAg [rAg [rH, rU32], rScr, rU32, rSl 1 rScr] d) : rIn d := by
  obtain ⟨ds, rfl, h⟩ := h
  obtain ⟨_, _, _, _, rfl, ⟨es, rfl, h0⟩, h1, ⟨q, rfl, hq⟩, h3⟩ := all2_4 h
  obtain ⟨_, _, rfl, ⟨p, rfl, hp, hb⟩, ⟨i, rfl, hi⟩⟩ := all2_2 h0
  obtain ⟨s, rfl, hs⟩ := scr_r _ h1
  obtain ⟨w, rfl, hw, hl⟩ := all_mapL scr_r h3
  exact ⟨⟨p, i, s, q, w⟩, rfl, ⟨hp, wf_bytes hb, wf_u32 hi, hs, wf_u32 hq, hw, hl⟩⟩
theorem raw_out (d : D) (h : rAg [rI64, rScr] d) : rOut d := by
  obtain ⟨ds, rfl, h⟩ := h
  obtain ⟨_, _, rfl, ⟨v, rfl, hv⟩, h1⟩ := all2_2 h
  obtain ⟨s, rfl, hs⟩ := scr_r _ h1
  exact ⟨⟨v, s⟩, rfl, wf_i64 hv, hs⟩
theorem raw_tx (d : D) (h : rAg [rU32, rSl 36 rIn, rSl 2 rOut, rU32] d) : rTx d := by
  obtain ⟨ds, rfl, h⟩ := h
  obtain ⟨_, _, _, _, rfl, ⟨v, rfl, hv⟩, h1, h2, ⟨l, rfl, hl⟩⟩ := all2_4 h
  obtain ⟨i, rfl, hi, hil⟩ := all_mapL (f := inD) (p := InP.Any) (fun d h => h) h1
  obtain ⟨o, rfl, ho, hol⟩ := all_mapL (f := outD) (p := OutP.Any) (fun d h => h) h2
  exact ⟨⟨v, i, o, l⟩, rfl, wf_u32 hv, hi, ho, wf_u32 hl, hil, hol⟩
/-- A block, as it is handed. -/
theorem raw_block {ds : List D} (h : All2 (fun d R => R d) ds [rAg [rU32, rH, rH, rU32, rU32, rU32], rSl 4 rTx]) :
    ∃ (h0 : Int) (hp hr : List Int) (h1 h2 h3 : Int) (l : List TxP), ds = [.agg [.int .u32 h0, .arr .u8 32 hp, .arr .u8 32 hr, .int .u32 h1, .int .u32 h2, .int .u32 h3], .sl .no 4 (txsD l)] ∧ hdOk hp hr ∧ isTxW (txsD l) := by
  obtain ⟨_, _, rfl, ⟨es, rfl, h0⟩, ht⟩ := all2_2 h
  obtain ⟨_, _, _, _, _, _, rfl, ⟨a, rfl, _⟩, ⟨p, rfl, hp, _⟩, ⟨r, rfl, hr, _⟩, ⟨b, rfl, _⟩, ⟨c, rfl, _⟩, ⟨e, rfl, _⟩⟩ := all2_6 h0
  obtain ⟨l, rfl, hl, hm⟩ := all_mapL (f := txD) (p := TxP.Any) (fun d h => h) ht
  exact ⟨a, p, r, b, c, e, l, rfl, ⟨hp, hr⟩, l, rfl, hl, hm⟩
end Go.Vi
end
