/- Lemmas for the law proved in the text whose name ends with Law. -/
import Derived.Test.YtneickpgbhckmaaDoorK64
import Derived.RangeFuncNested
import Derived.RangeFuncBound
import Derived.RangeFuncLeaves
import Derived.Shelf.Abstract
import Derived.Shelf.RegionOpen
import Derived.WalkKit
import Derived.OwnWalkIn
import Derived.TacticsInMore
import Derived.LoopNIn
import Derived.LoopIn
import Derived.Laws.Rows
import Derived.ProofKit
import Derived.Test.YtneickpgbhckmaaDoorProg
import Derived.KernelRfl
import Derived.Test.YtneickpgbhckmaaDoorTie
import Derived.Test.YtneickpgbhckmaaDoorCards
import Derived.SevenTiedAt

section
set_option linter.unusedVariables false
set_option linter.unusedSimpArgs false
set_option maxHeartbeats 0
set_option maxRecDepth 20000
namespace Go.Vi.CK
open Go.Proofs

theorem nextP_len (b s : List Int) : ∀ n, (runP b s n).1.length = 64
  | 0 => rfl
  | n + 1 => by simp [runP, nextP_len b s n]
theorem eight (l : List Int) (h : l.length = 8) : l = [l.getD 0 0, l.getD 1 0, l.getD 2 0, l.getD 3 0, l.getD 4 0, l.getD 5 0, l.getD 6 0, l.getD 7 0] := by
  match l, h with
  | [a, b, c, d, e, f, g, i], _ => rfl
theorem c_change : Contract E 60 := by
  refine contract_seeT hE hgl (show E.P.funcs[60]? = some Tryd.f60 from Tryd.func60) rfl (p := sp_change) (fun _ _ _ => rfl) ?_
  intro args hv
  unfold sp_change at hv ⊢
  split at hv
  case h_2 => exact hv.elim
  rename_i a b c d e f g h x
  refine ⟨by simp, Nat.le_of_ble_eq_true rfl, ?_⟩
  simp only [givesIf] at hv
  simp (config := {dsimp := false}) only [↓vp0, vz, vn, nq, tys, cellD, wideIR, if_true, if_false, implies_true, forall_const, ne_eq, reduceIte, reduceCtorEq, Nat.reduceEqDiff, Nat.reduceAdd, Nat.reduceMul, Nat.reduceLT, Nat.reduceSub, Nat.reduceLeDiff, Nat.reduceBNe, Nat.reduceBEq, Nat.reduceBeqDiff, List.range, List.range.loop, gl0, Tryd.ntmps60, Tryd.results60]
  refine drawX [1, 2, 4] [(1, [2, 3]), (3, [0, 1, 2])] [] (by kernel_rfl) (wild_of rfl) ?_
  simp (config := {dsimp := false}) only [↓vp0, vz, vn, nq, tys, cellD, wideIR, if_true, if_false, implies_true, forall_const, ne_eq, reduceIte, reduceCtorEq, Nat.reduceEqDiff, Nat.reduceAdd, Nat.reduceMul, Nat.reduceLT, Nat.reduceSub, Nat.reduceLeDiff, Nat.reduceBNe, Nat.reduceBEq, Nat.reduceBeqDiff, List.range, List.range.loop, gl0, Tryd.ntmps60, Tryd.results60, vb, ↓vy0, vx0, spec_numbers, sp_numbers, c_numbers, b_numbers]
  refine ⟨okUps_of (by kernel_rfl) rfl, okUps_of (by kernel_rfl) rfl, okUps_all rfl (by kernel_rfl), ?_⟩
  refine loopI (Fin 65) (fun i => [(13, .int .i64 (i.1 : Int)), (12, .arr .u32 64 kList), (5, .fn 82 [.bp 12 0, .bp 13 0, .bp 14 0]), (6, .bp 20 0), (2, .bp 0 0), (4, .bp 4 0)])
    (fun i => ⟨[(0, st8 [a, b, c, d, e, f, g, h]), (4, st8 []), (12, .int .i64 (i.1 : Int)), (13, .sli .no .u8 x), (14, .arr .u32 64 (runP x [a, b, c, d, e, f, g, h] i.1).1), (20, st8 (runP x [a, b, c, d, e, f, g, h] i.1).2)], [], 40⟩) (fun i => 64 - i.1) 0 (fun _ => rfl) ?_ ?_
  · exact ⟨⟨wkD_eq rfl, rfl, wkD_eq rfl, rfl, wkD_eq rfl, rfl, wkD_eq rfl, rfl, wkD_eq rfl, rfl, wkD_eq rfl, rfl, trivial⟩, ⟨rfl, Nat.le_of_ble_eq_true rfl, rfl, rfl, Nat.le_of_ble_eq_true rfl, rfl, rfl, Nat.le_of_ble_eq_true rfl, rfl, rfl, Nat.le_of_ble_eq_true rfl, rfl, rfl, Nat.le_of_ble_eq_true rfl, rfl, rfl, Nat.le_of_ble_eq_true rfl, rfl, trivial⟩, trivial⟩
  rintro ⟨i, hi⟩
  simp (config := {dsimp := false}) only [↓vp0, vz, vn, nq, tys, cellD, wideIR, if_true, if_false, implies_true, forall_const, ne_eq, reduceIte, reduceCtorEq, Nat.reduceEqDiff, Nat.reduceAdd, Nat.reduceMul, Nat.reduceLT, Nat.reduceSub, Nat.reduceLeDiff, Nat.reduceBNe, Nat.reduceBEq, Nat.reduceBeqDiff, List.range, List.range.loop, gl0, Tryd.ntmps60, Tryd.results60, st8]
  refine ⟨fun hh => ?_, fun hh => ?_⟩
  · have hh := of_decide_eq_true hh
    have hw := nextP_len x [a, b, c, d, e, f, g, h] i
    refine ⟨by omega, by omega, ?_⟩
    refine drawX [2, 4, 5, 6, 8, 12, 13] [(3, [0, 1])] [(3, [12, 13, 14])] (by kernel_rfl) (wild_of rfl) ?_
    simp (config := {dsimp := false}) only [↓vp0, vz, vn, nq, tys, cellD, wideIR, if_true, if_false, implies_true, forall_const, ne_eq, reduceIte, reduceCtorEq, Nat.reduceEqDiff, Nat.reduceAdd, Nat.reduceMul, Nat.reduceLT, Nat.reduceSub, Nat.reduceLeDiff, Nat.reduceBNe, Nat.reduceBEq, Nat.reduceBeqDiff, List.range, List.range.loop, gl0, Tryd.ntmps60, Tryd.results60, vb, ↓vy0, vx0, PF.toR, gives, u32s, roundI, spec_next, sp_next, c_next, b_next, spec_round, sp_round, c_round, b_round]
    refine ⟨by omega, by omega, hv, hw, okUps_of (by kernel_rfl) rfl, okUps_all rfl (by kernel_rfl), ⟨i + 1, by omega⟩, ⟨⟨wkD_eq ?_, rfl, wkD_eq rfl, rfl, wkD_eq rfl, rfl, wkD_eq rfl, rfl, wkD_eq rfl, rfl, wkD_eq rfl, rfl, trivial⟩, ⟨rfl, Nat.le_of_ble_eq_true rfl, rfl, rfl, Nat.le_of_ble_eq_true rfl, rfl, rfl, Nat.le_of_ble_eq_true rfl, rfl, rfl, Nat.le_of_ble_eq_true rfl, rfl, rfl, Nat.le_of_ble_eq_true rfl, rfl, rfl, Nat.le_of_ble_eq_true rfl, rfl, trivial⟩, trivial⟩, by (try simp only); omega⟩
    exact some_i64 (by (try simp only); omega)
  · have hh := of_decide_eq_false hh
    obtain rfl : i = 64 := by omega
    simp (config := {dsimp := false}) only [↓vp0, vz, vn, nq, tys, cellD, wideIR, if_true, if_false, implies_true, forall_const, ne_eq, reduceIte, reduceCtorEq, Nat.reduceEqDiff, Nat.reduceAdd, Nat.reduceMul, Nat.reduceLT, Nat.reduceSub, Nat.reduceLeDiff, Nat.reduceBNe, Nat.reduceBEq, Nat.reduceBeqDiff, List.range, List.range.loop, gl0, Tryd.ntmps60, Tryd.results60, vb, PF.toR, gives, u32s, spec_plus, sp_plus, c_plus, b_plus]
    rfl
theorem closingI_len (n : Int) : (closingI n).length = pad n + 9 := by simp [closingI]; rfl
theorem paddedP_len (gone : Int) (r : List Int) (h : r.length < 1000000000) (h0 : 0 ≤ gone) (h1 : gone < 1000000000) (h2 : gone % 64 = 0) : ∃ m, (paddedP gone r).length = 64 * m ∧ m < 16000000 := by
  refine ⟨(paddedP gone r).length / 64, ?_, ?_⟩ <;> simp [paddedP, closingI_len] <;> unfold pad <;> omega
theorem changeP_len (s b : List Int) : (changeP s b).length = 8 := by simp [changeP, plusL]
theorem blocksP_len (all s : List Int) (h : s.length = 8) : ∀ i, (blocksP all s i).length = 8
  | 0 => h
  | i + 1 => changeP_len _ _
theorem outP_len (s : List Int) : (outP s).length = 32 := by simp [outP]
theorem set4 (L : List Int) (j : Nat) (hL : L.length = 32) (hj : j < 8) (a b c d : Int) (ha : L[4 * j]? = some a) (hb : L[4 * j + 1]? = some b) (hc : L[4 * j + 2]? = some c) (hd : L[4 * j + 3]? = some d) :
    ((((L.take (4 * j) ++ List.replicate (32 - 4 * j) 0).set (4 * j) a).set (4 * j + 1) b).set (4 * j + 2) c).set (4 * j + 3) d = L.take (4 * (j + 1)) ++ List.replicate (32 - 4 * (j + 1)) 0 := by
  have hT : (L.take (4 * j)).length = 4 * j := by simp; omega
  have e1 : 4 * (j + 1) = 4 * j + 1 + 1 + 1 + 1 := by omega
  have e2 : 32 - 4 * j = (32 - (4 * j + 1 + 1 + 1 + 1)) + 1 + 1 + 1 + 1 := by omega
  rw [e2, e1]
  simp only [List.replicate_succ]
  rw [List.set_append_right _ _ (by omega), List.set_append_right _ _ (by omega), List.set_append_right _ _ (by omega), List.set_append_right _ _ (by omega), hT]
  simp only [Nat.sub_self, List.set_cons_zero, show 4 * j + 1 - 4 * j = 1 by omega, show 4 * j + 2 - 4 * j = 2 by omega, show 4 * j + 3 - 4 * j = 3 by omega, List.set_cons_succ]
  simp only [List.take_add_one, ha, hb, hc, hd, Option.toList, List.append_assoc, List.cons_append, List.nil_append]
theorem outP_at (s : List Int) (j r : Nat) (hj : j < 8) (hr : r < 4) : (outP s)[4 * j + r]? = some (IntKind.wrap .u8 (if r = 3 then s.getD j 0 else shrI .u32 (s.getD j 0) (24 - 8 * (r : Int)))) := by
  have h1 : (4 * j + r) % 4 = r := by omega
  have h2 : (4 * j + r) / 4 = j := by omega
  simp only [outP, List.getElem?_map, List.getElem?_range (show 4 * j + r < 32 by omega), Option.map_some, h1, h2]
theorem c_digest : Contract E 53 := by
  refine contract_seeT hE hgl (show E.P.funcs[53]? = some Tryd.f53 from Tryd.func53) rfl (p := sp_digest) (fun _ _ _ => rfl) ?_
  intro args hv
  unfold sp_digest at hv ⊢
  split at hv
  case h_2 => exact hv.elim
  rename_i a b c d e f g h n x
  refine ⟨by simp, Nat.le_of_ble_eq_true rfl, ?_⟩
  simp only [givesIf] at hv
  obtain ⟨hx, h0', h1, h2⟩ := hv
  obtain ⟨m, hm, hm2⟩ := paddedP_len n x hx h0' h1 h2
  have e1 : IntKind.wrap .i64 (n + (x.length : Int)) = n + x.length := IntWalk.i64_in _ (by omega)
  simp (config := {dsimp := false}) only [↓vp0, vz, vn, nq, tys, cellD, wideIR, if_true, if_false, implies_true, forall_const, ne_eq, reduceIte, reduceCtorEq, Nat.reduceEqDiff, Nat.reduceAdd, Nat.reduceMul, Nat.reduceLT, Nat.reduceSub, Nat.reduceLeDiff, Nat.reduceBNe, Nat.reduceBEq, Nat.reduceBeqDiff, List.range, List.range.loop, gl0, Tryd.ntmps53, Tryd.results53, PF.toR, gives, givesIf, e1, spec_closing, sp_closing, c_closing, b_closing]
  have hpd : x ++ 128 :: (List.replicate (pad (n + ↑x.length)) 0 ++ beBytes (n + ↑x.length)) = paddedP n x := by simp [paddedP, closingI]
  have hlen : x.length + ((List.replicate (pad (n + ↑x.length)) (0 : Int) ++ beBytes (n + ↑x.length)).length + 1) = (paddedP n x).length := by rw [← hpd]; simp
  have hlen2 : x.length ≤ (paddedP n x).length := by rw [← hlen]; omega
  rw [hpd, hlen]
  refine ⟨by omega, by omega, by omega, by simp, by omega, ?_⟩
  generalize hst : [a, b, c, d, e, f, g, h] = s0
  have hs0 : s0.length = 8 := by rw [← hst]; rfl
  refine loopI (Fin (m + 1)) (fun i => [(7, .sli .no .u8 ((paddedP n x).drop (64 * i.1))), (3, .bp 0 0), (6, .bp 4 0)]) (fun i => ⟨[(0, st8 (blocksP (paddedP n x) s0 i.1)), (4, .arr .u8 32 (List.replicate 32 0))], [], 48⟩) (fun i => m - i.1) 0 (fun _ => rfl) ?_ ?_
  · refine ⟨⟨.inr ⟨_, rfl⟩, rfl, wkD_eq rfl, rfl, wkD_eq rfl, rfl, trivial⟩, ⟨?_, Nat.le_of_ble_eq_true rfl, rfl, rfl, Nat.le_of_ble_eq_true rfl, rfl, trivial⟩, trivial⟩
    subst hst
    rfl
  rintro ⟨i, hi⟩
  simp (config := {dsimp := false}) only [↓vp0, vz, vn, nq, tys, cellD, wideIR, if_true, if_false, implies_true, forall_const, ne_eq, reduceIte, reduceCtorEq, Nat.reduceEqDiff, Nat.reduceAdd, Nat.reduceMul, Nat.reduceLT, Nat.reduceSub, Nat.reduceLeDiff, Nat.reduceBNe, Nat.reduceBEq, Nat.reduceBeqDiff, List.range, List.range.loop, gl0, Tryd.ntmps53, Tryd.results53, PF.toR, givesIf, st8, u32s, spec_change, sp_change, c_change, b_change]
  have hdl : ((paddedP n x).drop (64 * i)).length = 64 * (m - i) := by simp; omega
  rw [hdl]
  have hb8 := blocksP_len (paddedP n x) s0 hs0 i
  refine ⟨fun hh => ?_, fun hh => ?_⟩
  · have hh := of_decide_eq_true hh
    have hlt : i < m := by omega
    refine ⟨by omega, by decide, by omega, Int.le_refl _, ⟨i + 1, by omega⟩, ⟨⟨wkD_eq ?_, rfl, wkD_eq rfl, rfl, wkD_eq rfl, rfl, trivial⟩, ⟨?_, Nat.le_of_ble_eq_true rfl, rfl, rfl, Nat.le_of_ble_eq_true rfl, rfl, trivial⟩, trivial⟩, by (try simp only); omega⟩
    · refine some_sli ?_
      rw [List.take_of_length_le (by omega), List.drop_drop]
      rfl
    · exact congrArg (fun l => some (st8 (changeP l ((paddedP n x).drop (64 * i))))) (eight _ hb8).symm
  · have hh := of_decide_eq_false hh
    obtain rfl : i = m := by omega
    generalize hbs : blocksP (paddedP n x) s0 i = st at hb8 ⊢
    refine loopI (Fin 9) (fun j => [(44, .int .i64 (j.1 : Int)), (43, .arr .u32 8 [st.getD 0 0, st.getD 1 0, st.getD 2 0, st.getD 3 0, st.getD 4 0, st.getD 5 0, st.getD 6 0, st.getD 7 0]), (6, .bp 4 0)]) (fun j => ⟨[(4, .arr .u8 32 ((outP st).take (4 * j.1) ++ List.replicate (32 - 4 * j.1) 0))], [], 132⟩) (fun j => 8 - j.1) 0 (fun _ => rfl) ?_ ?_
    · exact ⟨⟨wkD_eq rfl, rfl, wkD_eq rfl, rfl, wkD_eq rfl, rfl, trivial⟩, ⟨rfl, Nat.le_of_ble_eq_true rfl, rfl, trivial⟩, trivial⟩
    rw [← eight _ hb8]
    rintro ⟨j, hj⟩
    simp (config := {dsimp := false}) only [↓vp0, vz, vn, nq, tys, cellD, wideIR, if_true, if_false, implies_true, forall_const, ne_eq, reduceIte, reduceCtorEq, Nat.reduceEqDiff, Nat.reduceAdd, Nat.reduceMul, Nat.reduceLT, Nat.reduceSub, Nat.reduceLeDiff, Nat.reduceBNe, Nat.reduceBEq, Nat.reduceBeqDiff, List.range, List.range.loop, gl0, Tryd.ntmps53, Tryd.results53]
    refine ⟨fun hh => ?_, fun hh => ?_⟩
    · have hh := of_decide_eq_true hh
      have e4 : IntKind.wrap .i64 (4 * (j : Int)) = 4 * j := IntWalk.i64_in _ (by omega)
      rw [e4]
      have e5 : IntKind.wrap .i64 (4 * (j : Int) + 1) = 4 * j + 1 := IntWalk.i64_in _ (by omega)
      have e6 : IntKind.wrap .i64 (4 * (j : Int) + 2) = 4 * j + 2 := IntWalk.i64_in _ (by omega)
      have e7 : IntKind.wrap .i64 (4 * (j : Int) + 3) = 4 * j + 3 := IntWalk.i64_in _ (by omega)
      rw [e5, e6, e7]
      refine ⟨by omega, by omega, by decide, by decide, by decide, by omega, by omega, by omega, by omega, by omega, by omega, by omega, by omega, ⟨j + 1, by omega⟩, ⟨⟨wkD_eq ?_, rfl, wkD_eq rfl, rfl, wkD_eq rfl, rfl, trivial⟩, ⟨?_, Nat.le_of_ble_eq_true rfl, rfl, trivial⟩, trivial⟩, by (try simp only); omega⟩
      · exact some_i64 (by (try simp only); omega)
      · refine some_arr ?_
        rw [show (4 * (j : Int) + 1).toNat = 4 * j + 1 by omega, show (4 * (j : Int) + 2).toNat = 4 * j + 2 by omega, show (4 * (j : Int) + 3).toNat = 4 * j + 3 by omega, show (4 * (j : Int)).toNat = 4 * j by omega]
        exact set4 (outP st) j (outP_len st) (by omega) _ _ _ _ (outP_at st j 0 (by omega) (by omega)) (outP_at st j 1 (by omega) (by omega)) (outP_at st j 2 (by omega) (by omega)) (outP_at st j 3 (by omega) (by omega))
    · have hh := of_decide_eq_false hh
      obtain rfl : j = 8 := by omega
      subst hbs hst
      have : (paddedP n x).length / 64 = i := by omega
      rw [List.take_of_length_le (by rw [outP_len]; decide)]
      simp [digestP, this, givesIf]
theorem c_sum : Contract E 35 := by
  refine contract_seeT hE hgl (show E.P.funcs[35]? = some Tryd.f35 from Tryd.func35) rfl (p := sp_sum) (fun _ _ _ => rfl) ?_
  intro args hv
  unfold sp_sum at hv ⊢
  split at hv
  case h_2 => exact hv.elim
  rename_i b
  refine ⟨by simp, Nat.le_of_ble_eq_true rfl, ?_⟩
  simp only [givesIf] at hv
  simp (config := {dsimp := false}) only [↓vp0, vz, vn, nq, tys, cellD, wideIR, if_true, if_false, implies_true, forall_const, ne_eq, reduceIte, reduceCtorEq, Nat.reduceEqDiff, Nat.reduceAdd, Nat.reduceMul, Nat.reduceLT, Nat.reduceSub, Nat.reduceLeDiff, Nat.reduceBNe, Nat.reduceBEq, Nat.reduceBeqDiff, List.range, List.range.loop, gl0, Tryd.ntmps35, Tryd.results35, PF.toR, gives, givesIf, u32s, h0, spec_first, sp_first, c_first, b_first, spec_digest, sp_digest, c_digest, b_digest]
  exact ⟨hv, by decide, by decide, by decide, rfl⟩
theorem c_again : Contract E 34 := by
  refine contract_seeT hE hgl (show E.P.funcs[34]? = some Tryd.f34 from Tryd.func34) rfl (p := sp_again) (fun _ _ _ => rfl) ?_
  intro args hv
  unfold sp_again at hv ⊢
  split at hv
  case h_2 => exact hv.elim
  rename_i h
  refine ⟨by simp, Nat.le_of_ble_eq_true rfl, ?_⟩
  simp only [givesIf] at hv
  simp (config := {dsimp := false}) only [↓vp0, vz, vn, nq, tys, cellD, wideIR, if_true, if_false, implies_true, forall_const, ne_eq, reduceIte, reduceCtorEq, Nat.reduceEqDiff, Nat.reduceAdd, Nat.reduceMul, Nat.reduceLT, Nat.reduceSub, Nat.reduceLeDiff, Nat.reduceBNe, Nat.reduceBEq, Nat.reduceBeqDiff, List.range, List.range.loop, gl0, Tryd.ntmps34, Tryd.results34, PF.toR, gives, givesIf, spec_sum, sp_sum, c_sum, b_sum]
  have e : List.take ((32 : Nat) - 0 : Int).toNat (List.drop (Int.toNat 0) h) = h := by
    rw [show Int.toNat 0 = 0 from rfl, List.drop_zero]
    exact List.take_of_length_le (by rw [hv]; decide)
  rw [e]
  exact ⟨by decide, by decide, by decide, by omega, rfl⟩
theorem c_twice : Contract E 22 := by
  refine contract_seeT hE hgl (show E.P.funcs[22]? = some Tryd.f22 from Tryd.func22) rfl (p := sp_twice) (fun _ _ _ => rfl) ?_
  intro args hv
  unfold sp_twice at hv ⊢
  split at hv
  case h_2 => exact hv.elim
  rename_i b
  refine ⟨by simp, Nat.le_of_ble_eq_true rfl, ?_⟩
  simp only [givesIf] at hv
  simp (config := {dsimp := false}) only [↓vp0, vz, vn, nq, tys, cellD, wideIR, if_true, if_false, implies_true, forall_const, ne_eq, reduceIte, reduceCtorEq, Nat.reduceEqDiff, Nat.reduceAdd, Nat.reduceMul, Nat.reduceLT, Nat.reduceSub, Nat.reduceLeDiff, Nat.reduceBNe, Nat.reduceBEq, Nat.reduceBeqDiff, List.range, List.range.loop, gl0, Tryd.ntmps22, Tryd.results22, PF.toR, gives, givesIf, spec_sum, sp_sum, c_sum, b_sum, spec_again, sp_again, c_again, b_again]
  exact ⟨hv, outP_len _⟩
end Go.Vi.CK
end

section
set_option linter.unusedVariables false
set_option linter.unusedSimpArgs false
set_option maxHeartbeats 0
set_option maxRecDepth 20000
namespace Go.Vi.CK
open Go.Proofs

theorem put_0 {b : List Int} {t : TxP} {f : Bool} (h : checkP t = 0) : putV b t f = .tup [.sli .no .u8 (b ++ layI t f), .int .i64 0] := if_pos h
theorem put_e {b : List Int} {t : TxP} {f : Bool} (h : ¬ checkP t = 0) : putV b t f = .tup [.sl .full 0 [], .int .i64 (checkP t)] := if_neg h
theorem c_tput : Contract E 84 := by
  refine contract_seeT hE hgl (show E.P.funcs[84]? = some Tryd.f84 from Tryd.func84) rfl (p := sp_tput) (fun _ _ _ => rfl) ?_
  intro args hv
  unfold sp_tput at hv ⊢
  split at hv
  case h_2 => exact hv.elim
  rename_i b v is os l
  refine ⟨by simp, Nat.le_of_ble_eq_true rfl, ?_⟩
  simp only [givesIf] at hv
  obtain ⟨hok, hb⟩ := hv
  obtain ⟨t, rfl, rfl, rfl, rfl, ht, -⟩ := okT_tx hok
  have eta : (⟨t.ver, t.ins, t.outs, t.lock⟩ : TxP) = t := rfl
  have hc : okT t.ver (insD t.ins) (outsD t.outs) t.lock := hok
  obtain ⟨W, hW⟩ : ∃ W, witnessedP t = W := ⟨_, rfl⟩
  have hW' : t.ins.any hasWit = W := hW
  by_cases h : checkP t = 0
  · have hlen := lay_len ht h W
    have hd : decide (checkP t = 0) = true := decide_eq_true h
    simp (config := {dsimp := false}) only [↓vp0, vz, vn, nq, tys, cellD, wideIR, if_true, if_false, implies_true, forall_const, ne_eq, reduceIte, reduceCtorEq, Nat.reduceEqDiff, Nat.reduceAdd, Nat.reduceMul, Nat.reduceLT, Nat.reduceSub, Nat.reduceLeDiff, Nat.reduceBNe, Nat.reduceBEq, Nat.reduceBeqDiff, List.range, List.range.loop, gl0, Tryd.ntmps84, Tryd.results84, PF.toR, givesIf, eta, hd, hW, put_0 h, spec_tcheck, sp_tcheck, c_tcheck, b_tcheck]
    refine ⟨hc, ?_⟩
    refine drawX [0, 3] [] [] (by kernel_rfl) (wild_of rfl) ?_
    simp (config := {dsimp := false}) only [↓vp0, vz, vn, nq, tys, cellD, wideIR, if_true, if_false, implies_true, forall_const, ne_eq, reduceIte, reduceCtorEq, Nat.reduceEqDiff, Nat.reduceAdd, Nat.reduceMul, Nat.reduceLT, Nat.reduceSub, Nat.reduceLeDiff, Nat.reduceBNe, Nat.reduceBEq, Nat.reduceBeqDiff, List.range, List.range.loop, gl0, Tryd.ntmps84, Tryd.results84, vb, ↓vy0, vx0, PF.toR, givesIf, eta, hW', spec_twitnessed, sp_twitnessed, c_twitnessed, b_twitnessed, spec_laid, sp_laid, c_laid, b_laid]
    refine ⟨hc, hc, by simp only [List.length_append]; omega, okUps_all rfl (by kernel_rfl), ?_⟩
    rw [hW, put_0 h]
  · have hd : decide (checkP t = 0) = false := decide_eq_false h
    simp (config := {dsimp := false}) only [↓vp0, vz, vn, nq, tys, cellD, wideIR, if_true, if_false, implies_true, forall_const, ne_eq, reduceIte, reduceCtorEq, Nat.reduceEqDiff, Nat.reduceAdd, Nat.reduceMul, Nat.reduceLT, Nat.reduceSub, Nat.reduceLeDiff, Nat.reduceBNe, Nat.reduceBEq, Nat.reduceBeqDiff, List.range, List.range.loop, gl0, Tryd.ntmps84, Tryd.results84, PF.toR, givesIf, eta, hd, put_e h, spec_tcheck, sp_tcheck, c_tcheck, b_tcheck]
    exact hc
theorem c_tname : Contract E 47 := by
  refine contract_seeT hE hgl (show E.P.funcs[47]? = some Tryd.f47 from Tryd.func47) rfl (p := sp_tname) (fun _ _ _ => rfl) ?_
  intro args hv
  unfold sp_tname at hv ⊢
  split at hv
  case h_2 => exact hv.elim
  rename_i b e
  refine ⟨by simp, Nat.le_of_ble_eq_true rfl, ?_⟩
  simp only [givesIf] at hv
  by_cases h : e = 0
  · subst h
    simp (config := {dsimp := false}) only [↓vp0, vz, vn, nq, tys, cellD, wideIR, if_true, if_false, implies_true, forall_const, ne_eq, reduceIte, reduceCtorEq, Nat.reduceEqDiff, Nat.reduceAdd, Nat.reduceMul, Nat.reduceLT, Nat.reduceSub, Nat.reduceLeDiff, Nat.reduceBNe, Nat.reduceBEq, Nat.reduceBeqDiff, List.range, List.range.loop, gl0, Tryd.ntmps47, Tryd.results47, PF.toR, givesIf, eq_self, decide_true, spec_twice, sp_twice, c_twice, b_twice]
    exact hv
  · simp (config := {dsimp := false}) only [↓vp0, vz, vn, nq, tys, cellD, wideIR, if_true, if_false, implies_true, forall_const, ne_eq, reduceIte, reduceCtorEq, Nat.reduceEqDiff, Nat.reduceAdd, Nat.reduceMul, Nat.reduceLT, Nat.reduceSub, Nat.reduceLeDiff, Nat.reduceBNe, Nat.reduceBEq, Nat.reduceBeqDiff, List.range, List.range.loop, gl0, Tryd.ntmps47, Tryd.results47, PF.toR, givesIf, h, decide_false, spec_twice, sp_twice, c_twice, b_twice]
    all_goals rfl
theorem c_tfull : Contract E 77 := by
  refine contract_seeT hE hgl (show E.P.funcs[77]? = some Tryd.f77 from Tryd.func77) rfl (p := sp_tfull) (fun _ _ _ => rfl) ?_
  intro args hv
  unfold sp_tfull at hv ⊢
  split at hv
  case h_2 => exact hv.elim
  rename_i v is os l
  refine ⟨by simp, Nat.le_of_ble_eq_true rfl, ?_⟩
  simp only [givesIf] at hv
  have hok := hv
  obtain ⟨t, rfl, rfl, rfl, rfl, ht, -⟩ := okT_tx hok
  have eta : (⟨t.ver, t.ins, t.outs, t.lock⟩ : TxP) = t := rfl
  by_cases h : checkP t = 0
  · have hlen := lay_len ht h (witnessedP t)
    have hf : fullP t = sumP (sumP (layI t (witnessedP t))) := if_pos h
    simp (config := {dsimp := false}) only [↓vp0, vz, vn, nq, tys, cellD, wideIR, if_true, if_false, implies_true, forall_const, ne_eq, reduceIte, reduceCtorEq, Nat.reduceEqDiff, Nat.reduceAdd, Nat.reduceMul, Nat.reduceLT, Nat.reduceSub, Nat.reduceLeDiff, Nat.reduceBNe, Nat.reduceBEq, Nat.reduceBeqDiff, List.range, List.range.loop, gl0, Tryd.ntmps77, Tryd.results77, PF.toR, givesIf, eta, put_0 h, hf, eq_self, spec_tput, sp_tput, c_tput, b_tput, spec_tname, sp_tname, c_tname, b_tname]
    exact ⟨hok, by omega⟩
  · have hf : fullP t = List.replicate 32 0 := if_neg h
    simp (config := {dsimp := false}) only [↓vp0, vz, vn, nq, tys, cellD, wideIR, if_true, if_false, implies_true, forall_const, ne_eq, reduceIte, reduceCtorEq, Nat.reduceEqDiff, Nat.reduceAdd, Nat.reduceMul, Nat.reduceLT, Nat.reduceSub, Nat.reduceLeDiff, Nat.reduceBNe, Nat.reduceBEq, Nat.reduceBeqDiff, List.range, List.range.loop, gl0, Tryd.ntmps77, Tryd.results77, PF.toR, givesIf, eta, put_e h, hf, h, spec_tput, sp_tput, c_tput, b_tput, spec_tname, sp_tname, c_tname, b_tname]
    exact hok
end Go.Vi.CK
end

section
set_option linter.unusedVariables false
set_option linter.unusedSimpArgs false
set_option maxHeartbeats 0
set_option maxRecDepth 20000
namespace Go.Vi.CK
open Go.Proofs

end Go.Vi.CK
end

section
set_option linter.unusedVariables false
set_option linter.unusedSimpArgs false
set_option maxHeartbeats 0
set_option maxRecDepth 20000
namespace Go.Vi.CK
open Go.Proofs

end Go.Vi.CK
end

section
set_option linter.unusedVariables false
set_option linter.unusedSimpArgs false
set_option maxHeartbeats 0
set_option maxRecDepth 20000
namespace Go.Vi.CK
open Go.Proofs

end Go.Vi.CK
end

section
set_option linter.unusedVariables false
set_option linter.unusedSimpArgs false
set_option maxHeartbeats 0
set_option maxRecDepth 20000
namespace Go.Vi.CK
open Go.Proofs

end Go.Vi.CK
end

section
set_option linter.unusedVariables false
set_option linter.unusedSimpArgs false
set_option maxHeartbeats 0
set_option maxRecDepth 20000
namespace Go.Vi.CK
open Go.Proofs

theorem c_tbare : Contract E 48 := by
  refine contract_seeT hE hgl (show E.P.funcs[48]? = some Tryd.f48 from Tryd.func48) rfl (p := sp_tbare) (fun _ _ _ => rfl) ?_
  intro args hv
  unfold sp_tbare at hv ⊢
  split at hv
  case h_2 => exact hv.elim
  rename_i b v is os l
  refine ⟨by simp, Nat.le_of_ble_eq_true rfl, ?_⟩
  simp only [givesIf] at hv
  obtain ⟨hok, hb⟩ := hv
  obtain ⟨t, rfl, rfl, rfl, rfl, ht, -⟩ := okT_tx hok
  have eta : (⟨t.ver, t.ins, t.outs, t.lock⟩ : TxP) = t := rfl
  have hc : okT t.ver (insD t.ins) (outsD t.outs) t.lock := hok
  by_cases h : checkP t = 0
  · have hlen := lay_len ht h false
    have hd : decide (checkP t = 0) = true := decide_eq_true h
    simp (config := {dsimp := false}) only [↓vp0, vz, vn, nq, tys, cellD, wideIR, if_true, if_false, implies_true, forall_const, ne_eq, reduceIte, reduceCtorEq, Nat.reduceEqDiff, Nat.reduceAdd, Nat.reduceMul, Nat.reduceLT, Nat.reduceSub, Nat.reduceLeDiff, Nat.reduceBNe, Nat.reduceBEq, Nat.reduceBeqDiff, List.range, List.range.loop, gl0, Tryd.ntmps48, Tryd.results48, vb, PF.toR, givesIf, eta, hd, put_0 h, spec_tcheck, sp_tcheck, c_tcheck, b_tcheck, spec_laid, sp_laid, c_laid, b_laid]
    exact ⟨hc, hc, by simp only [List.length_append]; omega⟩
  · have hd : decide (checkP t = 0) = false := decide_eq_false h
    simp (config := {dsimp := false}) only [↓vp0, vz, vn, nq, tys, cellD, wideIR, if_true, if_false, implies_true, forall_const, ne_eq, reduceIte, reduceCtorEq, Nat.reduceEqDiff, Nat.reduceAdd, Nat.reduceMul, Nat.reduceLT, Nat.reduceSub, Nat.reduceLeDiff, Nat.reduceBNe, Nat.reduceBEq, Nat.reduceBeqDiff, List.range, List.range.loop, gl0, Tryd.ntmps48, Tryd.results48, PF.toR, givesIf, eta, hd, put_e h, spec_tcheck, sp_tcheck, c_tcheck, b_tcheck]
    exact hc
theorem c_tid : Contract E 28 := by
  refine contract_seeT hE hgl (show E.P.funcs[28]? = some Tryd.f28 from Tryd.func28) rfl (p := sp_tid) (fun _ _ _ => rfl) ?_
  intro args hv
  unfold sp_tid at hv ⊢
  split at hv
  case h_2 => exact hv.elim
  rename_i v is os l
  refine ⟨by simp, Nat.le_of_ble_eq_true rfl, ?_⟩
  simp only [givesIf] at hv
  have hok := hv
  obtain ⟨t, rfl, rfl, rfl, rfl, ht, -⟩ := okT_tx hok
  have eta : (⟨t.ver, t.ins, t.outs, t.lock⟩ : TxP) = t := rfl
  by_cases h : checkP t = 0
  · have hlen := lay_len ht h false
    have hf : idP t = sumP (sumP (layI t false)) := if_pos h
    simp (config := {dsimp := false}) only [↓vp0, vz, vn, nq, tys, cellD, wideIR, if_true, if_false, implies_true, forall_const, ne_eq, reduceIte, reduceCtorEq, Nat.reduceEqDiff, Nat.reduceAdd, Nat.reduceMul, Nat.reduceLT, Nat.reduceSub, Nat.reduceLeDiff, Nat.reduceBNe, Nat.reduceBEq, Nat.reduceBeqDiff, List.range, List.range.loop, gl0, Tryd.ntmps28, Tryd.results28, PF.toR, givesIf, eta, put_0 h, hf, eq_self, spec_tbare, sp_tbare, c_tbare, b_tbare, spec_tname, sp_tname, c_tname, b_tname]
    exact ⟨hok, by omega⟩
  · have hf : idP t = List.replicate 32 0 := if_neg h
    simp (config := {dsimp := false}) only [↓vp0, vz, vn, nq, tys, cellD, wideIR, if_true, if_false, implies_true, forall_const, ne_eq, reduceIte, reduceCtorEq, Nat.reduceEqDiff, Nat.reduceAdd, Nat.reduceMul, Nat.reduceLT, Nat.reduceSub, Nat.reduceLeDiff, Nat.reduceBNe, Nat.reduceBEq, Nat.reduceBeqDiff, List.range, List.range.loop, gl0, Tryd.ntmps28, Tryd.results28, PF.toR, givesIf, eta, put_e h, hf, h, spec_tbare, sp_tbare, c_tbare, b_tbare, spec_tname, sp_tname, c_tname, b_tname]
    exact hok
end Go.Vi.CK
end

section
set_option linter.unusedVariables false
set_option linter.unusedSimpArgs false
set_option maxHeartbeats 0
set_option maxRecDepth 20000
namespace Go.Vi.CK
open Go.Proofs

theorem c_fulls1 : Contract E 76 := by
  refine contract_seeT hE hgl (show E.P.funcs[76]? = some Tryd.f76 from Tryd.func76) rfl (p := sp_fulls1) (fun _ _ _ => rfl) ?_
  intro args hv
  unfold sp_fulls1 at hv ⊢
  split at hv
  case h_2 => exact hv.elim
  rename_i i v is os l
  refine ⟨by simp, Nat.le_of_ble_eq_true rfl, ?_⟩
  simp only [givesIf] at hv
  have hok := hv
  obtain ⟨t, rfl, rfl, rfl, rfl, ht, -⟩ := okT_tx hok
  by_cases h : i = 0
  · subst h
    simp (config := {dsimp := false}) only [↓vp0, vz, vn, nq, tys, cellD, wideIR, if_true, if_false, implies_true, forall_const, ne_eq, reduceIte, reduceCtorEq, Nat.reduceEqDiff, Nat.reduceAdd, Nat.reduceMul, Nat.reduceLT, Nat.reduceSub, Nat.reduceLeDiff, Nat.reduceBNe, Nat.reduceBEq, Nat.reduceBeqDiff, List.range, List.range.loop, gl0, Tryd.ntmps76, Tryd.results76, PF.toR, givesIf, eq_self, decide_true, spec_tfull, sp_tfull, c_tfull, b_tfull]
    all_goals rfl
  · simp (config := {dsimp := false}) only [↓vp0, vz, vn, nq, tys, cellD, wideIR, if_true, if_false, implies_true, forall_const, ne_eq, reduceIte, reduceCtorEq, Nat.reduceEqDiff, Nat.reduceAdd, Nat.reduceMul, Nat.reduceLT, Nat.reduceSub, Nat.reduceLeDiff, Nat.reduceBNe, Nat.reduceBEq, Nat.reduceBeqDiff, List.range, List.range.loop, gl0, Tryd.ntmps76, Tryd.results76, PF.toR, givesIf, h, decide_false, spec_tfull, sp_tfull, c_tfull, b_tfull]
    exact hok
theorem c_ids1 : Contract E 27 := by
  refine contract_seeT hE hgl (show E.P.funcs[27]? = some Tryd.f27 from Tryd.func27) rfl (p := sp_ids1) (fun _ _ _ => rfl) ?_
  intro args hv
  unfold sp_ids1 at hv ⊢
  split at hv
  case h_2 => exact hv.elim
  rename_i i v is os l
  refine ⟨by simp, Nat.le_of_ble_eq_true rfl, ?_⟩
  simp only [givesIf] at hv
  have hok := hv
  obtain ⟨t, rfl, rfl, rfl, rfl, ht, -⟩ := okT_tx hok
  simp (config := {dsimp := false}) only [↓vp0, vz, vn, nq, tys, cellD, wideIR, if_true, if_false, implies_true, forall_const, ne_eq, reduceIte, reduceCtorEq, Nat.reduceEqDiff, Nat.reduceAdd, Nat.reduceMul, Nat.reduceLT, Nat.reduceSub, Nat.reduceLeDiff, Nat.reduceBNe, Nat.reduceBEq, Nat.reduceBeqDiff, List.range, List.range.loop, gl0, Tryd.ntmps27, Tryd.results27, PF.toR, givesIf, spec_tid, sp_tid, c_tid, b_tid]
  exact hok
theorem hashes_get (f : Bool) (l : List TxP) (k : Nat) (h : k < l.length) : (hashesP f l).take (k + 1) = (hashesP f l).take k ++ [if f = true then (if k = 0 then List.replicate 32 0 else fullP (l.getD k default)) else idP (l.getD k default)] := by
  rw [List.take_add_one]
  simp [hashesP, h]
theorem c_names : Contract E 26 := by
  refine contract_seeT hE hgl (show E.P.funcs[26]? = some Tryd.f26 from Tryd.func26) rfl (p := (sp_names 76 27)) (fun _ _ _ => rfl) ?_
  intro args hv
  unfold sp_names at hv ⊢
  split at hv
  case h_2 => exact hv.elim
  rename_i h0' hp hr h1 h2 h3 es h
  refine ⟨by simp, Nat.le_of_ble_eq_true rfl, ?_⟩
  simp only [givesIf] at hv
  obtain ⟨hh, hff, hhd, ⟨l, rfl, hok, hl⟩, hlen⟩ := hv
  simp only [txsD_length] at hlen
  have hx : ∀ (a : L2) (x : List Int), arrs a ++ [D.arr .u8 32 x] = arrs (a ++ [x]) := fun a x => arrs_append a [x]
  have htl : ∀ f, (hashesP f l).take l.length = hashesP f l := fun f => List.take_of_length_le (by rw [hashes_len]; exact Nat.le_refl _)
  rcases hh with rfl | ⟨rfl, h0⟩
  · skip
    simp (config := {dsimp := false}) only [↓vp0, vz, vn, nq, tys, cellD, wideIR, if_true, if_false, implies_true, forall_const, ne_eq, reduceIte, reduceCtorEq, Nat.reduceEqDiff, Nat.reduceAdd, Nat.reduceMul, Nat.reduceLT, Nat.reduceSub, Nat.reduceLeDiff, Nat.reduceBNe, Nat.reduceBEq, Nat.reduceBeqDiff, List.range, List.range.loop, gl0, Tryd.ntmps26, Tryd.results26]
    refine loopA [(4, none, 32)] ?_
    simp only [adopt, look, if_true, if_false, reduceIte, Nat.reduceEqDiff, setL, List.length_nil]
    refine ⟨Fin (l.length + 1), fun k => [(10, .int .i64 (k.1 : Nat)), (9, .int .i64 (l.length : Nat)), (8, .sl .no 4 (txsD l)), (4, .sl (.tok 24) 32 (arrs ((hashesP true l).take k.1))), (2, .bp 0 0), (1, .fn 76 [])], fun k => ⟨[(0, .agg [.agg [.int .u32 h0', .arr .u8 32 hp, .arr .u8 32 hr, .int .u32 h1, .int .u32 h2, .int .u32 h3], .sl .no 4 (txsD l)])], [(24, (k.1, 32))], 28⟩, fun k => l.length - k.1, 0, fun _ => rfl, ?_, ?_⟩
    · exact ⟨⟨wkD_eq rfl, rfl, wkD_eq rfl, rfl, wkD_eq rfl, rfl, wkD_eq rfl, rfl, wkD_eq rfl, rfl, wkD_eq rfl, rfl, trivial⟩, ⟨rfl, Nat.le_of_ble_eq_true rfl, rfl, trivial⟩, ⟨rfl, Nat.le_of_ble_eq_true rfl, trivial⟩⟩
    rintro ⟨k, hk⟩
    have hal : (arrs ((hashesP true l).take k)).length = k := by rw [arrs_length, List.length_take, hashes_len]; omega
    simp (config := {dsimp := false}) only [↓vp0, vz, vn, nq, tys, cellD, wideIR, if_true, if_false, implies_true, forall_const, ne_eq, reduceIte, reduceCtorEq, Nat.reduceEqDiff, Nat.reduceAdd, Nat.reduceMul, Nat.reduceLT, Nat.reduceSub, Nat.reduceLeDiff, Nat.reduceBNe, Nat.reduceBEq, Nat.reduceBeqDiff, List.range, List.range.loop, gl0, Tryd.ntmps26, Tryd.results26]
    refine ⟨fun hh => ?_, fun hh => ?_⟩
    · have hh := of_decide_eq_true hh
      have hk' : k < l.length := by omega
      have g1 := txsD_get l k hk'
      have ht := hok _ (getD_memI hk')
      have hg := hashes_get true l k hk'
      simp (config := {dsimp := false}) only [↓vp0, vz, vn, nq, tys, cellD, wideIR, if_true, if_false, implies_true, forall_const, ne_eq, reduceIte, reduceCtorEq, Nat.reduceEqDiff, Nat.reduceAdd, Nat.reduceMul, Nat.reduceLT, Nat.reduceSub, Nat.reduceLeDiff, Nat.reduceBNe, Nat.reduceBEq, Nat.reduceBeqDiff, List.range, List.range.loop, gl0, Tryd.ntmps26, Tryd.results26, PF.toR, givesIf, Int.toNat_natCast, g1, txD, hal, spec_fulls1, sp_fulls1, c_fulls1, b_fulls1]
      refine ⟨by omega, by omega, tx_okT ht, by omega, .inr trivial, .inr trivial, ⟨k + 1, by omega⟩, ⟨⟨wkD_eq ?_, rfl, wkD_eq rfl, rfl, wkD_eq rfl, rfl, wkD_eq ?_, rfl, wkD_eq rfl, rfl, wkD_eq rfl, rfl, trivial⟩, ⟨rfl, Nat.le_of_ble_eq_true rfl, rfl, trivial⟩, ⟨rfl, Nat.le_of_ble_eq_true rfl, trivial⟩⟩, by (try simp only); omega⟩
      · exact some_i64 (by (try simp only); omega)
      · rw [hg, bare_arr, hx]
        rw [if_pos rfl]
        by_cases hz : k = 0
        · subst hz; rfl
        · rw [if_neg hz, if_neg (by omega)]; rfl
    · have hh := of_decide_eq_false hh
      obtain rfl : k = l.length := by omega
      simp (config := {dsimp := false}) only [↓vp0, vz, vn, nq, tys, cellD, wideIR, if_true, if_false, implies_true, forall_const, ne_eq, reduceIte, reduceCtorEq, Nat.reduceEqDiff, Nat.reduceAdd, Nat.reduceMul, Nat.reduceLT, Nat.reduceSub, Nat.reduceLeDiff, Nat.reduceBNe, Nat.reduceBEq, Nat.reduceBeqDiff, List.range, List.range.loop, gl0, Tryd.ntmps26, Tryd.results26, givesIf, htl, strips_arrs, ts_slis, eq_self, decide_true]
      all_goals rfl
  · skip
    simp (config := {dsimp := false}) only [↓vp0, vz, vn, nq, tys, cellD, wideIR, if_true, if_false, implies_true, forall_const, ne_eq, reduceIte, reduceCtorEq, Nat.reduceEqDiff, Nat.reduceAdd, Nat.reduceMul, Nat.reduceLT, Nat.reduceSub, Nat.reduceLeDiff, Nat.reduceBNe, Nat.reduceBEq, Nat.reduceBeqDiff, List.range, List.range.loop, gl0, Tryd.ntmps26, Tryd.results26]
    refine loopA [(4, none, 32)] ?_
    simp only [adopt, look, if_true, if_false, reduceIte, Nat.reduceEqDiff, setL, List.length_nil]
    refine ⟨Fin (l.length + 1), fun k => [(10, .int .i64 (k.1 : Nat)), (9, .int .i64 (l.length : Nat)), (8, .sl .no 4 (txsD l)), (4, .sl (.tok 24) 32 (arrs ((hashesP false l).take k.1))), (2, .bp 0 0), (1, .fn 27 [])], fun k => ⟨[(0, .agg [.agg [.int .u32 h0', .arr .u8 32 hp, .arr .u8 32 hr, .int .u32 h1, .int .u32 h2, .int .u32 h3], .sl .no 4 (txsD l)])], [(24, (k.1, 32))], 28⟩, fun k => l.length - k.1, 0, fun _ => rfl, ?_, ?_⟩
    · exact ⟨⟨wkD_eq rfl, rfl, wkD_eq rfl, rfl, wkD_eq rfl, rfl, wkD_eq rfl, rfl, wkD_eq rfl, rfl, wkD_eq rfl, rfl, trivial⟩, ⟨rfl, Nat.le_of_ble_eq_true rfl, rfl, trivial⟩, ⟨rfl, Nat.le_of_ble_eq_true rfl, trivial⟩⟩
    rintro ⟨k, hk⟩
    have hal : (arrs ((hashesP false l).take k)).length = k := by rw [arrs_length, List.length_take, hashes_len]; omega
    simp (config := {dsimp := false}) only [↓vp0, vz, vn, nq, tys, cellD, wideIR, if_true, if_false, implies_true, forall_const, ne_eq, reduceIte, reduceCtorEq, Nat.reduceEqDiff, Nat.reduceAdd, Nat.reduceMul, Nat.reduceLT, Nat.reduceSub, Nat.reduceLeDiff, Nat.reduceBNe, Nat.reduceBEq, Nat.reduceBeqDiff, List.range, List.range.loop, gl0, Tryd.ntmps26, Tryd.results26]
    refine ⟨fun hh => ?_, fun hh => ?_⟩
    · have hh := of_decide_eq_true hh
      have hk' : k < l.length := by omega
      have g1 := txsD_get l k hk'
      have ht := hok _ (getD_memI hk')
      have hg := hashes_get false l k hk'
      simp (config := {dsimp := false}) only [↓vp0, vz, vn, nq, tys, cellD, wideIR, if_true, if_false, implies_true, forall_const, ne_eq, reduceIte, reduceCtorEq, Nat.reduceEqDiff, Nat.reduceAdd, Nat.reduceMul, Nat.reduceLT, Nat.reduceSub, Nat.reduceLeDiff, Nat.reduceBNe, Nat.reduceBEq, Nat.reduceBeqDiff, List.range, List.range.loop, gl0, Tryd.ntmps26, Tryd.results26, PF.toR, givesIf, Int.toNat_natCast, g1, txD, hal, spec_ids1, sp_ids1, c_ids1, b_ids1]
      refine ⟨by omega, by omega, tx_okT ht, by omega, .inr trivial, .inr trivial, ⟨k + 1, by omega⟩, ⟨⟨wkD_eq ?_, rfl, wkD_eq rfl, rfl, wkD_eq rfl, rfl, wkD_eq ?_, rfl, wkD_eq rfl, rfl, wkD_eq rfl, rfl, trivial⟩, ⟨rfl, Nat.le_of_ble_eq_true rfl, rfl, trivial⟩, ⟨rfl, Nat.le_of_ble_eq_true rfl, trivial⟩⟩, by (try simp only); omega⟩
      · exact some_i64 (by (try simp only); omega)
      · rw [hg, bare_arr, hx]
        all_goals rfl
    · have hh := of_decide_eq_false hh
      obtain rfl : k = l.length := by omega
      simp (config := {dsimp := false}) only [↓vp0, vz, vn, nq, tys, cellD, wideIR, if_true, if_false, implies_true, forall_const, ne_eq, reduceIte, reduceCtorEq, Nat.reduceEqDiff, Nat.reduceAdd, Nat.reduceMul, Nat.reduceLT, Nat.reduceSub, Nat.reduceLeDiff, Nat.reduceBNe, Nat.reduceBEq, Nat.reduceBeqDiff, List.range, List.range.loop, gl0, Tryd.ntmps26, Tryd.results26, givesIf, htl, strips_arrs, ts_slis, eq_self, decide_true]
      all_goals rfl
theorem c_fulls : Contract E 62 := by
  refine contract_seeT hE hgl (show E.P.funcs[62]? = some Tryd.f62 from Tryd.func62) rfl (p := sp_fulls) (fun _ _ _ => rfl) ?_
  intro args hv
  unfold sp_fulls at hv ⊢
  split at hv
  case h_2 => exact hv.elim
  rename_i h0 hp hr h1 h2 h3 es
  refine ⟨by simp, Nat.le_of_ble_eq_true rfl, ?_⟩
  simp only [givesIf] at hv
  obtain ⟨hhd, ⟨l, rfl, hok, hl⟩, hlen⟩ := hv
  simp (config := {dsimp := false}) only [↓vp0, vz, vn, nq, tys, cellD, wideIR, if_true, if_false, implies_true, forall_const, ne_eq, reduceIte, reduceCtorEq, Nat.reduceEqDiff, Nat.reduceAdd, Nat.reduceMul, Nat.reduceLT, Nat.reduceSub, Nat.reduceLeDiff, Nat.reduceBNe, Nat.reduceBEq, Nat.reduceBeqDiff, List.range, List.range.loop, gl0, Tryd.ntmps62, Tryd.results62, PF.toR, givesIf, strips_arrs, eq_self, decide_true, spec_names, sp_names, c_names, b_names]
  exact ⟨.inl trivial, hhd, ⟨l, rfl, hok, hl⟩, by simp only [txsD_length] at hlen ⊢; omega⟩
theorem c_ids : Contract E 16 := by
  refine contract_seeT hE hgl (show E.P.funcs[16]? = some Tryd.f16 from Tryd.func16) rfl (p := sp_ids) (fun _ _ _ => rfl) ?_
  intro args hv
  unfold sp_ids at hv ⊢
  split at hv
  case h_2 => exact hv.elim
  rename_i h0 hp hr h1 h2 h3 es
  refine ⟨by simp, Nat.le_of_ble_eq_true rfl, ?_⟩
  simp only [givesIf] at hv
  obtain ⟨hhd, ⟨l, rfl, hok, hl⟩, hlen⟩ := hv
  simp (config := {dsimp := false}) only [↓vp0, vz, vn, nq, tys, cellD, wideIR, if_true, if_false, implies_true, forall_const, ne_eq, reduceIte, reduceCtorEq, Nat.reduceEqDiff, Nat.reduceAdd, Nat.reduceMul, Nat.reduceLT, Nat.reduceSub, Nat.reduceLeDiff, Nat.reduceBNe, Nat.reduceBEq, Nat.reduceBeqDiff, List.range, List.range.loop, gl0, Tryd.ntmps16, Tryd.results16, PF.toR, givesIf, strips_arrs, decide_false, spec_names, sp_names, c_names, b_names]
  exact ⟨.inr trivial, hhd, ⟨l, rfl, hok, hl⟩, by simp only [txsD_length] at hlen ⊢; omega⟩
end Go.Vi.CK
end

section
set_option linter.unusedVariables false
set_option linter.unusedSimpArgs false
set_option maxHeartbeats 0
set_option maxRecDepth 20000
namespace Go.Vi.CK
open Go.Proofs

theorem wrapI64 {n : Int} (h1 : -9223372036854775808 ≤ n) (h2 : n ≤ 9223372036854775807) : IntKind.wrap .i64 n = n := by rw [IntKind.wrap_i64]; omega
theorem tx_eta (t : TxP) : (⟨t.ver, ins (insD t.ins), outs (outsD t.outs), t.lock⟩ : TxP) = t := by rw [ins_D, outs_D]
theorem c_cbase : Contract E 10 := by
  refine contract_seeT hE hgl (show E.P.funcs[10]? = some Tryd.f10 from Tryd.func10) rfl (p := sp_cbase) (fun _ _ _ => rfl) ?_
  intro args hv
  unfold sp_cbase at hv ⊢
  split at hv
  case h_2 => exact hv.elim
  rename_i v is os l
  refine ⟨by simp, Nat.le_of_ble_eq_true rfl, ?_⟩
  simp only [givesIf] at hv
  obtain ⟨t, rfl, rfl, rfl, rfl, ht⟩ := hv
  rw [tx_eta]
  by_cases h1 : t.ins.length = 1
  case neg =>
    have d1 : decide (((t.ins.length : Nat) : Int) = 1) = false := decide_eq_false (by omega)
    simp (config := {dsimp := false}) only [↓vp0, vz, vn, nq, tys, cellD, wideIR, if_true, if_false, implies_true, forall_const, ne_eq, reduceIte, reduceCtorEq, Nat.reduceEqDiff, Nat.reduceAdd, Nat.reduceMul, Nat.reduceLT, Nat.reduceSub, Nat.reduceLeDiff, Nat.reduceBNe, Nat.reduceBEq, Nat.reduceBeqDiff, List.range, List.range.loop, gl0, Tryd.ntmps10, Tryd.results10, d1, base_not1 h1, givesIf]
    all_goals rfl
  obtain ⟨tv, ti, to, tl⟩ := t
  obtain ⟨x, rfl⟩ : ∃ x, ti = [x] := by
    match ti, h1 with
    | [x], _ => exact ⟨x, rfl⟩
  have hx := ht.ins x (List.mem_cons_self ..)
  have he : eqFs E (eqB E 7) 0 [(0, 32), (32, 22)] [D.arr IntKind.u8 32 x.prev, D.int IntKind.u32 x.ix] [D.arr IntKind.u8 32 (List.replicate 32 0), D.int IntKind.u32 4294967295] = some (decide (x.prev = List.replicate 32 0) && decide (x.ix = 4294967295)) := by
    simp [eqFs, eqB, D.size, tsize, known, E, tyC]
  simp (config := {dsimp := false}) only [↓vp0, vz, vn, nq, tys, cellD, wideIR, if_true, if_false, implies_true, forall_const, ne_eq, reduceIte, reduceCtorEq, Nat.reduceEqDiff, Nat.reduceAdd, Nat.reduceMul, Nat.reduceLT, Nat.reduceSub, Nat.reduceLeDiff, Nat.reduceBNe, Nat.reduceBEq, Nat.reduceBeqDiff, List.range, List.range.loop, gl0, Tryd.ntmps10, Tryd.results10, show insD [x] = [inD x] from rfl, inD, show decide (((1 : Nat) : Int) = 1) = true from rfl, show Int.toNat 0 = 0 from rfl, List.getD_cons_zero, he, baseP, inBase, givesIf]
  exact ⟨Int.le_refl _, by decide⟩
theorem c_csum : Contract E 8 := by
  refine contract_seeT hE hgl (show E.P.funcs[8]? = some Tryd.f8 from Tryd.func8) rfl (p := sp_csum) (fun _ _ _ => rfl) ?_
  intro args hv
  unfold sp_csum at hv ⊢
  split at hv
  case h_2 => exact hv.elim
  rename_i v is os l
  refine ⟨by simp, Nat.le_of_ble_eq_true rfl, ?_⟩
  simp only [givesIf] at hv
  obtain ⟨t, rfl, rfl, rfl, rfl, ht⟩ := hv
  have hmo := ht.mo
  simp only [outs_D]
  simp (config := {dsimp := false}) only [↓vp0, vz, vn, nq, tys, cellD, wideIR, if_true, if_false, implies_true, forall_const, ne_eq, reduceIte, reduceCtorEq, Nat.reduceEqDiff, Nat.reduceAdd, Nat.reduceMul, Nat.reduceLT, Nat.reduceSub, Nat.reduceLeDiff, Nat.reduceBNe, Nat.reduceBEq, Nat.reduceBeqDiff, List.range, List.range.loop, gl0, Tryd.ntmps8, Tryd.results8]
  refine loopI {p : Nat × Int // p.1 ≤ t.outs.length ∧ sumG 0 (t.outs.take p.1) = some p.2 ∧ 0 ≤ p.2 ∧ p.2 ≤ 2100000000000000} (fun p => [(10, .int .i64 (p.1.1 : Nat)), (9, .int .i64 (t.outs.length : Nat)), (8, .sl .no 2 (outsD t.outs)), (4, .int .i64 p.1.2), (1, .bp 0 0)]) (fun _ => ⟨[(0, .agg [.int .u32 t.ver, .sl .no 36 (insD t.ins), .sl .no 2 (outsD t.outs), .int .u32 t.lock])], [], 32⟩) (fun p => t.outs.length - p.1.1) ⟨(0, 0), by simp [sumG]⟩ (fun _ => rfl) ?_ ?_
  · exact ⟨⟨wkD_eq rfl, rfl, wkD_eq rfl, rfl, wkD_eq rfl, rfl, wkD_eq rfl, rfl, wkD_eq rfl, rfl, trivial⟩, ⟨rfl, Nat.le_of_ble_eq_true rfl, rfl, trivial⟩, trivial⟩
  rintro ⟨⟨k, s⟩, hk, hs, hs0, hs1⟩
  simp only at hk hs hs0 hs1
  simp (config := {dsimp := false}) only [↓vp0, vz, vn, nq, tys, cellD, wideIR, if_true, if_false, implies_true, forall_const, ne_eq, reduceIte, reduceCtorEq, Nat.reduceEqDiff, Nat.reduceAdd, Nat.reduceMul, Nat.reduceLT, Nat.reduceSub, Nat.reduceLeDiff, Nat.reduceBNe, Nat.reduceBEq, Nat.reduceBeqDiff, List.range, List.range.loop, gl0, Tryd.ntmps8, Tryd.results8]
  refine ⟨fun hh => ?_, fun hh => ?_⟩
  case refine_2 =>
    have hh := of_decide_eq_false hh
    obtain rfl : k = t.outs.length := by omega
    rw [List.take_of_length_le (Nat.le_refl _)] at hs
    simp (config := {dsimp := false}) only [↓vp0, vz, vn, nq, tys, cellD, wideIR, if_true, if_false, implies_true, forall_const, ne_eq, reduceIte, reduceCtorEq, Nat.reduceEqDiff, Nat.reduceAdd, Nat.reduceMul, Nat.reduceLT, Nat.reduceSub, Nat.reduceLeDiff, Nat.reduceBNe, Nat.reduceBEq, Nat.reduceBeqDiff, List.range, List.range.loop, gl0, Tryd.ntmps8, Tryd.results8, hs, sumV, givesIf]
    all_goals rfl
  have hh := of_decide_eq_true hh
  have hk' : k < t.outs.length := by omega
  have g0 := outsD_get t.outs k hk'
  have hno := sumG_no hk' hs
  have hyes := sumG_step hk' hs
  have hv64 := (ht.outs _ (getD_memI hk')).value
  generalize t.outs.getD k default = x at *
  by_cases c1 : x.value < 0
  · have d1 : decide (x.value < 0) = true := decide_eq_true c1
    simp (config := {dsimp := false}) only [↓vp0, vz, vn, nq, tys, cellD, wideIR, if_true, if_false, implies_true, forall_const, ne_eq, reduceIte, reduceCtorEq, Nat.reduceEqDiff, Nat.reduceAdd, Nat.reduceMul, Nat.reduceLT, Nat.reduceSub, Nat.reduceLeDiff, Nat.reduceBNe, Nat.reduceBEq, Nat.reduceBeqDiff, List.range, List.range.loop, gl0, Tryd.ntmps8, Tryd.results8, Int.toNat_natCast, g0, outD, d1, hno (.inl c1), sumV, givesIf]
    exact ⟨by omega, by omega⟩
  have d1 : decide (x.value < 0) = false := decide_eq_false c1
  by_cases c2 : 2100000000000000 < x.value
  · have d2 : decide (2100000000000000 < x.value) = true := decide_eq_true c2
    simp (config := {dsimp := false}) only [↓vp0, vz, vn, nq, tys, cellD, wideIR, if_true, if_false, implies_true, forall_const, ne_eq, reduceIte, reduceCtorEq, Nat.reduceEqDiff, Nat.reduceAdd, Nat.reduceMul, Nat.reduceLT, Nat.reduceSub, Nat.reduceLeDiff, Nat.reduceBNe, Nat.reduceBEq, Nat.reduceBeqDiff, List.range, List.range.loop, gl0, Tryd.ntmps8, Tryd.results8, Int.toNat_natCast, g0, outD, d1, d2, hno (.inr (.inl c2)), sumV, givesIf]
    exact ⟨by omega, by omega⟩
  have d2 : decide (2100000000000000 < x.value) = false := decide_eq_false c2
  have hw : IntKind.wrap .i64 (s + x.value) = s + x.value := wrapI64 (by omega) (by omega)
  by_cases c3 : 2100000000000000 < s + x.value
  · have d3 : decide (2100000000000000 < s + x.value) = true := decide_eq_true c3
    simp (config := {dsimp := false}) only [↓vp0, vz, vn, nq, tys, cellD, wideIR, if_true, if_false, implies_true, forall_const, ne_eq, reduceIte, reduceCtorEq, Nat.reduceEqDiff, Nat.reduceAdd, Nat.reduceMul, Nat.reduceLT, Nat.reduceSub, Nat.reduceLeDiff, Nat.reduceBNe, Nat.reduceBEq, Nat.reduceBeqDiff, List.range, List.range.loop, gl0, Tryd.ntmps8, Tryd.results8, Int.toNat_natCast, g0, outD, d1, d2, hw, d3, hno (.inr (.inr c3)), sumV, givesIf]
    exact ⟨by omega, by omega⟩
  have d3 : decide (2100000000000000 < s + x.value) = false := decide_eq_false c3
  simp (config := {dsimp := false}) only [↓vp0, vz, vn, nq, tys, cellD, wideIR, if_true, if_false, implies_true, forall_const, ne_eq, reduceIte, reduceCtorEq, Nat.reduceEqDiff, Nat.reduceAdd, Nat.reduceMul, Nat.reduceLT, Nat.reduceSub, Nat.reduceLeDiff, Nat.reduceBNe, Nat.reduceBEq, Nat.reduceBeqDiff, List.range, List.range.loop, gl0, Tryd.ntmps8, Tryd.results8, Int.toNat_natCast, g0, outD, d1, d2, d3, hw]
  refine ⟨by omega, by omega, ⟨(k + 1, s + x.value), by simp only; omega, hyes ?_, by simp only; omega, by simp only; omega⟩, ⟨⟨wkD_eq ?_, rfl, wkD_eq rfl, rfl, wkD_eq rfl, rfl, wkD_eq rfl, rfl, wkD_eq rfl, rfl, trivial⟩, ⟨rfl, Nat.le_of_ble_eq_true rfl, rfl, trivial⟩, trivial⟩, by (try simp only); omega⟩
  · unfold badO; omega
  · exact some_i64 (by (try simp only); omega)
theorem c_cval : Contract E 41 := by
  refine contract_seeT hE hgl (show E.P.funcs[41]? = some Tryd.f41 from Tryd.func41) rfl (p := sp_cval) (fun _ _ _ => rfl) ?_
  intro args hv
  unfold sp_cval at hv ⊢
  split at hv
  case h_2 => exact hv.elim
  rename_i v is os l
  refine ⟨by simp, Nat.le_of_ble_eq_true rfl, ?_⟩
  simp only [givesIf] at hv
  obtain ⟨t, rfl, rfl, rfl, rfl, ht⟩ := hv
  rw [tx_eta]
  cases h : sumG 0 t.outs
  · have hb : badP t = true := by unfold badP; rw [h]; rfl
    simp (config := {dsimp := false}) only [↓vp0, vz, vn, nq, tys, cellD, wideIR, if_true, if_false, implies_true, forall_const, ne_eq, reduceIte, reduceCtorEq, Nat.reduceEqDiff, Nat.reduceAdd, Nat.reduceMul, Nat.reduceLT, Nat.reduceSub, Nat.reduceLeDiff, Nat.reduceBNe, Nat.reduceBEq, Nat.reduceBeqDiff, List.range, List.range.loop, gl0, Tryd.ntmps41, Tryd.results41, PF.toR, givesIf, outs_D, h, hb, sumV, spec_csum, sp_csum, c_csum, b_csum]
    exact anyT_tx ht
  · have hb : badP t = false := by unfold badP; rw [h]; rfl
    simp (config := {dsimp := false}) only [↓vp0, vz, vn, nq, tys, cellD, wideIR, if_true, if_false, implies_true, forall_const, ne_eq, reduceIte, reduceCtorEq, Nat.reduceEqDiff, Nat.reduceAdd, Nat.reduceMul, Nat.reduceLT, Nat.reduceSub, Nat.reduceLeDiff, Nat.reduceBNe, Nat.reduceBEq, Nat.reduceBeqDiff, List.range, List.range.loop, gl0, Tryd.ntmps41, Tryd.results41, PF.toR, givesIf, outs_D, h, hb, sumV, spec_csum, sp_csum, c_csum, b_csum]
    exact anyT_tx ht
end Go.Vi.CK
end

section
set_option linter.unusedVariables false
set_option linter.unusedSimpArgs false
namespace Go.Proofs
open Go.RowKit Go.Shelf Go.Maps Go.Vi
attribute [local go_sem] Oper.semAt_some
def Tryd.zin : Array Value := #[.int .u8 0, .int .u8 0, .int .u8 0, .int .u8 0, .int .u8 0, .int .u8 0, .int .u8 0, .int .u8 0, .int .u8 0, .int .u8 0, .int .u8 0, .int .u8 0, .int .u8 0, .int .u8 0, .int .u8 0, .int .u8 0, .int .u8 0, .int .u8 0, .int .u8 0, .int .u8 0, .int .u8 0, .int .u8 0, .int .u8 0, .int .u8 0, .int .u8 0, .int .u8 0, .int .u8 0, .int .u8 0, .int .u8 0, .int .u8 0, .int .u8 0, .int .u8 0, .int .u32 0, .slice none 0 0, .int .u32 0, .slice none 0 0]
theorem Tryd.lay_ok : laidOutB Tryd.prog = true := by kernel_rfl
theorem Tryd.key_row : (48 : TypeId) < Tryd.prog.types.size := of_decide_eq_true (by kernel_rfl)
theorem Tryd.key_law : Go.WideMaps.KeyLaw Tryd.prog 48 := deep_law_laid Tryd.lay_ok (m := 3) (by omega) Tryd.key_row (by kernel_rfl) (by kernel_rfl)
theorem Tryd.key_keyed : Keyed Tryd.prog 48 := Keyed.of_law Tryd.key_law
theorem Tryd.zero_int (w : World) : (zeroValue 3).run Tryd.prog w = .ok (.int .i64 0) w := by kernel_rfl
theorem Tryd.agg_in (w : World) : (isAgg 52).run Tryd.prog w = .ok true w := by kernel_rfl
theorem Tryd.agg_op (w : World) : (isAgg 48).run Tryd.prog w = .ok true w := by kernel_rfl
theorem Tryd.info_in : (Tryd.prog.info? 52).map (fun i => (i.zero, i.size)) = some (some (.agg Tryd.zin), 36) := by kernel_rfl
theorem Tryd.info_op : (Tryd.prog.info? 48).map (fun i => (i.zero, i.size)) = some (some (.agg (Tryd.zin.extract 0 33)), 33) := by kernel_rfl
theorem hbx0_of {wr : World} {o : Obj} {b off : Nat} {v : Value} (h : wr.cell? ⟨b, off, none⟩ = some v) : (World.drew (wr.alloc o)).cell? ⟨b, off, none⟩ = some v := by
  have hb : b < wr.heap.size := by
    rcases Nat.lt_or_ge b wr.heap.size with h1 | h1
    · exact h1
    · simp [World.cell?, Array.getElem?_eq_none h1] at h
  exact (((Below.refl wr.heap.size wr).alloc (Nat.le_refl _) o).drew.cell (p := ⟨b, off, none⟩) hb).trans h
theorem grown_cell {w w' : World} {r b o : Nat} {v : Value} (hg : w.grownBy w' (some r)) (h : w.cell? ⟨b, o, none⟩ = some v) (hne : b ≠ r) : w'.cell? ⟨b, o, none⟩ = some v := by
  have hb : b < w.heap.size := by
    rcases Nat.lt_or_ge b w.heap.size with h1 | h1
    · exact h1
    · simp [World.cell?, Array.getElem?_eq_none h1] at h
  unfold World.cell? at h ⊢
  rw [hg.block b hb (by simpa using hne)]
  exact h
theorem cell_two (w : World) (xs : Array Value) (T : TypeId) (o : Obj) (j : Nat) (v : Value) (h : xs[j]? = some v) : ((w.alloc (.cells xs T)).alloc o).cell? ⟨w.heap.size, j, none⟩ = some v := by
  have h1 : ((w.alloc (.cells xs T)).alloc o).heap[w.heap.size]? = some (.cells xs T (0, 0)) := by rw [Below.heap_alloc _ _ _ (by simp)]; exact World.alloc_heap_new w _
  rw [cell_of_row _ _ j _ _ (0, 0) h1]; exact h
theorem wrap_wf (x : Int) : (Lit.int .i64 (IntKind.i64.wrap x)).wf = true := by
  simp only [Lit.wf, Bool.and_eq_true, decide_eq_true_eq, show IntKind.i64.min = -9223372036854775808 from rfl, show IntKind.i64.max = 9223372036854775807 from rfl]
  rw [IntKind.wrap_i64]; omega
set_option maxRecDepth 100000 in
set_option maxHeartbeats 2000000 in
theorem Tryd.double_w (Kl : Nat → Lit) (v0 v3 os : Value) (a : Option Addr) (b off len cap : Nat) (cs : Nat → List Value) (w : World) (hlen : len ≤ cap) (hb2 : len < 1000000000) (hb : len ≠ 0 → b < w.heap.size) (hsome : len ≠ 0 → a = some ⟨b, off, none⟩)
    (hcl : ∀ k, k < len → (cs k).length = 36) (hc : ∀ k, k < len → ∀ j v, (cs k)[j]? = some v → w.cell? ⟨b, off + k * 36 + j, none⟩ = some v) (hone : ∀ k, k < len → (cs k).toArray.all (·.oneCell') = true)
    (hkey : ∀ k, k < len → keyOf Tryd.prog 48 (.agg ((cs k).take 33).toArray) = some (Kl k)) :
    Calls Tryd.prog 39 #[.agg #[v0, .slice a len cap, os, v3]] w fun e w' => ∃ D : DataW Unit, Counted D ((List.range len).map Kl) ∧ e = .returned (.bool (decide (Maps.size D < len))) ∧ Below w.heap.size w w' := by
  have hmm := @run_makeMap Tryd.prog
  refine calls_of_wp Tryd.func39 rfl ?_
  simp only [Tryd.ntmps39, List.size_toArray, List.length_cons, List.length_nil, Nat.reduceAdd, Nat.reduceSub, Array.replicate_succ, Array.replicate_zero, List.push_toArray, List.append_toArray, List.nil_append, List.cons_append]
  go_wp2
  go_loopw [10] (fun i wr => ∃ (k : Nat) (D : DataW Unit), k ≤ len ∧ i = .int .i64 (k : Int) ∧ Counted D ((List.range k).map Kl) ∧ wr.ownsMap Tryd.prog 48 (plainElem Tryd.prog 3) (w.heap.size + 1) k D ∧ wr.cell? ⟨w.heap.size, 1, none⟩ = some (.slice a len cap) ∧ Below w.heap.size w wr)
    (fun i _ => len - (intOf i).toNat)
  case atStart => exact ⟨0, .map [], Nat.zero_le _, rfl, counted_nil, (by have := World.ownsMap_made (w.alloc (.cells #[v0, .slice a len cap, os, v3] 26)) Tryd.prog 48 (plainElem (H := Unit) Tryd.prog 3); rwa [World.size_alloc] at this), cell_two w _ _ _ 1 _ rfl, ((Below.refl _ _).alloc (Nat.le_refl _) _).alloc (by rw [World.size_alloc]; exact Nat.le_succ _) _⟩
  case round =>
    obtain ⟨k, D, hk, rfl, hcnt, hown, hbx, hnx⟩ := hrel
    by_cases hlt : k < len
    · obtain rfl := hsome (by omega)
      have hbb := hb (by omega)
      have hld : (Instr.loadAt 52 (.pointer (some ⟨b, off + k * 36, none⟩))).run Tryd.prog wr = .ok (.agg (cs k).toArray) wr :=
        loadW (Tryd.agg_in wr) Tryd.info_in (hcl k hlt) fun j v hv => (hnx.cell (p := ⟨b, off + k * 36 + j, none⟩) hbb).trans (hc k hlt j v hv)
      have hst := run_storeAt_new (P := Tryd.prog) wr 52 Tryd.zin (cs k).toArray (by rw [List.size_toArray, hcl k hlt]; kernel_rfl) (Eq.trans (b := 36) (by kernel_rfl) (by rw [List.size_toArray, hcl k hlt])) (hone k hlt)
      have hkk := hkey k hlt
      go_wp2_with (first
        | (refine wpList_load_eq _ rfl 52 _ rfl (.pointer (some ⟨b, off + k * 36, none⟩)) (.agg (cs k).toArray) rfl hld ?_)
        | (refine wpList_store_eq _ rfl 52 _ _ rfl (.pointer (some ⟨wr.heap.size, 0, none⟩)) (.agg (cs k).toArray) rfl rfl _ hst ?_))
      have hp0 : (World.drew (wr.alloc (.cells (cs k).toArray 52))).heap[wr.heap.size]? = some (.cells (cs k).toArray 52 (0, 0)) := World.alloc_heap_new wr _
      have hown0 : (World.drew (wr.alloc (.cells (cs k).toArray 52))).ownsMap Tryd.prog 48 (plainElem Tryd.prog 3) (w.heap.size + 1) k D := (hown.alloc _).drew
      have hnx0 : Below w.heap.size w (World.drew (wr.alloc (.cells (cs k).toArray 52))) := (hnx.alloc hnx.size _).drew
      have hbx0 : (World.drew (wr.alloc (.cells (cs k).toArray 52))).cell? ⟨w.heap.size, 1, none⟩ = some (.slice (some ⟨b, off, none⟩) len cap) := hbx0_of hbx
      refine wp_region_any (by kernel_rfl) ?_
      change wpAny _ _ _ _ _ _ _ (World.drew _)
      generalize World.drew (wr.alloc (.cells (cs k).toArray 52)) = W at *
      have hld2 : (Instr.loadAt 48 (.pointer (some ⟨wr.heap.size, 0, none⟩))).run Tryd.prog W = .ok (.agg ((cs k).take 33).toArray) W :=
        loadW (Tryd.agg_op W) Tryd.info_op (by rw [List.length_take, hcl k hlt]; rfl) fun j v hv => by
          rw [Nat.zero_add, cell_of_row W wr.heap.size j _ _ (0, 0) hp0]
          have hj : j < 33 := by
            have := (List.getElem?_eq_some_iff.1 hv).1
            rw [List.length_take] at this; omega
          rw [List.getElem?_take_of_lt hj] at hv
          simpa using hv
      obtain ⟨c0, hl0, -, hw0⟩ := hown0.lookup_int Tryd.key_keyed Tryd.underlying91 Tryd.underlying3 (Tryd.zero_int W) hkk
      obtain ⟨z0, st, W1, hE, ⟨D1, hown1⟩, hg1, hS⟩ := entry3 Tryd.key_law Tryd.underlying91 Tryd.underlying3 Tryd.zero_int hown0 (by unfold maxLen; omega) hkk
      obtain ⟨c1, hl1, -, hw1⟩ := hown1.lookup_int Tryd.key_keyed Tryd.underlying91 Tryd.underlying3 (Tryd.zero_int W1) hkk
      refine wpAny_take (i := 0) (v := .map (some (w.heap.size + 1))) rfl (by kernel_rfl) (by kernel_rfl) (by kernel_rfl) (fun _ _ _ h => h) (Or.inl ⟨by rfl, fun w => by rfl⟩) ?_
      refine wpAny_as ⟨#[.agg #[v0, .slice (some ⟨b, off, none⟩) len cap, os, v3], .pointer (some ⟨w.heap.size, 0, none⟩), .bool false, .map (some (w.heap.size + 1)), undef, .pointer (some ⟨wr.heap.size, 0, none⟩), .map (some (w.heap.size + 1)), .pointer (some ⟨w.heap.size, 1, none⟩), .slice (some ⟨b, off, none⟩) len cap, .int .i64 len, .int .i64 k, .bool true, .pointer (some ⟨b, off + k * 36, none⟩), .agg (cs k).toArray, .map (some (w.heap.size + 1)), u15, u16, u17, u18, u19, u20, u21, undef, undef, undef, undef, undef, undef], []⟩ (by rfl) ?_
      refine wpAny_take (i := 1) (v := .pointer (some ⟨wr.heap.size, 0, none⟩)) rfl (by kernel_rfl) (by kernel_rfl) (by kernel_rfl) (fun _ _ _ h => h) (Or.inl ⟨by rfl, fun w => by go_simp⟩) ?_
      refine wpAny_as ⟨#[.agg #[v0, .slice (some ⟨b, off, none⟩) len cap, os, v3], .pointer (some ⟨w.heap.size, 0, none⟩), .bool false, .map (some (w.heap.size + 1)), undef, .pointer (some ⟨wr.heap.size, 0, none⟩), .map (some (w.heap.size + 1)), .pointer (some ⟨w.heap.size, 1, none⟩), .slice (some ⟨b, off, none⟩) len cap, .int .i64 len, .int .i64 k, .bool true, .pointer (some ⟨b, off + k * 36, none⟩), .agg (cs k).toArray, .map (some (w.heap.size + 1)), .pointer (some ⟨wr.heap.size, 0, none⟩), u16, u17, u18, u19, u20, u21, undef, undef, undef, undef, undef, undef], []⟩ (by rfl) ?_
      refine wpAny_ready (rs := [2]) (by kernel_rfl) (by simp) (any_step (v := .agg ((cs k).take 33).toArray) rfl rfl (w' := W) (exec_load rfl rfl hld2) ?_ AllReady.nil)
      refine wpAny_as ⟨#[.agg #[v0, .slice (some ⟨b, off, none⟩) len cap, os, v3], .pointer (some ⟨w.heap.size, 0, none⟩), .bool false, .map (some (w.heap.size + 1)), undef, .pointer (some ⟨wr.heap.size, 0, none⟩), .map (some (w.heap.size + 1)), .pointer (some ⟨w.heap.size, 1, none⟩), .slice (some ⟨b, off, none⟩) len cap, .int .i64 len, .int .i64 k, .bool true, .pointer (some ⟨b, off + k * 36, none⟩), .agg (cs k).toArray, .map (some (w.heap.size + 1)), .pointer (some ⟨wr.heap.size, 0, none⟩), .agg ((cs k).take 33).toArray, u17, u18, u19, u20, u21, undef, undef, undef, undef, undef, undef], []⟩ (by rfl) ?_
      refine wpAny_ready (rs := [3, 5]) (by kernel_rfl) (by simp) (any_step (v := .int .i64 c0) rfl rfl (w' := W) (exec_lookup (mv := .map (some (w.heap.size + 1))) (key := .agg ((cs k).take 33).toArray) rfl rfl rfl hl0) ?_ (any_step (v := .tuple #[z0, goInt st]) rfl rfl (w' := W1) (exec_entry (mv := .map (some (w.heap.size + 1))) (key := .agg ((cs k).take 33).toArray) rfl rfl rfl hE) ?_ AllReady.nil))
      · refine wpAny_take (i := 4) (v := .int .i64 (IntKind.i64.wrap (c0 + 1))) rfl (by kernel_rfl) (by kernel_rfl) (by kernel_rfl) (fun _ _ _ h => h) (Or.inl ⟨by rfl, fun w => by go_simp⟩) ?_
        refine wpAny_as ⟨#[.agg #[v0, .slice (some ⟨b, off, none⟩) len cap, os, v3], .pointer (some ⟨w.heap.size, 0, none⟩), .bool false, .map (some (w.heap.size + 1)), undef, .pointer (some ⟨wr.heap.size, 0, none⟩), .map (some (w.heap.size + 1)), .pointer (some ⟨w.heap.size, 1, none⟩), .slice (some ⟨b, off, none⟩) len cap, .int .i64 len, .int .i64 k, .bool true, .pointer (some ⟨b, off + k * 36, none⟩), .agg (cs k).toArray, .map (some (w.heap.size + 1)), .pointer (some ⟨wr.heap.size, 0, none⟩), .agg ((cs k).take 33).toArray, .int .i64 c0, .int .i64 (IntKind.i64.wrap (c0 + 1)), u19, u20, u21, undef, undef, undef, undef, undef, undef], []⟩ (by rfl) ?_
        refine wpAny_ready (rs := [5]) (by kernel_rfl) (by simp) (any_step (v := .tuple #[z0, goInt st]) rfl rfl (w' := W1) (exec_entry (mv := .map (some (w.heap.size + 1))) (key := .agg ((cs k).take 33).toArray) rfl rfl rfl hE) ?_ AllReady.nil)
        refine wpAny_as ⟨#[.agg #[v0, .slice (some ⟨b, off, none⟩) len cap, os, v3], .pointer (some ⟨w.heap.size, 0, none⟩), .bool false, .map (some (w.heap.size + 1)), undef, .pointer (some ⟨wr.heap.size, 0, none⟩), .map (some (w.heap.size + 1)), .pointer (some ⟨w.heap.size, 1, none⟩), .slice (some ⟨b, off, none⟩) len cap, .int .i64 len, .int .i64 k, .bool true, .pointer (some ⟨b, off + k * 36, none⟩), .agg (cs k).toArray, .map (some (w.heap.size + 1)), .pointer (some ⟨wr.heap.size, 0, none⟩), .agg ((cs k).take 33).toArray, .int .i64 c0, .int .i64 (IntKind.i64.wrap (c0 + 1)), .tuple #[z0, goInt st], u20, u21, undef, undef, undef, undef, undef, undef], []⟩ (by rfl) ?_
        refine wpAny_take (i := 6) (v := goInt st) rfl (by kernel_rfl) (by kernel_rfl) (by kernel_rfl) (fun _ _ _ h => h) (Or.inl ⟨by rfl, fun w => by go_simp⟩) ?_
        refine wpAny_as ⟨#[.agg #[v0, .slice (some ⟨b, off, none⟩) len cap, os, v3], .pointer (some ⟨w.heap.size, 0, none⟩), .bool false, .map (some (w.heap.size + 1)), undef, .pointer (some ⟨wr.heap.size, 0, none⟩), .map (some (w.heap.size + 1)), .pointer (some ⟨w.heap.size, 1, none⟩), .slice (some ⟨b, off, none⟩) len cap, .int .i64 len, .int .i64 k, .bool true, .pointer (some ⟨b, off + k * 36, none⟩), .agg (cs k).toArray, .map (some (w.heap.size + 1)), .pointer (some ⟨wr.heap.size, 0, none⟩), .agg ((cs k).take 33).toArray, .int .i64 c0, .int .i64 (IntKind.i64.wrap (c0 + 1)), .tuple #[z0, goInt st], goInt st, u21, undef, undef, undef, undef, undef, undef], []⟩ (by rfl) ?_
        obtain ⟨W4, hS4, hown4, hg4⟩ := hS (IntKind.i64.wrap (c0 + 1)) (wrap_wf _)
        refine wpAny_ready (rs := [7]) (by kernel_rfl) (by simp) (any_skip rfl rfl (w' := W4) (exec_entryStore (mv := .map (some (w.heap.size + 1))) (st := goInt st) (v := .int .i64 (IntKind.i64.wrap (c0 + 1))) rfl rfl rfl rfl hS4) ?_ AllReady.nil)
        refine wpAny_done (by kernel_rfl) ?_ _
        go_wp2
        go_roundw
        case rel => exact ⟨k + 1, D.put (Kl k) (.lit (.int .i64 (IntKind.i64.wrap (c0 + 1)))), by omega, by go_num, by rw [List.range_succ, List.map_append]; exact counted_step _ (Tryd.key_keyed.key hkk) hcnt, hown4, (grown_cell hg4 hbx0 (by omega)), hnx0.grown hg4 hnx0.size (fun j hj => by cases hj; exact Nat.le_succ _)⟩
        case measure => simp [intOf]; omega
      · refine wpAny_take (i := 6) (v := goInt st) rfl (by kernel_rfl) (by kernel_rfl) (by kernel_rfl) (fun _ _ _ h => h) (Or.inl ⟨by rfl, fun w => by go_simp⟩) ?_
        refine wpAny_as ⟨#[.agg #[v0, .slice (some ⟨b, off, none⟩) len cap, os, v3], .pointer (some ⟨w.heap.size, 0, none⟩), .bool false, .map (some (w.heap.size + 1)), undef, .pointer (some ⟨wr.heap.size, 0, none⟩), .map (some (w.heap.size + 1)), .pointer (some ⟨w.heap.size, 1, none⟩), .slice (some ⟨b, off, none⟩) len cap, .int .i64 len, .int .i64 k, .bool true, .pointer (some ⟨b, off + k * 36, none⟩), .agg (cs k).toArray, .map (some (w.heap.size + 1)), .pointer (some ⟨wr.heap.size, 0, none⟩), .agg ((cs k).take 33).toArray, u17, u18, .tuple #[z0, goInt st], goInt st, u21, undef, undef, undef, undef, undef, undef], []⟩ (by rfl) ?_
        refine wpAny_ready (rs := [3]) (by kernel_rfl) (by simp) (any_step (v := .int .i64 c1) rfl rfl (w' := W1) (exec_lookup (mv := .map (some (w.heap.size + 1))) (key := .agg ((cs k).take 33).toArray) rfl rfl rfl hl1) ?_ AllReady.nil)
        refine wpAny_as ⟨#[.agg #[v0, .slice (some ⟨b, off, none⟩) len cap, os, v3], .pointer (some ⟨w.heap.size, 0, none⟩), .bool false, .map (some (w.heap.size + 1)), undef, .pointer (some ⟨wr.heap.size, 0, none⟩), .map (some (w.heap.size + 1)), .pointer (some ⟨w.heap.size, 1, none⟩), .slice (some ⟨b, off, none⟩) len cap, .int .i64 len, .int .i64 k, .bool true, .pointer (some ⟨b, off + k * 36, none⟩), .agg (cs k).toArray, .map (some (w.heap.size + 1)), .pointer (some ⟨wr.heap.size, 0, none⟩), .agg ((cs k).take 33).toArray, .int .i64 c1, u18, .tuple #[z0, goInt st], goInt st, u21, undef, undef, undef, undef, undef, undef], []⟩ (by rfl) ?_
        refine wpAny_take (i := 4) (v := .int .i64 (IntKind.i64.wrap (c1 + 1))) rfl (by kernel_rfl) (by kernel_rfl) (by kernel_rfl) (fun _ _ _ h => h) (Or.inl ⟨by rfl, fun w => by go_simp⟩) ?_
        refine wpAny_as ⟨#[.agg #[v0, .slice (some ⟨b, off, none⟩) len cap, os, v3], .pointer (some ⟨w.heap.size, 0, none⟩), .bool false, .map (some (w.heap.size + 1)), undef, .pointer (some ⟨wr.heap.size, 0, none⟩), .map (some (w.heap.size + 1)), .pointer (some ⟨w.heap.size, 1, none⟩), .slice (some ⟨b, off, none⟩) len cap, .int .i64 len, .int .i64 k, .bool true, .pointer (some ⟨b, off + k * 36, none⟩), .agg (cs k).toArray, .map (some (w.heap.size + 1)), .pointer (some ⟨wr.heap.size, 0, none⟩), .agg ((cs k).take 33).toArray, .int .i64 c1, .int .i64 (IntKind.i64.wrap (c1 + 1)), .tuple #[z0, goInt st], goInt st, u21, undef, undef, undef, undef, undef, undef], []⟩ (by rfl) ?_
        obtain ⟨W4, hS4, hown4, hg4⟩ := hS (IntKind.i64.wrap (c1 + 1)) (wrap_wf _)
        refine wpAny_ready (rs := [7]) (by kernel_rfl) (by simp) (any_skip rfl rfl (w' := W4) (exec_entryStore (mv := .map (some (w.heap.size + 1))) (st := goInt st) (v := .int .i64 (IntKind.i64.wrap (c1 + 1))) rfl rfl rfl rfl hS4) ?_ AllReady.nil)
        refine wpAny_done (by kernel_rfl) ?_ _
        go_wp2
        go_roundw
        case rel => exact ⟨k + 1, D.put (Kl k) (.lit (.int .i64 (IntKind.i64.wrap (c1 + 1)))), by omega, by go_num, by rw [List.range_succ, List.map_append]; exact counted_step _ (Tryd.key_keyed.key hkk) hcnt, hown4, (grown_cell hg4 hbx0 (by omega)), hnx0.grown hg4 hnx0.size (fun j hj => by cases hj; exact Nat.le_succ _)⟩
        case measure => simp [intOf]; omega
    · obtain rfl : k = len := by omega
      go_wp2_with (first
        | (at_len; refine wpList_len_own _ rfl _ _ rfl 48 3 Tryd.underlying91 (plainElem Tryd.prog 3) (w.heap.size + 1) k D rfl hown ?_))
      go_ret
      exact ⟨D, hcnt, by simp, hnx⟩
end Go.Proofs
namespace Go.Vi.CK
open Go.Proofs Go.RowKit Go.Maps
set_option maxRecDepth 100000 in
theorem key_of (x : InP) (hx : x.Ok) : ∃ kl, keyOf Tryd.prog 48 (keyV x) = some kl :=
  key_some (P := Tryd.prog) (K := 48) (A := 32) (B := 5) (U := 22) Tryd.underlying48 Tryd.underlying32 Tryd.underlying5 Tryd.underlying22 (by kernel_rfl) (by kernel_rfl) (by kernel_rfl) (by kernel_rfl)
    (fun f hf => by simp at hf; rcases hf with rfl | rfl <;> simp) (by simp) (by kernel_rfl) ⟨Tryd.prog.types.size - 2, by kernel_rfl⟩ hx.prev hx.pby hx.ix
theorem key_fun : ∃ KL : InP → Lit, ∀ x, x.Ok → keyOf Tryd.prog 48 (keyV x) = some (KL x) :=
  ⟨fun x => (keyOf Tryd.prog 48 (keyV x)).getD (.bool false), fun x hx => by
    obtain ⟨kl, h⟩ := key_of x hx
    simp only [h, Option.getD_some]⟩
theorem one_ints (p : List Int) : ∀ v ∈ ints .u8 p, v.oneCell' = true := by
  intro v hv
  obtain ⟨n, _, rfl⟩ := List.mem_map.1 hv
  rfl
theorem map_get {α β : Type} [Inhabited α] (f : α → β) (l : List α) : (List.range l.length).map (fun k => f (l.getD k default)) = l.map f := by
  apply List.ext_getElem
  · simp
  · intro i h1 h2
    simp at h1
    simp [List.getD, h1]
theorem c_double : Contract E 39 := by
  obtain ⟨keyL, key_L⟩ := key_fun
  refine contract_callsT (p := sp_double) (fun _ _ _ => rfl) fun xs hv g w vs hl0 hr => ?_
  unfold sp_double at hv ⊢
  split at hv
  case h_2 => exact hv.elim
  rename_i ve is os l
  obtain ⟨t, rfl, rfl, rfl, rfl, ht, e0⟩ := okT_tx hv
  obtain ⟨v1, r1, rfl, ⟨cs0, rfl, q0, q1, rfl, z0, q2, q3, rfl, z1, q4, q5, rfl, z2, q6, q7, rfl, z3, z4⟩, e3⟩ := hr
  have e3 : r1 = [] := e3
  have z0 : q0 = [.int .u32 t.ver] := z0
  have z3 : q6 = [.int .u32 t.lock] := z3
  have z4 : q7 = [] := z4
  obtain ⟨a, c, vE, rfl, hc, hes, hrow, _⟩ := z1
  obtain ⟨a2, c2, vO, rfl, _⟩ := z2
  subst e3 z0 z3 z4
  have hlen := es_length (insD t.ins) hes
  have eL := insD_length t.ins
  rw [eL] at hlen hc
  have hsome : ∃ b off, (t.ins.length ≠ 0 → a = some ⟨b, off, none⟩) ∧ (t.ins.length ≠ 0 → off + vE.length ≤ g.lim b ∧ At w b off vE) := by
    by_cases h0 : t.ins.length = 0
    · exact ⟨0, 0, fun h => absurd h0 h, fun h => absurd h0 h⟩
    · obtain ⟨b, off, e, h1, h2⟩ := hrow (by intro e; subst e; simp at hlen; omega)
      exact ⟨b, off, fun _ => e, fun _ => ⟨h1, h2⟩⟩
  obtain ⟨b, off, hs1, hs2⟩ := hsome
  have hB : t.ins.length ≠ 0 → b < w.heap.size := fun h0 => by
    obtain ⟨h1, h2⟩ := hs2 h0
    rcases Nat.lt_or_ge b w.heap.size with h | h
    · exact h
    · rw [hl0 b h] at h1; omega
  let cs : Nat → List Value := fun k => (vE.drop (k * 36)).take 36
  have hpart : ∀ k, k < t.ins.length → ∃ p4, cs k = (ints .u8 (t.ins.getD k default).prev ++ [.int .u32 (t.ins.getD k default).ix]) ++ p4 ∧ p4.length = 3 ∧ ∀ v ∈ p4, v.oneCell' = true := fun k hk => by
    obtain ⟨pre, mid, post, e', hpl, hm, hr⟩ := es_at (insD t.ins) k (by rw [eL]; exact hk) hes
    have he : (insD t.ins)[k]'(by rw [eL]; exact hk) = inD (t.ins.getD k default) := by
      rw [← insD_get t.ins k hk]
      simp [List.getD, eL, hk]
    rw [he] at hr
    have hcs : cs k = mid := by
      show (vE.drop (k * 36)).take 36 = mid
      rw [e', List.append_assoc, ← hpl, List.drop_left, ← hm, List.take_left]
    obtain ⟨m0, m1, rfl, ⟨m2, m3, rfl, y0, m4, m5, rfl, y1, y2⟩, m6, m7, rfl, y3, m8, m9, rfl, y4, m10, m11, rfl, y5, y6⟩ := hr
    have y0 : (t.ins.getD k default).prev.length = 32 ∧ m2 = ints .u8 (t.ins.getD k default).prev := y0
    have y1 : m4 = [.int .u32 (t.ins.getD k default).ix] := y1
    have y2 : m5 = [] := y2
    have y4 : m8 = [.int .u32 (t.ins.getD k default).seq] := y4
    have y6 : m11 = [] := y6
    obtain ⟨s1, s2, rfl, -⟩ := y3
    obtain ⟨w1, w2, w3, rfl, -⟩ := y5
    obtain ⟨-, rfl⟩ := y0
    subst y1 y2 y4 y6
    refine ⟨_, by rw [hcs]; simp only [List.append_nil]; rfl, rfl, fun v hv => ?_⟩
    simp only [List.cons_append, List.nil_append, List.mem_cons, List.not_mem_nil, or_false] at hv
    rcases hv with rfl | rfl | rfl <;> rfl
  have hcl : ∀ k, k < t.ins.length → (cs k).length = 36 := fun k hk => by
    obtain ⟨p4, e, h4, _⟩ := hpart k hk
    have hp := (ht.ins _ (getD_memI hk)).prev
    rw [e, List.length_append, List.length_append, h4]; simp only [ints, List.length_map, List.length_cons, List.length_nil]; omega
  have h33 : ∀ k, k < t.ins.length → .agg ((cs k).take 33).toArray = keyV (t.ins.getD k default) := fun k hk => by
    obtain ⟨p4, e, h4, _⟩ := hpart k hk
    have hp := (ht.ins _ (getD_memI hk)).prev
    have h1 : (ints .u8 (t.ins.getD k default).prev ++ [Value.int .u32 (t.ins.getD k default).ix]).length = 33 := by
      rw [List.length_append]; simp only [ints, List.length_map, List.length_cons, List.length_nil]; omega
    rw [e, List.take_append_of_le_length (by omega), List.take_of_length_le (by omega)]
    rfl
  rw [eL]
  refine Calls.mono (Tryd.double_w (fun k => keyL (t.ins.getD k default)) (.int .u32 t.ver) (.int .u32 t.lock) (.slice a2 (outsD t.outs).length c2) a b off t.ins.length c cs w hc ht.mi hB hs1 hcl ?_ ?_ ?_) ?_
  · intro k hk j v hv
    obtain ⟨_, h2⟩ := hs2 (by omega)
    have hj : j < 36 := by
      have := (List.getElem?_eq_some_iff.1 hv).1
      rw [hcl k hk] at this; exact this
    have : vE[k * 36 + j]? = some v := by
      have hv : ((vE.drop (k * 36)).take 36)[j]? = some v := hv
      rw [List.getElem?_take_of_lt hj, List.getElem?_drop] at hv
      exact hv
    have := h2 _ v this
    rw [Nat.add_assoc]; exact this
  · intro k hk
    obtain ⟨p4, e, _, h4⟩ := hpart k hk
    rw [List.all_toArray, List.all_eq_true, e]
    intro v hv
    rcases List.mem_append.1 hv with hv | hv
    · rcases List.mem_append.1 hv with hv | hv
      · exact one_ints _ v hv
      · obtain rfl := List.mem_singleton.1 hv; rfl
    · exact h4 v hv
  · intro k hk
    rw [h33 k hk]
    exact key_L _ (ht.ins _ (getD_memI hk))
  · rintro e w' ⟨D, hcnt, rfl, hb⟩
    refine ⟨_, rfl, ?_, hb⟩
    rw [e0]
    rw [map_get keyL] at hcnt
    obtain ⟨-, -, h3, h4⟩ := hcnt
    rw [List.length_map] at h3 h4
    have hnd : (t.ins.map keyL).Nodup ↔ (t.ins.map keyI).Nodup := nodup_map_iff fun x hx y hy => by
      constructor
      · intro h
        have h1 := key_L _ (ht.ins x hx)
        have h2 := key_L _ (ht.ins y hy)
        rw [h] at h1
        exact keyV_inj (Tryd.key_law.inj h1 h2)
      · intro h
        have h1 := key_L _ (ht.ins x hx)
        have h2 := key_L _ (ht.ins y hy)
        rw [keyI_V h, h2] at h1
        exact (Option.some.inj h1).symm
    have hd : decide (Maps.size D < t.ins.length) = doubleP t := by
      unfold doubleP
      by_cases hn : (t.ins.map keyI).Nodup
      · have := h4.2 (hnd.2 hn)
        rw [decide_eq_true hn, decide_eq_false (by omega)]; rfl
      · have : ¬ Maps.size D = t.ins.length := fun h => hn (hnd.1 (h4.1 h))
        rw [decide_eq_false hn, decide_eq_true (by omega)]; rfl
    rw [hd]
    rfl
end Go.Vi.CK
end

section
set_option linter.unusedVariables false
set_option linter.unusedSimpArgs false
set_option maxHeartbeats 0
set_option maxRecDepth 20000
namespace Go.Vi.CK
open Go.Proofs

theorem c_indexTx : Contract E 61 := by
  refine contract_seeT hE hgl (show E.P.funcs[61]? = some Tryd.f61 from Tryd.func61) rfl (p := (sp_indexTx 10 39 41 18)) (fun _ _ _ => rfl) ?_
  intro args hv
  unfold sp_indexTx at hv ⊢
  split at hv
  case h_2 => exact hv.elim
  rename_i es h
  refine ⟨by simp, Nat.le_of_ble_eq_true rfl, ?_⟩
  simp only [givesIf] at hv
  obtain ⟨hp, l, rfl, hok, hl⟩ := hv
  simp only [txs_D]
  rcases hp with rfl | rfl | rfl | rfl
  · have hpr : predOf 10 39 41 18 10 = baseP := rfl
    rw [hpr]
    obtain ⟨hI1, hI2⟩ := idx_go baseP l
    simp (config := {dsimp := false}) only [↓vp0, vz, vn, nq, tys, cellD, wideIR, if_true, if_false, implies_true, forall_const, ne_eq, reduceIte, reduceCtorEq, Nat.reduceEqDiff, Nat.reduceAdd, Nat.reduceMul, Nat.reduceLT, Nat.reduceSub, Nat.reduceLeDiff, Nat.reduceBNe, Nat.reduceBEq, Nat.reduceBeqDiff, List.range, List.range.loop, gl0, Tryd.ntmps61, Tryd.results61]
    refine loopI {k : Nat // k ≤ l.length ∧ ∀ j, j < k → baseP (l.getD j default) = false} (fun k => [(8, .int .i64 (k.1 : Nat)), (7, .int .i64 (l.length : Nat)), (0, .sl .no 4 (txsD l)), (1, .fn 10 [])]) (fun _ => ⟨[], [], 16⟩) (fun k => l.length - k.1) ⟨0, by simp⟩ (fun _ => rfl) ?_ ?_
    · exact ⟨⟨wkD_eq rfl, rfl, wkD_eq rfl, rfl, wkD_eq rfl, rfl, wkD_eq rfl, rfl, trivial⟩, trivial, trivial⟩
    rintro ⟨k, hk, hb⟩
    simp (config := {dsimp := false}) only [↓vp0, vz, vn, nq, tys, cellD, wideIR, if_true, if_false, implies_true, forall_const, ne_eq, reduceIte, reduceCtorEq, Nat.reduceEqDiff, Nat.reduceAdd, Nat.reduceMul, Nat.reduceLT, Nat.reduceSub, Nat.reduceLeDiff, Nat.reduceBNe, Nat.reduceBEq, Nat.reduceBeqDiff, List.range, List.range.loop, gl0, Tryd.ntmps61, Tryd.results61]
    refine ⟨fun hh => ?_, fun hh => ?_⟩
    · have hh := of_decide_eq_true hh
      have hk' : k < l.length := by omega
      have g1 := txsD_get l k hk'
      have hx := hok _ (getD_memI hk')
      have hc := tx_okT hx
      have ha := anyT_tx hx.any
      cases hp : baseP (l.getD k default)
      · have hpw : True := trivial
        simp (config := {dsimp := false}) only [↓vp0, vz, vn, nq, tys, cellD, wideIR, if_true, if_false, implies_true, forall_const, ne_eq, reduceIte, reduceCtorEq, Nat.reduceEqDiff, Nat.reduceAdd, Nat.reduceMul, Nat.reduceLT, Nat.reduceSub, Nat.reduceLeDiff, Nat.reduceBNe, Nat.reduceBEq, Nat.reduceBeqDiff, List.range, List.range.loop, gl0, Tryd.ntmps61, Tryd.results61, PF.toR, givesIf, Int.toNat_natCast, g1, txD, tx_eta, ins_D, outs_D, hp, hpw, spec_cbase, sp_cbase, c_cbase, b_cbase]
        refine ⟨by omega, by omega, ha, ⟨k + 1, by omega, fun j hj => ?_⟩, ⟨⟨wkD_eq ?_, rfl, wkD_eq rfl, rfl, wkD_eq rfl, rfl, wkD_eq rfl, rfl, trivial⟩, trivial, trivial⟩, by (try simp only); omega⟩
        · rcases Nat.lt_or_ge j k with h7 | h7
          · exact hb j h7
          · obtain rfl : j = k := by omega
            exact hp
        · exact some_i64 (by (try simp only); omega)
      · have hpw : True := trivial
        simp (config := {dsimp := false}) only [↓vp0, vz, vn, nq, tys, cellD, wideIR, if_true, if_false, implies_true, forall_const, ne_eq, reduceIte, reduceCtorEq, Nat.reduceEqDiff, Nat.reduceAdd, Nat.reduceMul, Nat.reduceLT, Nat.reduceSub, Nat.reduceLeDiff, Nat.reduceBNe, Nat.reduceBEq, Nat.reduceBeqDiff, List.range, List.range.loop, gl0, Tryd.ntmps61, Tryd.results61, PF.toR, givesIf, Int.toNat_natCast, g1, txD, tx_eta, ins_D, outs_D, hp, hpw, hI1 k hk' hb hp, spec_cbase, sp_cbase, c_cbase, b_cbase]
        exact ⟨by omega, by omega, ha⟩
    · have hh := of_decide_eq_false hh
      obtain rfl : k = l.length := by omega
      simp (config := {dsimp := false}) only [↓vp0, vz, vn, nq, tys, cellD, wideIR, if_true, if_false, implies_true, forall_const, ne_eq, reduceIte, reduceCtorEq, Nat.reduceEqDiff, Nat.reduceAdd, Nat.reduceMul, Nat.reduceLT, Nat.reduceSub, Nat.reduceLeDiff, Nat.reduceBNe, Nat.reduceBEq, Nat.reduceBeqDiff, List.range, List.range.loop, gl0, Tryd.ntmps61, Tryd.results61, givesIf, hI2 hb]
      all_goals rfl
  · have hpr : predOf 10 39 41 18 39 = doubleP := rfl
    rw [hpr]
    obtain ⟨hI1, hI2⟩ := idx_go doubleP l
    simp (config := {dsimp := false}) only [↓vp0, vz, vn, nq, tys, cellD, wideIR, if_true, if_false, implies_true, forall_const, ne_eq, reduceIte, reduceCtorEq, Nat.reduceEqDiff, Nat.reduceAdd, Nat.reduceMul, Nat.reduceLT, Nat.reduceSub, Nat.reduceLeDiff, Nat.reduceBNe, Nat.reduceBEq, Nat.reduceBeqDiff, List.range, List.range.loop, gl0, Tryd.ntmps61, Tryd.results61]
    refine loopI {k : Nat // k ≤ l.length ∧ ∀ j, j < k → doubleP (l.getD j default) = false} (fun k => [(8, .int .i64 (k.1 : Nat)), (7, .int .i64 (l.length : Nat)), (0, .sl .no 4 (txsD l)), (1, .fn 39 [])]) (fun _ => ⟨[], [], 16⟩) (fun k => l.length - k.1) ⟨0, by simp⟩ (fun _ => rfl) ?_ ?_
    · exact ⟨⟨wkD_eq rfl, rfl, wkD_eq rfl, rfl, wkD_eq rfl, rfl, wkD_eq rfl, rfl, trivial⟩, trivial, trivial⟩
    rintro ⟨k, hk, hb⟩
    simp (config := {dsimp := false}) only [↓vp0, vz, vn, nq, tys, cellD, wideIR, if_true, if_false, implies_true, forall_const, ne_eq, reduceIte, reduceCtorEq, Nat.reduceEqDiff, Nat.reduceAdd, Nat.reduceMul, Nat.reduceLT, Nat.reduceSub, Nat.reduceLeDiff, Nat.reduceBNe, Nat.reduceBEq, Nat.reduceBeqDiff, List.range, List.range.loop, gl0, Tryd.ntmps61, Tryd.results61]
    refine ⟨fun hh => ?_, fun hh => ?_⟩
    · have hh := of_decide_eq_true hh
      have hk' : k < l.length := by omega
      have g1 := txsD_get l k hk'
      have hx := hok _ (getD_memI hk')
      have hc := tx_okT hx
      have ha := anyT_tx hx.any
      cases hp : doubleP (l.getD k default)
      · have hpw : True := trivial
        simp (config := {dsimp := false}) only [↓vp0, vz, vn, nq, tys, cellD, wideIR, if_true, if_false, implies_true, forall_const, ne_eq, reduceIte, reduceCtorEq, Nat.reduceEqDiff, Nat.reduceAdd, Nat.reduceMul, Nat.reduceLT, Nat.reduceSub, Nat.reduceLeDiff, Nat.reduceBNe, Nat.reduceBEq, Nat.reduceBeqDiff, List.range, List.range.loop, gl0, Tryd.ntmps61, Tryd.results61, PF.toR, givesIf, Int.toNat_natCast, g1, txD, tx_eta, ins_D, outs_D, hp, hpw, spec_double, sp_double, c_double, b_double]
        refine ⟨by omega, by omega, hc, ⟨k + 1, by omega, fun j hj => ?_⟩, ⟨⟨wkD_eq ?_, rfl, wkD_eq rfl, rfl, wkD_eq rfl, rfl, wkD_eq rfl, rfl, trivial⟩, trivial, trivial⟩, by (try simp only); omega⟩
        · rcases Nat.lt_or_ge j k with h7 | h7
          · exact hb j h7
          · obtain rfl : j = k := by omega
            exact hp
        · exact some_i64 (by (try simp only); omega)
      · have hpw : True := trivial
        simp (config := {dsimp := false}) only [↓vp0, vz, vn, nq, tys, cellD, wideIR, if_true, if_false, implies_true, forall_const, ne_eq, reduceIte, reduceCtorEq, Nat.reduceEqDiff, Nat.reduceAdd, Nat.reduceMul, Nat.reduceLT, Nat.reduceSub, Nat.reduceLeDiff, Nat.reduceBNe, Nat.reduceBEq, Nat.reduceBeqDiff, List.range, List.range.loop, gl0, Tryd.ntmps61, Tryd.results61, PF.toR, givesIf, Int.toNat_natCast, g1, txD, tx_eta, ins_D, outs_D, hp, hpw, hI1 k hk' hb hp, spec_double, sp_double, c_double, b_double]
        exact ⟨by omega, by omega, hc⟩
    · have hh := of_decide_eq_false hh
      obtain rfl : k = l.length := by omega
      simp (config := {dsimp := false}) only [↓vp0, vz, vn, nq, tys, cellD, wideIR, if_true, if_false, implies_true, forall_const, ne_eq, reduceIte, reduceCtorEq, Nat.reduceEqDiff, Nat.reduceAdd, Nat.reduceMul, Nat.reduceLT, Nat.reduceSub, Nat.reduceLeDiff, Nat.reduceBNe, Nat.reduceBEq, Nat.reduceBeqDiff, List.range, List.range.loop, gl0, Tryd.ntmps61, Tryd.results61, givesIf, hI2 hb]
      all_goals rfl
  · have hpr : predOf 10 39 41 18 41 = badP := rfl
    rw [hpr]
    obtain ⟨hI1, hI2⟩ := idx_go badP l
    simp (config := {dsimp := false}) only [↓vp0, vz, vn, nq, tys, cellD, wideIR, if_true, if_false, implies_true, forall_const, ne_eq, reduceIte, reduceCtorEq, Nat.reduceEqDiff, Nat.reduceAdd, Nat.reduceMul, Nat.reduceLT, Nat.reduceSub, Nat.reduceLeDiff, Nat.reduceBNe, Nat.reduceBEq, Nat.reduceBeqDiff, List.range, List.range.loop, gl0, Tryd.ntmps61, Tryd.results61]
    refine loopI {k : Nat // k ≤ l.length ∧ ∀ j, j < k → badP (l.getD j default) = false} (fun k => [(8, .int .i64 (k.1 : Nat)), (7, .int .i64 (l.length : Nat)), (0, .sl .no 4 (txsD l)), (1, .fn 41 [])]) (fun _ => ⟨[], [], 16⟩) (fun k => l.length - k.1) ⟨0, by simp⟩ (fun _ => rfl) ?_ ?_
    · exact ⟨⟨wkD_eq rfl, rfl, wkD_eq rfl, rfl, wkD_eq rfl, rfl, wkD_eq rfl, rfl, trivial⟩, trivial, trivial⟩
    rintro ⟨k, hk, hb⟩
    simp (config := {dsimp := false}) only [↓vp0, vz, vn, nq, tys, cellD, wideIR, if_true, if_false, implies_true, forall_const, ne_eq, reduceIte, reduceCtorEq, Nat.reduceEqDiff, Nat.reduceAdd, Nat.reduceMul, Nat.reduceLT, Nat.reduceSub, Nat.reduceLeDiff, Nat.reduceBNe, Nat.reduceBEq, Nat.reduceBeqDiff, List.range, List.range.loop, gl0, Tryd.ntmps61, Tryd.results61]
    refine ⟨fun hh => ?_, fun hh => ?_⟩
    · have hh := of_decide_eq_true hh
      have hk' : k < l.length := by omega
      have g1 := txsD_get l k hk'
      have hx := hok _ (getD_memI hk')
      have hc := tx_okT hx
      have ha := anyT_tx hx.any
      cases hp : badP (l.getD k default)
      · have hpw : True := trivial
        simp (config := {dsimp := false}) only [↓vp0, vz, vn, nq, tys, cellD, wideIR, if_true, if_false, implies_true, forall_const, ne_eq, reduceIte, reduceCtorEq, Nat.reduceEqDiff, Nat.reduceAdd, Nat.reduceMul, Nat.reduceLT, Nat.reduceSub, Nat.reduceLeDiff, Nat.reduceBNe, Nat.reduceBEq, Nat.reduceBeqDiff, List.range, List.range.loop, gl0, Tryd.ntmps61, Tryd.results61, PF.toR, givesIf, Int.toNat_natCast, g1, txD, tx_eta, ins_D, outs_D, hp, hpw, spec_cval, sp_cval, c_cval, b_cval]
        refine ⟨by omega, by omega, ha, ⟨k + 1, by omega, fun j hj => ?_⟩, ⟨⟨wkD_eq ?_, rfl, wkD_eq rfl, rfl, wkD_eq rfl, rfl, wkD_eq rfl, rfl, trivial⟩, trivial, trivial⟩, by (try simp only); omega⟩
        · rcases Nat.lt_or_ge j k with h7 | h7
          · exact hb j h7
          · obtain rfl : j = k := by omega
            exact hp
        · exact some_i64 (by (try simp only); omega)
      · have hpw : True := trivial
        simp (config := {dsimp := false}) only [↓vp0, vz, vn, nq, tys, cellD, wideIR, if_true, if_false, implies_true, forall_const, ne_eq, reduceIte, reduceCtorEq, Nat.reduceEqDiff, Nat.reduceAdd, Nat.reduceMul, Nat.reduceLT, Nat.reduceSub, Nat.reduceLeDiff, Nat.reduceBNe, Nat.reduceBEq, Nat.reduceBeqDiff, List.range, List.range.loop, gl0, Tryd.ntmps61, Tryd.results61, PF.toR, givesIf, Int.toNat_natCast, g1, txD, tx_eta, ins_D, outs_D, hp, hpw, hI1 k hk' hb hp, spec_cval, sp_cval, c_cval, b_cval]
        exact ⟨by omega, by omega, ha⟩
    · have hh := of_decide_eq_false hh
      obtain rfl : k = l.length := by omega
      simp (config := {dsimp := false}) only [↓vp0, vz, vn, nq, tys, cellD, wideIR, if_true, if_false, implies_true, forall_const, ne_eq, reduceIte, reduceCtorEq, Nat.reduceEqDiff, Nat.reduceAdd, Nat.reduceMul, Nat.reduceLT, Nat.reduceSub, Nat.reduceLeDiff, Nat.reduceBNe, Nat.reduceBEq, Nat.reduceBeqDiff, List.range, List.range.loop, gl0, Tryd.ntmps61, Tryd.results61, givesIf, hI2 hb]
      all_goals rfl
  · have hpr : predOf 10 39 41 18 18 = witnessedP := rfl
    rw [hpr]
    obtain ⟨hI1, hI2⟩ := idx_go witnessedP l
    simp (config := {dsimp := false}) only [↓vp0, vz, vn, nq, tys, cellD, wideIR, if_true, if_false, implies_true, forall_const, ne_eq, reduceIte, reduceCtorEq, Nat.reduceEqDiff, Nat.reduceAdd, Nat.reduceMul, Nat.reduceLT, Nat.reduceSub, Nat.reduceLeDiff, Nat.reduceBNe, Nat.reduceBEq, Nat.reduceBeqDiff, List.range, List.range.loop, gl0, Tryd.ntmps61, Tryd.results61]
    refine loopI {k : Nat // k ≤ l.length ∧ ∀ j, j < k → witnessedP (l.getD j default) = false} (fun k => [(8, .int .i64 (k.1 : Nat)), (7, .int .i64 (l.length : Nat)), (0, .sl .no 4 (txsD l)), (1, .fn 18 [])]) (fun _ => ⟨[], [], 16⟩) (fun k => l.length - k.1) ⟨0, by simp⟩ (fun _ => rfl) ?_ ?_
    · exact ⟨⟨wkD_eq rfl, rfl, wkD_eq rfl, rfl, wkD_eq rfl, rfl, wkD_eq rfl, rfl, trivial⟩, trivial, trivial⟩
    rintro ⟨k, hk, hb⟩
    simp (config := {dsimp := false}) only [↓vp0, vz, vn, nq, tys, cellD, wideIR, if_true, if_false, implies_true, forall_const, ne_eq, reduceIte, reduceCtorEq, Nat.reduceEqDiff, Nat.reduceAdd, Nat.reduceMul, Nat.reduceLT, Nat.reduceSub, Nat.reduceLeDiff, Nat.reduceBNe, Nat.reduceBEq, Nat.reduceBeqDiff, List.range, List.range.loop, gl0, Tryd.ntmps61, Tryd.results61]
    refine ⟨fun hh => ?_, fun hh => ?_⟩
    · have hh := of_decide_eq_true hh
      have hk' : k < l.length := by omega
      have g1 := txsD_get l k hk'
      have hx := hok _ (getD_memI hk')
      have hc := tx_okT hx
      have ha := anyT_tx hx.any
      cases hp : witnessedP (l.getD k default)
      · have hpw : (l.getD k default).ins.any hasWit = false := hp
        simp (config := {dsimp := false}) only [↓vp0, vz, vn, nq, tys, cellD, wideIR, if_true, if_false, implies_true, forall_const, ne_eq, reduceIte, reduceCtorEq, Nat.reduceEqDiff, Nat.reduceAdd, Nat.reduceMul, Nat.reduceLT, Nat.reduceSub, Nat.reduceLeDiff, Nat.reduceBNe, Nat.reduceBEq, Nat.reduceBeqDiff, List.range, List.range.loop, gl0, Tryd.ntmps61, Tryd.results61, PF.toR, givesIf, Int.toNat_natCast, g1, txD, tx_eta, ins_D, outs_D, hp, hpw, spec_twitnessed, sp_twitnessed, c_twitnessed, b_twitnessed]
        refine ⟨by omega, by omega, hc, ⟨k + 1, by omega, fun j hj => ?_⟩, ⟨⟨wkD_eq ?_, rfl, wkD_eq rfl, rfl, wkD_eq rfl, rfl, wkD_eq rfl, rfl, trivial⟩, trivial, trivial⟩, by (try simp only); omega⟩
        · rcases Nat.lt_or_ge j k with h7 | h7
          · exact hb j h7
          · obtain rfl : j = k := by omega
            exact hp
        · exact some_i64 (by (try simp only); omega)
      · have hpw : (l.getD k default).ins.any hasWit = true := hp
        simp (config := {dsimp := false}) only [↓vp0, vz, vn, nq, tys, cellD, wideIR, if_true, if_false, implies_true, forall_const, ne_eq, reduceIte, reduceCtorEq, Nat.reduceEqDiff, Nat.reduceAdd, Nat.reduceMul, Nat.reduceLT, Nat.reduceSub, Nat.reduceLeDiff, Nat.reduceBNe, Nat.reduceBEq, Nat.reduceBeqDiff, List.range, List.range.loop, gl0, Tryd.ntmps61, Tryd.results61, PF.toR, givesIf, Int.toNat_natCast, g1, txD, tx_eta, ins_D, outs_D, hp, hpw, hI1 k hk' hb hp, spec_twitnessed, sp_twitnessed, c_twitnessed, b_twitnessed]
        exact ⟨by omega, by omega, hc⟩
    · have hh := of_decide_eq_false hh
      obtain rfl : k = l.length := by omega
      simp (config := {dsimp := false}) only [↓vp0, vz, vn, nq, tys, cellD, wideIR, if_true, if_false, implies_true, forall_const, ne_eq, reduceIte, reduceCtorEq, Nat.reduceEqDiff, Nat.reduceAdd, Nat.reduceMul, Nat.reduceLT, Nat.reduceSub, Nat.reduceLeDiff, Nat.reduceBNe, Nat.reduceBEq, Nat.reduceBeqDiff, List.range, List.range.loop, gl0, Tryd.ntmps61, Tryd.results61, givesIf, hI2 hb]
      all_goals rfl
theorem c_containsTx : Contract E 54 := by
  refine contract_seeT hE hgl (show E.P.funcs[54]? = some Tryd.f54 from Tryd.func54) rfl (p := (sp_containsTx 10 39 41 18)) (fun _ _ _ => rfl) ?_
  intro args hv
  unfold sp_containsTx at hv ⊢
  split at hv
  case h_2 => exact hv.elim
  rename_i es h
  refine ⟨by simp, Nat.le_of_ble_eq_true rfl, ?_⟩
  simp only [givesIf] at hv
  obtain ⟨hp, l, rfl, hok, hl⟩ := hv
  simp (config := {dsimp := false}) only [↓vp0, vz, vn, nq, tys, cellD, wideIR, if_true, if_false, implies_true, forall_const, ne_eq, reduceIte, reduceCtorEq, Nat.reduceEqDiff, Nat.reduceAdd, Nat.reduceMul, Nat.reduceLT, Nat.reduceSub, Nat.reduceLeDiff, Nat.reduceBNe, Nat.reduceBEq, Nat.reduceBeqDiff, List.range, List.range.loop, gl0, Tryd.ntmps54, Tryd.results54, PF.toR, givesIf, txs_D, idx_any, spec_indexTx, sp_indexTx, c_indexTx, b_indexTx]
  exact ⟨hp, _, rfl, hok, hl⟩
theorem c_none : Contract E 38 := by
  refine contract_seeT hE hgl (show E.P.funcs[38]? = some Tryd.f38 from Tryd.func38) rfl (p := (sp_none 10 39 41 18)) (fun _ _ _ => rfl) ?_
  intro args hv
  unfold sp_none at hv ⊢
  split at hv
  case h_2 => exact hv.elim
  rename_i es h
  refine ⟨by simp, Nat.le_of_ble_eq_true rfl, ?_⟩
  simp only [givesIf] at hv
  obtain ⟨hp, l, rfl, hok, hl⟩ := hv
  simp (config := {dsimp := false}) only [↓vp0, vz, vn, nq, tys, cellD, wideIR, if_true, if_false, implies_true, forall_const, ne_eq, reduceIte, reduceCtorEq, Nat.reduceEqDiff, Nat.reduceAdd, Nat.reduceMul, Nat.reduceLT, Nat.reduceSub, Nat.reduceLeDiff, Nat.reduceBNe, Nat.reduceBEq, Nat.reduceBeqDiff, List.range, List.range.loop, gl0, Tryd.ntmps38, Tryd.results38, PF.toR, givesIf, txs_D, spec_containsTx, sp_containsTx, c_containsTx, b_containsTx]
  exact ⟨hp, _, rfl, hok, hl⟩
end Go.Vi.CK
end

section
set_option linter.unusedVariables false
set_option linter.unusedSimpArgs false
namespace Go.Proofs
open Go.RowKit Go.Shelf
attribute [local go_sem] Oper.semAt_some

set_option maxRecDepth 100000 in
set_option maxHeartbeats 2000000 in
theorem Tryd.chunk1_in (F : Fence) (n : Nat) (h60 : F.fn 56) (hro : F.round = none) (hn : 1 ≤ n) (l B0 B1 o1 B2 o2 b off len cap : Nat) (Kp : World → World → Prop) (hlen : len ≤ cap) (hb : len < 1000000000) (J Jx : List Nat → World → Prop)
    (hK1 : ∀ A B, Kp A B → B.cell? ⟨B1, o1, none⟩ = A.cell? ⟨B1, o1, none⟩) (hK2 : ∀ A B, Kp A B → B.cell? ⟨B2, o2, none⟩ = A.cell? ⟨B2, o2, none⟩)
    (hJ : AbidesFrom B0 J)
    (hY : ∀ pre i W, J pre W → pre.length = i → 2 * i < len → YieldAt F (n - 1) Tryd.prog l #[.slice (some ⟨b, off + 2 * i * 32, none⟩) (if 2 * i + 2 ≤ len then 2 else 1) (if 2 * i + 2 ≤ len then 2 else 1)] W fun e W' =>
      (e = .returned (.bool true) ∧ J (pre ++ [i]) W' ∧ Kp W W') ∨ (e = .returned (.bool false) ∧ Jx (pre ++ [i]) W'))
    (W : World) (h1 : W.cell? ⟨B1, o1, none⟩ = some (.slice (some ⟨b, off, none⟩) len cap)) (h2 : W.cell? ⟨B2, o2, none⟩ = some (.int .i64 2)) (h0 : J [] W) :
    CallsIn F n Tryd.prog 56 #[.func (.yield l) #[] #[], .pointer (some ⟨B1, o1, none⟩), .pointer (some ⟨B2, o2, none⟩)] W fun e W' => (∃ v, e = .returned v) ∧
      ((∃ k, (len ≤ 2 * k ∧ 2 * k < len + 2) ∧ J (List.range k) W') ∨ (∃ pre, Jx pre W')) := by
  refine callsIn_of_wp Tryd.func56 rfl h60 ?_ hro
  simp only [Tryd.ntmps56, List.size_toArray, List.length_cons, List.length_nil, Nat.reduceAdd, Nat.reduceSub, Array.replicate_succ, Array.replicate_zero, List.push_toArray, List.append_toArray, List.nil_append, List.cons_append]
  gi_wp2
  gi_loopw [4] (fun i wr => ∃ k : Nat, 2 * k < len + 2 ∧ i = .int .i64 (2 * k : Int) ∧ J (List.range k) wr ∧ wr.cell? ⟨B1, o1, none⟩ = some (.slice (some ⟨b, off, none⟩) len cap) ∧ wr.cell? ⟨B2, o2, none⟩ = some (.int .i64 2))
    (fun i _ => len + 2 - (intOf i).toNat)
  case atStart => exact ⟨0, by omega, rfl, h0, h1, h2⟩
  case round =>
    obtain ⟨k, hk, rfl, hJs, hc1, hc2⟩ := hrel
    by_cases hlt : 2 * k < len
    · have hD : J (List.range k) wr.drew := hJ _ _ _ none hJs ⟨rfl, rfl, rfl, Nat.le_refl _, fun _ _ _ => rfl⟩ (fun r e => by cases e)
      have hcD1 : wr.drew.cell? ⟨B1, o1, none⟩ = some (.slice (some ⟨b, off, none⟩) len cap) := hc1
      have hcD2 : wr.drew.cell? ⟨B2, o2, none⟩ = some (.int .i64 2) := hc2
      by_cases h2 : 2 * k + 2 ≤ len
      · obtain ⟨fn, tmps, assign, body, hy, hR⟩ := hY _ k wr.drew hD (by simp) hlt
        simp only [if_pos h2] at hy
        gi_wp2
        refine wpIn_mono (Q := fun e a w' => e = .normal ∧ (∃ u6 u7 u8 u9 u10 u11 u12 u13 u14 u15 u16 u17 u18 u19 u20 u21 u22 u23 u24 u25 u26 u27 u28 u29 u30, a = { tmps := #[Value.func (Fn.yield l) #[] #[], Value.pointer (some ⟨B1, o1, none⟩), Value.pointer (some ⟨B2, o2, none⟩), undef, Value.int IntKind.i64 (2 * (k : Int)), Value.int IntKind.i64 2, u6, u7, u8, u9, u10, u11, u12, u13, u14, u15, u16, u17, u18, u19, u20, u21, u22, u23, u24, u25, u26, u27, u28, u29, u30], defers := [] }) ∧ w' = wr.drew) ?_ ?_
        · gi_region
          all_goals rw [if_neg (by omega)]
          
          all_goals exact ⟨rfl, ⟨_, _, _, _, _, _, _, _, _, _, _, _, _, _, _, _, _, _, _, _, _, _, _, _, _, rfl⟩, rfl⟩
        rintro e a w' ⟨rfl, ⟨u6, u7, u8, u9, u10, u11, u12, u13, u14, u15, u16, u17, u18, u19, u20, u21, u22, u23, u24, u25, u26, u27, u28, u29, u30, rfl⟩, rfl⟩
        gi_wp2
        refine hR.mono ?_
        rintro e W3 (⟨rfl, hJ3, hk3⟩ | ⟨rfl, hJx3⟩)
        · have hd1 : W3.cell? ⟨B1, o1, none⟩ = some (.slice (some ⟨b, off, none⟩) len cap) := (hK1 _ _ hk3).trans hc1
          have hd2 : W3.cell? ⟨B2, o2, none⟩ = some (.int .i64 2) := (hK2 _ _ hk3).trans hc2
          gi_wp2
          go_roundw
          case rel => exact ⟨k + 1, by omega, by simp; omega, by rw [List.range_succ]; exact hJ3, hd1, hd2⟩
          case measure => simp [intOf]; omega
        · gi_wp2
          refine bodyPost_ret (results_none rfl _ _ _) rfl ?_
          exact ⟨⟨_, rfl⟩, .inr ⟨_, hJx3⟩⟩
      · obtain ⟨fn, tmps, assign, body, hy, hR⟩ := hY _ k wr.drew hD (by simp) hlt
        simp only [if_neg h2] at hy
        gi_wp2
        refine wpIn_mono (Q := fun e a w' => e = .normal ∧ (∃ u6 u7 u8 u9 u10 u11 u12 u13 u14 u15 u16 u17 u18 u19 u20 u21 u22 u23 u24 u25 u26 u27 u28 u29 u30, a = { tmps := #[Value.func (Fn.yield l) #[] #[], Value.pointer (some ⟨B1, o1, none⟩), Value.pointer (some ⟨B2, o2, none⟩), undef, Value.int IntKind.i64 (2 * (k : Int)), Value.int IntKind.i64 1, u6, u7, u8, u9, u10, u11, u12, u13, u14, u15, u16, u17, u18, u19, u20, u21, u22, u23, u24, u25, u26, u27, u28, u29, u30], defers := [] }) ∧ w' = wr.drew) ?_ ?_
        · gi_region
          all_goals rw [if_pos (by omega)]
          all_goals rw [show ((len - 2 * k : Nat) : Int) = 1 by omega]
          all_goals exact ⟨rfl, ⟨_, _, _, _, _, _, _, _, _, _, _, _, _, _, _, _, _, _, _, _, _, _, _, _, _, rfl⟩, rfl⟩
        rintro e a w' ⟨rfl, ⟨u6, u7, u8, u9, u10, u11, u12, u13, u14, u15, u16, u17, u18, u19, u20, u21, u22, u23, u24, u25, u26, u27, u28, u29, u30, rfl⟩, rfl⟩
        gi_wp2
        refine hR.mono ?_
        rintro e W3 (⟨rfl, hJ3, hk3⟩ | ⟨rfl, hJx3⟩)
        · have hd1 : W3.cell? ⟨B1, o1, none⟩ = some (.slice (some ⟨b, off, none⟩) len cap) := (hK1 _ _ hk3).trans hc1
          have hd2 : W3.cell? ⟨B2, o2, none⟩ = some (.int .i64 2) := (hK2 _ _ hk3).trans hc2
          gi_wp2
          go_roundw
          case rel => exact ⟨k + 1, by omega, by simp; omega, by rw [List.range_succ]; exact hJ3, hd1, hd2⟩
          case measure => simp [intOf]; omega
        · gi_wp2
          refine bodyPost_ret (results_none rfl _ _ _) rfl ?_
          exact ⟨⟨_, rfl⟩, .inr ⟨_, hJx3⟩⟩
    · gi_wp2
      go_end0
      exact ⟨⟨_, rfl⟩, .inl ⟨k, ⟨by omega, hk⟩, hJs⟩⟩
end Go.Proofs
end

section
set_option linter.unusedVariables false
namespace Go.Vi
open Go.Proofs Go.RowKit

theorem at_partC {w : World} {b off : Nat} {cs : List Value} (h : At w b off cs) (i n : Nat) : At w b (off + i) ((cs.take n).drop i) := by
  intro j v hv
  rw [List.getElem?_drop, List.getElem?_take] at hv
  split at hv
  · have := h (i + j) v hv
    rwa [← Nat.add_assoc] at this
  · cases hv

def chunkEl (es : List D) (i : Nat) : D := .sl .full 32 ((es.take (2 * i + 2)).drop (2 * i))

theorem iter_chunk {E : Env} (hP : E.P = Tryd.prog) (es : List D) (h0 : es ≠ []) (hb : es.length < 1000000000) : Iter E 56 [.ip (.sl .no 32 es) 0, .ip (.int .i64 2) 0] (m := (es.length + 1) / 2) (fun i => [chunkEl es i.1]) := by
  refine ⟨by rw [hP, Tryd.func56]; simp, fun g w vs n hn hl hr => ?_⟩
  obtain ⟨c1, c2, rfl, ⟨B1, o1, vs1, rfl, ⟨a, c, vsE, rfl, hc, hes, hrow, _⟩, hl1, ha1⟩, ⟨c3, c4, rfl, ⟨B2, o2, vs2, rfl, h2, hl2, ha2⟩, h4⟩⟩ := hr
  have h2 : vs2 = [.int .i64 2] := h2
  subst h2
  have h4 : c4 = [] := h4
  subst h4
  have hlen := es_length es hes
  have hpos : 0 < es.length := List.length_pos_iff.2 h0
  obtain ⟨b, off, rfl, hlb, hat⟩ := hrow (by intro e; subst e; simp at hlen; exact h0 (List.eq_nil_of_length_eq_zero (by omega)))
  have k1 : w.cell? ⟨B1, o1, none⟩ = some (.slice (some ⟨b, off, none⟩) es.length c) := ha1 0 _ rfl
  have k2 : w.cell? ⟨B2, o2, none⟩ = some (.int .i64 2) := ha2 0 _ rfl
  have hB1 : B1 < w.heap.size := by
    rcases Nat.lt_or_ge B1 w.heap.size with h | h
    · exact h
    · rw [hl B1 h] at hl1; simp at hl1
  have hB2 : B2 < w.heap.size := by
    rcases Nat.lt_or_ge B2 w.heap.size with h | h
    · exact h
    · rw [hl B2 h] at hl2; simp at hl2
  refine ⟨fun args w => (by rw [hP]; exact enters_of Tryd.func56 (by kernel_rfl) rfl args w), fun i => #[.slice (some ⟨b, off + 2 * i.1 * 32, none⟩) (if 2 * i.1 + 2 ≤ es.length then 2 else 1) (if 2 * i.1 + 2 ≤ es.length then 2 else 1)], fun i => ?_, ?_⟩
  · have hil : 2 * i.1 < es.length := by have := i.2; omega
    have hcl : ((es.take (2 * i.1 + 2)).drop (2 * i.1)).length = if 2 * i.1 + 2 ≤ es.length then 2 else 1 := by
      simp only [List.length_drop, List.length_take]
      split <;> omega
    refine ⟨_, [], rfl, ?_, rfl⟩
    show RepC g w (chunkEl es i.1) _
    unfold chunkEl
    refine ⟨some ⟨b, off + 2 * i.1 * 32, none⟩, (if 2 * i.1 + 2 ≤ es.length then 2 else 1), ((vsE.take ((2 * i.1 + 2) * 32)).drop (2 * i.1 * 32)), by rw [hcl], by rw [hcl]; exact Nat.le_refl _, es_part es (2 * i.1) (2 * i.1 + 2) hes, fun _ => ⟨b, _, rfl, ?_, at_partC hat _ _⟩, by simp only [OwnOk]; exact hcl.symm⟩
    have e1 := hlen
    have hlb2 : off + vsE.length ≤ g.lim b := hlb
    simp only [List.length_drop, List.length_take]
    omega
  · intro l J Jx W hW hJ hJx hY hJ0
    have kW1 : W.cell? ⟨B1, o1, none⟩ = some (.slice (some ⟨b, off, none⟩) es.length c) := (hW.cell (p := ⟨B1, o1, none⟩) hB1).trans k1
    have kW2 : W.cell? ⟨B2, o2, none⟩ = some (.int .i64 2) := (hW.cell (p := ⟨B2, o2, none⟩) hB2).trans k2
    let up : List Nat → List (Fin ((es.length + 1) / 2)) := fun l => l.filterMap fun i => if h : i < (es.length + 1) / 2 then some ⟨i, h⟩ else none
    have up_snoc : ∀ l i (h : i < (es.length + 1) / 2), up (l ++ [i]) = up l ++ [⟨i, h⟩] := fun l i h => by simp [up, h]
    rw [hP] at hY ⊢
    refine (Tryd.chunk1_in (FR none) n trivial rfl hn l W.heap.size B1 o1 B2 o2 b off es.length c (KpOf g w) hc hb (fun l W => (∀ i ∈ l, i < (es.length + 1) / 2) ∧ J (up l) W) (fun l W => Jx (up l) W)
      (fun A B h => h B1 o1 hB1 (by simp at hl1; omega)) (fun A B h => h B2 o2 hB2 (by simp at hl2; omega))
      (fun s A B row hs hg hr => ⟨hs.1, hJ _ A B row hs.2 hg hr⟩) ?_ W kW1 kW2 ⟨by simp, hJ0⟩).mono ?_
    · rintro pre i W1 ⟨hp, hj⟩ hpi hi
      have hlt : i < (es.length + 1) / 2 := by omega
      have hul : (up pre).length = pre.length := by
        have : ∀ l : List Nat, (∀ i ∈ l, i < (es.length + 1) / 2) → (up l).length = l.length := by
          intro l
          induction l with
          | nil => intro _; rfl
          | cons x r ih =>
            intro h
            have hx := h x (List.mem_cons_self ..)
            have := ih fun i hi => h i (List.mem_cons_of_mem _ hi)
            simp only [up, List.filterMap_cons, hx, dif_pos, List.length_cons]
            exact congrArg (· + 1) this
        exact this pre hp
      have := hY (up pre) ⟨i, hlt⟩ W1 hj (by rw [hul, hpi]; exact hlt)
      obtain ⟨fn, tmps, assign, body, hy, hR⟩ := this
      refine ⟨fn, tmps, assign, body, hy, hR.mono ?_⟩
      rintro e W' (⟨rfl, h1, h2⟩ | ⟨rfl, h1⟩)
      · refine .inl ⟨rfl, ⟨fun j hj => ?_, by rw [up_snoc pre i hlt]; exact h1⟩, h2⟩
        rcases List.mem_append.1 hj with h | h
        · exact hp j h
        · simp at h; subst h; exact hlt
      · exact .inr ⟨rfl, by rw [up_snoc pre i hlt]; exact h1⟩
    · rintro e W' ⟨hv, ⟨k, ⟨hk1, hk2⟩, _, hj⟩ | ⟨pre, hj⟩⟩
      · refine ⟨hv, .inl ⟨_, ?_, hj⟩⟩
        have hk : k = (es.length + 1) / 2 := by omega
        subst hk
        apply List.ext_getElem
        · have : ∀ m, m ≤ (es.length + 1) / 2 → (up (List.range m)).length = m := by
            intro m
            induction m with
            | zero => intro _; rfl
            | succ m ih => intro h; rw [List.range_succ, up_snoc _ m (by omega), List.length_append, ih (by omega)]; rfl
          rw [this _ (Nat.le_refl _)]; simp
        · intro j h1 h2
          have : ∀ m, m ≤ (es.length + 1) / 2 → ∀ j (hj : j < m) (hx : j < (es.length + 1) / 2), (up (List.range m))[j]? = some ⟨j, hx⟩ := by
            intro m
            induction m with
            | zero => intro _ j hj; omega
            | succ m ih =>
              intro h j hj hx
              have hlen' : (up (List.range m)).length = m := by
                clear ih hj hx
                have : ∀ m, m ≤ (es.length + 1) / 2 → (up (List.range m)).length = m := by
                  intro m
                  induction m with
                  | zero => intro _; rfl
                  | succ m ih => intro h; rw [List.range_succ, up_snoc _ m (by omega), List.length_append, ih (by omega)]; rfl
                exact this m (by omega)
              rw [List.range_succ, up_snoc _ m (by omega)]
              rcases Nat.lt_or_ge j m with h' | h'
              · rw [List.getElem?_append_left (by omega)]
                exact ih (by omega) j h' hx
              · obtain rfl : j = m := by omega
                rw [List.getElem?_append_right (by omega), hlen']
                simp
          have hx : j < (es.length + 1) / 2 := by simpa using h2
          have := this _ (Nat.le_refl _) j hx hx
          rw [List.getElem?_eq_getElem h1] at this
          simp at this
          rw [this]
          simp
      · exact ⟨hv, .inr ⟨_, trivial, hj⟩⟩
end Go.Vi
end

section
set_option linter.unusedVariables false
set_option linter.unusedSimpArgs false
namespace Go.Proofs
open Go.RowKit Go.Shelf
attribute [local go_sem] Oper.semAt_some

set_option maxRecDepth 100000 in
set_option maxHeartbeats 2000000 in
theorem Tryd.back1_in (F : Fence) (n : Nat) (h52 : F.fn 49) (hro : F.round = none) (hn : 1 ≤ n) (l B1 o1 b off len cap : Nat) (a : Option Addr) (c0 c1 : Nat → Value) (Kp : World → World → Prop) (hlen : len ≤ cap) (hb : len < 1000000000) (hsome : len ≠ 0 → a = some ⟨b, off, none⟩) (J Jx : List Nat → World → Prop)
    (hK1 : ∀ A B, Kp A B → B.cell? ⟨B1, o1, none⟩ = A.cell? ⟨B1, o1, none⟩) (hK2 : ∀ A B, Kp A B → ∀ j, j < 2 * len → B.cell? ⟨b, off + j, none⟩ = A.cell? ⟨b, off + j, none⟩)
    (hY : ∀ pre i W, J pre W → pre.length + 1 + i = len → YieldAt F (n - 1) Tryd.prog l #[.int .i64 (i : Nat), .agg #[c0 i, c1 i]] W fun e W' =>
      (e = .returned (.bool true) ∧ J (pre ++ [i]) W' ∧ Kp W W') ∨ (e = .returned (.bool false) ∧ Jx (pre ++ [i]) W'))
    (W : World) (h1 : W.cell? ⟨B1, o1, none⟩ = some (.slice a len cap)) (hc : ∀ i, i < len → W.cell? ⟨b, off + i * 2, none⟩ = some (c0 i) ∧ W.cell? ⟨b, off + i * 2 + 1, none⟩ = some (c1 i)) (h0 : J [] W) :
    CallsIn F n Tryd.prog 49 #[.func (.yield l) #[] #[], .pointer (some ⟨B1, o1, none⟩)] W fun e W' => (∃ v, e = .returned v) ∧
      (J ((List.range len).reverse) W' ∨ (∃ k, k < len ∧ Jx (((List.range len).drop k).reverse) W')) := by
  refine callsIn_of_wp Tryd.func49 rfl h52 ?_ hro
  simp only [Tryd.ntmps49, List.size_toArray, List.length_cons, List.length_nil, Nat.reduceAdd, Nat.reduceSub, Array.replicate_succ, Array.replicate_zero, List.push_toArray, List.append_toArray, List.nil_append, List.cons_append]
  gi_wp2
  gi_loopw [3] (fun i wr => ∃ k : Nat, k ≤ len ∧ i = .int .i64 ((k : Int) - 1) ∧ J (((List.range len).drop k).reverse) wr ∧ wr.cell? ⟨B1, o1, none⟩ = some (.slice a len cap) ∧ (∀ i, i < len → wr.cell? ⟨b, off + i * 2, none⟩ = some (c0 i) ∧ wr.cell? ⟨b, off + i * 2 + 1, none⟩ = some (c1 i)))
    (fun i _ => (intOf i + 1).toNat)
  case atStart => exact ⟨len, Nat.le_refl _, rfl, by rw [List.drop_of_length_le (by simp)]; exact h0, h1, hc⟩
  case round =>
    obtain ⟨k, hk, rfl, hJs, hc1, hcc⟩ := hrel
    cases k with
    | zero =>
      gi_wp2
      go_end0
      exact ⟨⟨_, rfl⟩, .inl (by simpa using hJs)⟩
    | succ k =>
      have ha := hsome (by omega)
      subst ha
      have hd : ((List.range len).drop k).reverse = ((List.range len).drop (k + 1)).reverse ++ [k] := by
        have : (List.range len).drop k = k :: (List.range len).drop (k + 1) := by
          rw [List.drop_eq_getElem_cons (by simp; omega)]
          simp
        rw [this, List.reverse_cons]
      obtain ⟨fn, tmps, assign, body, hy, hR⟩ := hY _ k wr hJs (by simp; omega)
      obtain ⟨hx0, hx1⟩ := hcc k (by omega)
      have hi : ((k + 1 : Nat) : Int) - 1 = (k : Int) := by omega
      rw [hi]
      gi_wp2
      refine hR.mono ?_
      rintro e W3 (⟨rfl, hJ3, hk3⟩ | ⟨rfl, hJx3⟩)
      · have hd1 : W3.cell? ⟨B1, o1, none⟩ = some (.slice (some ⟨b, off, none⟩) len cap) := (hK1 _ _ hk3).trans hc1
        have hcc3 : ∀ i, i < len → W3.cell? ⟨b, off + i * 2, none⟩ = some (c0 i) ∧ W3.cell? ⟨b, off + i * 2 + 1, none⟩ = some (c1 i) := fun i hi =>
          ⟨(hK2 _ _ hk3 (i * 2) (by omega)).trans (hcc i hi).1, (hK2 _ _ hk3 (i * 2 + 1) (by omega)).trans (hcc i hi).2⟩
        gi_wp2
        go_roundw
        case rel => exact ⟨k, by omega, rfl, by rw [hd]; exact hJ3, hd1, hcc3⟩
        case measure => simp [intOf]
      · gi_wp2
        refine bodyPost_ret (results_none rfl _ _ _) rfl ?_
        exact ⟨⟨_, rfl⟩, .inr ⟨k, by omega, by rw [hd]; exact hJx3⟩⟩
end Go.Proofs
namespace Go.Vi.CK
open Go.Proofs Go.RowKit
def upB (m : Nat) (l : List Nat) : List (Fin m) := l.filterMap fun i => if h : i < m then some ⟨m - 1 - i, by omega⟩ else none
theorem upB_snoc {m : Nat} (l : List Nat) (i : Nat) (h : i < m) : upB m (l ++ [i]) = upB m l ++ [⟨m - 1 - i, by omega⟩] := by simp [upB, h]
theorem upB_drop {m : Nat} : ∀ (d k : Nat), k + d = m → upB m (((List.range m).drop k).reverse) = (List.finRange m).take d
  | 0, k, h => by
    obtain rfl : k = m := by omega
    rw [List.drop_of_length_le (by simp)]; rfl
  | d + 1, k, h => by
    have hk : k < m := by omega
    have hd : ((List.range m).drop k).reverse = ((List.range m).drop (k + 1)).reverse ++ [k] := by
      have : (List.range m).drop k = k :: (List.range m).drop (k + 1) := by
        rw [List.drop_eq_getElem_cons (by simp; omega)]
        simp
      rw [this, List.reverse_cons]
    rw [hd, upB_snoc _ k hk, upB_drop d (k + 1) (by omega), List.take_add_one]
    congr 1
    have hdm : d < m := by omega
    simp [hdm]
    omega
theorem iter_back (l : List OutP) (hb : l.length < 1000000000) : IterP E 49 [.ip (.sl .no 2 (outsD l)) 0] (m := l.length) (fun i => [.int .i64 ((l.length - 1 - i.1 : Nat) : Int), outD (l.getD (l.length - 1 - i.1) default)]) := by
  refine ⟨by rw [show E.P = Tryd.prog from rfl, Tryd.func49]; simp, fun g w vs n hn hl hr => ?_⟩
  obtain ⟨c1, c2, rfl, ⟨B1, o1, vs1, rfl, ⟨a, c, vsE, rfl, hc, hes, hrow, _⟩, hl1, ha1⟩, h4⟩ := hr
  have h4 : c2 = [] := h4
  subst h4
  have hlen := es_length (outsD l) hes
  rw [outsD_length] at hlen hc
  have hsome : ∃ b off, (l.length ≠ 0 → a = some ⟨b, off, none⟩) ∧ (l.length ≠ 0 → off + vsE.length ≤ g.lim b ∧ At w b off vsE) := by
    by_cases h0 : l.length = 0
    · exact ⟨0, 0, fun h => absurd h0 h, fun h => absurd h0 h⟩
    · obtain ⟨b, off, e, h1, h2⟩ := hrow (by intro e; subst e; simp at hlen; omega)
      exact ⟨b, off, fun _ => e, fun _ => ⟨h1, h2⟩⟩
  obtain ⟨b, off, hs1, hs2⟩ := hsome
  have k1 : w.cell? ⟨B1, o1, none⟩ = some (.slice a l.length c) := by
    have := ha1 0 _ rfl
    rw [outsD_length] at this
    exact this
  have hB1 : B1 < w.heap.size := by
    rcases Nat.lt_or_ge B1 w.heap.size with h | h
    · exact h
    · rw [hl B1 h] at hl1; simp at hl1
  have hB : l.length ≠ 0 → b < w.heap.size := fun h0 => by
    obtain ⟨h1, h2⟩ := hs2 h0
    rcases Nat.lt_or_ge b w.heap.size with h | h
    · exact h
    · rw [hl b h] at h1; omega
  let c0 : Nat → Value := fun i => vsE.getD (i * 2) undef
  let c1 : Nat → Value := fun i => vsE.getD (i * 2 + 1) undef
  have hcel : ∀ i, i < l.length → w.cell? ⟨b, off + i * 2, none⟩ = some (c0 i) ∧ w.cell? ⟨b, off + i * 2 + 1, none⟩ = some (c1 i) := fun i hi => by
    obtain ⟨h1, h2⟩ := hs2 (by omega)
    have q0 : vsE[i * 2]? = some (c0 i) := by simp only [c0, List.getD]; rw [List.getElem?_eq_getElem (by omega)]; rfl
    have q1 : vsE[i * 2 + 1]? = some (c1 i) := by simp only [c1, List.getD]; rw [List.getElem?_eq_getElem (by omega)]; rfl
    exact ⟨h2 _ _ q0, h2 _ _ q1⟩
  refine ⟨fun args w => enters_of Tryd.func49 (by kernel_rfl) rfl args w, fun i => #[.int .i64 ((l.length - 1 - i.1 : Nat) : Int), .agg #[c0 (l.length - 1 - i.1), c1 (l.length - 1 - i.1)]], fun i => ?_, ?_⟩
  · have hil : l.length - 1 - i.1 < l.length := by have := i.2; omega
    obtain ⟨pre, mid, post, e', hpl, hm, hr⟩ := es_at (outsD l) (l.length - 1 - i.1) (by rw [outsD_length]; exact hil) hes
    have he : (outsD l)[l.length - 1 - i.1]'(by rw [outsD_length]; exact hil) = outD (l.getD (l.length - 1 - i.1) default) := by
      rw [← outsD_get l _ hil]
      simp [List.getD, outsD_length, hil]
    rw [he] at hr
    have hmid : mid = [c0 (l.length - 1 - i.1), c1 (l.length - 1 - i.1)] := by
      match mid, hm with
      | [x, y], _ =>
        have q0 : vsE[(l.length - 1 - i.1) * 2]? = some x := by
          rw [e', List.append_assoc, List.getElem?_append_right (by omega), hpl, Nat.sub_self]; rfl
        have q1 : vsE[(l.length - 1 - i.1) * 2 + 1]? = some y := by
          rw [e', List.append_assoc, List.getElem?_append_right (by omega), hpl, Nat.add_sub_cancel_left]; rfl
        simp [c0, c1, List.getD, q0, q1]
    refine ⟨_, [_], rfl, rfl, _, [], rfl, ⟨mid, by rw [hmid], ?_⟩, rfl⟩
    exact RepC.ext (g := g.bare) (g' := g) ⟨fun _ => Nat.le_refl _, fun _ _ _ => rfl, fun _ _ h => by simp [Gh.bare] at h, fun _ _ _ _ h => by simp [Gh.bare] at h, fun _ _ h => h⟩ _ hr
  · intro y J Jx W hW hJ hJx hY hJ0
    have kW1 : W.cell? ⟨B1, o1, none⟩ = some (.slice a l.length c) := (hW.cell (p := ⟨B1, o1, none⟩) hB1).trans k1
    have kWc : ∀ i, i < l.length → W.cell? ⟨b, off + i * 2, none⟩ = some (c0 i) ∧ W.cell? ⟨b, off + i * 2 + 1, none⟩ = some (c1 i) := fun i hi =>
      ⟨(hW.cell (p := ⟨b, off + i * 2, none⟩) (hB (by omega))).trans (hcel i hi).1, (hW.cell (p := ⟨b, off + i * 2 + 1, none⟩) (hB (by omega))).trans (hcel i hi).2⟩
    refine (Tryd.back1_in (FR none) n trivial rfl hn y B1 o1 b off l.length c a c0 c1 (KpOf g w) hc hb hs1 (fun p W => (∀ i ∈ p, i < l.length) ∧ J (upB l.length p) W) (fun p W => Jx (upB l.length p) W)
      (fun A B h => h B1 o1 hB1 (by simp at hl1; omega)) (fun A B h j hj => h b (off + j) (hB (by omega)) (by have := (hs2 (by omega)).1; omega)) ?_ W kW1 kWc ⟨by simp, hJ0⟩).mono ?_
    · rintro pre i W1 ⟨hp, hj⟩ hi
      have hlt : i < l.length := by omega
      have hul : (upB l.length pre).length = pre.length := by
        have : ∀ q : List Nat, (∀ i ∈ q, i < l.length) → (upB l.length q).length = q.length := by
          intro q
          induction q with
          | nil => intro _; rfl
          | cons x r ih =>
            intro h
            have hx := h x (List.mem_cons_self ..)
            have := ih fun i hi => h i (List.mem_cons_of_mem _ hi)
            simp only [upB, List.filterMap_cons, hx, dif_pos, List.length_cons]
            exact congrArg (· + 1) this
        exact this pre hp
      have := hY (upB l.length pre) ⟨l.length - 1 - i, by omega⟩ W1 hj (by rw [hul]; omega)
      have ei : l.length - 1 - (l.length - 1 - i) = i := by omega
      simp only [ei] at this
      obtain ⟨fn, tmps, assign, body, hy, hR⟩ := this
      refine ⟨fn, tmps, assign, body, hy, hR.mono ?_⟩
      rintro e W' (⟨rfl, h1, h2⟩ | ⟨rfl, h1⟩)
      · refine .inl ⟨rfl, ⟨fun j hj => ?_, by rw [upB_snoc pre i hlt]; exact h1⟩, h2⟩
        rcases List.mem_append.1 hj with h | h
        · exact hp j h
        · simp at h; subst h; exact hlt
      · exact .inr ⟨rfl, by rw [upB_snoc pre i hlt]; exact h1⟩
    · rintro e W' ⟨hv, ⟨_, hj⟩ | ⟨k, hk, hj⟩⟩
      · refine ⟨hv, .inl ⟨_, ?_, hj⟩⟩
        have := upB_drop (m := l.length) l.length 0 (by omega)
        rw [List.drop_zero] at this
        rw [this, List.take_of_length_le (by simp)]
      · exact ⟨hv, .inr ⟨_, ⟨l.length - k, upB_drop (l.length - k) k (by omega)⟩, hj⟩⟩
end Go.Vi.CK
namespace Go.Proofs
open Go.RowKit Go.Shelf
attribute [local go_sem] Oper.semAt_some
set_option maxHeartbeats 1000000 in
theorem Tryd.back_in (F : Fence) (n : Nat) (h5 : F.fn 29) (hro : F.round = none) (a : Option Addr) (len cap : Nat) (w : World) :
    CallsIn F n Tryd.prog 29 #[.slice a len cap] w fun e w' => e = .returned (.func (.func 49) #[] #[.pointer (some ⟨w.heap.size, 0, none⟩)]) ∧ w' = w.alloc (.cells #[.slice a len cap] 24) := by
  refine callsIn_of_wp Tryd.func29 rfl h5 ?_ hro
  simp only [Tryd.ntmps29, List.size_toArray, List.length_cons, List.length_nil, Nat.reduceAdd, Nat.reduceSub, Array.replicate_succ, Array.replicate_zero, List.push_toArray, List.append_toArray, List.nil_append, List.cons_append]
  gi_wp2
  go_ret
  exact ⟨rfl, rfl⟩
end Go.Proofs
namespace Go.Vi.CK
open Go.Proofs Go.RowKit
theorem c_back : Contract E 29 := by
  refine contract_callsT (p := sp_back 49) (fun args s nm => spec_back args s nm) ?_
  intro xs hv g w vs hl0 hr
  unfold sp_back at hv ⊢
  split at hv
  case h_2 => exact hv.elim
  rename_i es
  obtain ⟨v1, r1, rfl, ⟨a, c, vE, e1, hc, hes, hrow, _⟩, e3⟩ := hr
  have e3 : r1 = [] := e3
  simp only [List.cons.injEq, and_true] at e1
  subst e1 e3
  refine (callsIn_wide (n := 0)).1 ((Tryd.back_in Fence.wide 0 trivial rfl a es.length c w).mono ?_)
  rintro e w' ⟨rfl, rfl⟩
  have hb : Below w.heap.size w (w.alloc (.cells #[.slice a es.length c] 24)) := (Below.refl _ w).alloc (Nat.le_refl _) _
  refine ⟨_, rfl, ?_, hb⟩
  have hx : Ext g w (g.newer w (w.alloc (.cells #[.slice a es.length c] 24))) _ := Gh.newer_ext hl0 hb
  have c1 : (w.alloc (.cells #[.slice a es.length c] 24)).heap[w.heap.size]? = some (.cells #[.slice a es.length c] 24) := World.alloc_heap_new w _
  generalize (w.alloc (.cells #[.slice a es.length c] 24)) = w' at hx c1
  refine ⟨[.pointer (some ⟨w.heap.size, 0, none⟩)], rfl, [.pointer (some ⟨w.heap.size, 0, none⟩)], [], rfl,
    ⟨w.heap.size, 0, [.slice a es.length c], rfl, ⟨a, c, vE, rfl, hc, RepEs.ext hx.bare es hes, Row.ext (g := g.bare) (g' := (g.newer w w').bare) hx.bare hrow, trivial⟩, ?_, ?_⟩, rfl⟩
  · simp [Gh.newer, rowSize, c1]
  · intro i v hv
    cases i with
    | zero => simp at hv; subst hv; simp [World.cell?, c1]
    | succ i => simp at hv
end Go.Vi.CK
end

section
set_option linter.unusedVariables false
set_option linter.unusedSimpArgs false
set_option maxHeartbeats 0
set_option maxRecDepth 20000
namespace Go.Vi.CK
open Go.Proofs

theorem c_hp2 : Contract E 50 := by
  refine contract_seeT hE hgl (show E.P.funcs[50]? = some Tryd.f50 from Tryd.func50) rfl (p := sp_hp2) (fun _ _ _ => rfl) ?_
  intro args hv
  unfold sp_hp2 at hv ⊢
  split at hv
  case h_2 => exact hv.elim
  rename_i a b
  refine ⟨by simp, Nat.le_of_ble_eq_true rfl, ?_⟩
  simp only [givesIf] at hv
  obtain ⟨h6, ha⟩ := hv
  have d1 : decide (((b.size : Nat) : Int) ≤ ((a.size : Nat) : Int)) = true := decide_eq_true (by omega)
  have e1 : a.extract (Int.toNat 0) (((b.size : Nat) : Int)).toNat = a.extract 0 6 := by rw [h6]; rfl
  simp (config := {dsimp := false}) only [↓vp0, vz, vn, nq, tys, cellD, wideIR, if_true, if_false, implies_true, forall_const, ne_eq, reduceIte, reduceCtorEq, Nat.reduceEqDiff, Nat.reduceAdd, Nat.reduceMul, Nat.reduceLT, Nat.reduceSub, Nat.reduceLeDiff, Nat.reduceBNe, Nat.reduceBEq, Nat.reduceBeqDiff, List.range, List.range.loop, gl0, Tryd.ntmps50, Tryd.results50, d1, e1, givesIf]
  exact ⟨Int.le_refl _, by omega, by omega⟩
theorem c_hasPrefix : Contract E 30 := by
  refine contract_seeT hE hgl (show E.P.funcs[30]? = some Tryd.f30 from Tryd.func30) rfl (p := sp_hasPrefix) (fun _ _ _ => rfl) ?_
  intro args hv
  unfold sp_hasPrefix at hv ⊢
  split at hv
  case h_2 => exact hv.elim
  rename_i a b
  refine ⟨by simp, Nat.le_of_ble_eq_true rfl, ?_⟩
  simp only [givesIf] at hv
  simp (config := {dsimp := false}) only [↓vp0, vz, vn, nq, tys, cellD, wideIR, if_true, if_false, implies_true, forall_const, ne_eq, reduceIte, reduceCtorEq, Nat.reduceEqDiff, Nat.reduceAdd, Nat.reduceMul, Nat.reduceLT, Nat.reduceSub, Nat.reduceLeDiff, Nat.reduceBNe, Nat.reduceBEq, Nat.reduceBeqDiff, List.range, List.range.loop, gl0, Tryd.ntmps30, Tryd.results30, PF.toR, givesIf, spec_hp2, sp_hp2, c_hp2, b_hp2]
  exact hv
theorem c_gcommit : Contract E 17 := by
  refine contract_seeT hE hgl (show E.P.funcs[17]? = some Tryd.f17 from Tryd.func17) rfl (p := sp_gcommit) (fun _ _ _ => rfl) ?_
  intro args hv
  unfold sp_gcommit at hv ⊢
  split at hv
  case h_2 => exact hv.elim
  rename_i h0 hp hr h1 h2 h3 es
  refine ⟨by simp, Nat.le_of_ble_eq_true rfl, ?_⟩
  simp only [givesIf] at hv
  obtain ⟨hhd, l, rfl, hok, hl⟩ := hv
  simp only [txs_D]
  cases l with
  | nil =>
    simp (config := {dsimp := false}) only [↓vp0, vz, vn, nq, tys, cellD, wideIR, if_true, if_false, implies_true, forall_const, ne_eq, reduceIte, reduceCtorEq, Nat.reduceEqDiff, Nat.reduceAdd, Nat.reduceMul, Nat.reduceLT, Nat.reduceSub, Nat.reduceLeDiff, Nat.reduceBNe, Nat.reduceBEq, Nat.reduceBeqDiff, List.range, List.range.loop, gl0, Tryd.ntmps17, Tryd.results17, show txsD [] = [] from rfl, show decide (((0 : Nat) : Int) = 0) = true from rfl, commitP, hashV, givesIf]
    all_goals rfl
  | cons t r =>
    have ht := hok t (List.mem_cons_self ..)
    have d0 : decide (((r.length + 1 : Nat) : Int) = 0) = false := decide_eq_false (by omega)
    simp (config := {dsimp := false}) only [↓vp0, vz, vn, nq, tys, cellD, wideIR, if_true, if_false, implies_true, forall_const, ne_eq, reduceIte, reduceCtorEq, Nat.reduceEqDiff, Nat.reduceAdd, Nat.reduceMul, Nat.reduceLT, Nat.reduceSub, Nat.reduceLeDiff, Nat.reduceBNe, Nat.reduceBEq, Nat.reduceBeqDiff, List.range, List.range.loop, gl0, Tryd.ntmps17, Tryd.results17, PF.toR, gives, show txsD (t :: r) = txD t :: txsD r from rfl, txD, d0, show Int.toNat 0 = 0 from rfl, List.getD_cons_zero, commitP, spec_back, sp_back, c_back, b_back]
    refine ⟨Int.le_refl _, by omega, ?_⟩
    refine rangeF [(17, .fn 49 [.ip (.sl .no 2 (outsD t.outs)) 0]), (2, .bp 4 0), (3, .bp 8 0)] ⟨[(4, .arr .u8 32 (List.replicate 32 0)), (8, .bool false)], [], 52⟩ (fun i => markedP (t.outs.getD (t.outs.length - 1 - i.1) default).script = false) (iter_back t.outs ht.mo) rfl (fun i => rfl) ⟨rfl, rfl⟩ rfl ?_ ?_ ?_
    · exact ⟨⟨wkD_eq rfl, rfl, wkD_eq rfl, rfl, wkD_eq rfl, rfl, trivial⟩, ⟨rfl, Nat.le_of_ble_eq_true rfl, rfl, rfl, Nat.le_of_ble_eq_true rfl, rfl, trivial⟩, trivial⟩
    · intro i
      have hi : t.outs.length - 1 - i.1 < t.outs.length := by have := i.2; omega
      have hx := ht.outs _ (getD_memI hi)
      obtain ⟨x, hxe⟩ : ∃ x, t.outs.getD (t.outs.length - 1 - i.1) default = x := ⟨_, rfl⟩
      rw [hxe] at hx ⊢
      have hsc := hx.script
      by_cases hlen : 38 ≤ x.script.length
      · have d1 : decide ((38 : Int) ≤ (((strOfNums x.script).size : Nat) : Int)) = true := decide_eq_true (by rw [strN_size]; omega)
        have mk := mark_dec hsc.1
        simp (config := {dsimp := false}) only [↓vp0, vz, vn, nq, tys, cellD, wideIR, if_true, if_false, implies_true, forall_const, ne_eq, reduceIte, reduceCtorEq, Nat.reduceEqDiff, Nat.reduceAdd, Nat.reduceMul, Nat.reduceLT, Nat.reduceSub, Nat.reduceLeDiff, Nat.reduceBNe, Nat.reduceBEq, Nat.reduceBeqDiff, List.range, List.range.loop, gl0, Tryd.ntmps17, Tryd.results17, opsOf, outD, vb, PF.toR, givesIf, d1, mark_str, mk, spec_hasPrefix, sp_hasPrefix, c_hasPrefix, b_hasPrefix]
        have hcut : bytesOf ((strOfNums x.script).extract (Int.toNat 6) (Int.toNat 38)) = (x.script.drop 6).take 32 := by
          rw [show Int.toNat 6 = 6 from rfl, show Int.toNat 38 = 38 from rfl, strN_extract, bytesOf_strN (bytes_part hsc.1 6 38), List.drop_take]
        have hcl : ((x.script.drop 6).take 32).length = 32 := by simp only [List.length_take, List.length_drop]; omega
        rw [hcut]
        refine ⟨⟨trivial, ⟨rfl, Nat.le_of_ble_eq_true rfl, rfl, rfl, Nat.le_of_ble_eq_true rfl, rfl, trivial⟩, trivial⟩, by rw [strN_size]; rfl, by rw [strN_size]; omega, fun hm => ⟨by decide, by decide, by rw [strN_size]; omega, by rw [hcl]; exact Nat.le_refl _, ⟨[(4, .arr .u8 32 ((x.script.drop 6).take 32)), (8, .bool true)], [], 52⟩, rfl, ⟨trivial, ⟨?_, Nat.le_of_ble_eq_true rfl, rfl, rfl, Nat.le_of_ble_eq_true rfl, rfl, trivial⟩, trivial⟩, fun hA => ?_⟩, fun hm => ⟨⟨trivial, ⟨rfl, Nat.le_of_ble_eq_true rfl, rfl, rfl, Nat.le_of_ble_eq_true rfl, rfl, trivial⟩, trivial⟩, ?_⟩⟩
        · show some _ = some _
          rw [List.take_of_length_le (by rw [hcl]; exact Nat.le_refl _)]
        · have hmk : markedP x.script = true := by
            have h6 : x.script.take 6 = markB := of_decide_eq_true hm
            simp only [markedP]
            rw [decide_eq_true hlen, decide_eq_true (show x.script.take 6 = [106, 36, 170, 33, 169, 237] from h6)]; rfl
          have hl : lastMark t.outs = some ((x.script.drop 6).take 32) := by
            have := lastMark_some hi (by rw [hxe]; exact hmk) fun j h1 h2 => by
              have := hA ⟨t.outs.length - 1 - j, by omega⟩ (show t.outs.length - 1 - j < i.1 by have := i.2; omega)
              have e : t.outs.length - 1 - (t.outs.length - 1 - j) = j := by omega
              simpa only [e] using this
            rw [hxe] at this
            exact this
          simp (config := {dsimp := false}) only [↓vp0, vz, vn, nq, tys, cellD, wideIR, if_true, if_false, implies_true, forall_const, ne_eq, reduceIte, reduceCtorEq, Nat.reduceEqDiff, Nat.reduceAdd, Nat.reduceMul, Nat.reduceLT, Nat.reduceSub, Nat.reduceLeDiff, Nat.reduceBNe, Nat.reduceBEq, Nat.reduceBeqDiff, List.range, List.range.loop, gl0, Tryd.ntmps17, Tryd.results17, commitP, hl, hashV]
          all_goals rfl
        · have h6 : ¬ x.script.take 6 = markB := of_decide_eq_false hm
          simp only [markedP]
          rw [decide_eq_false (show ¬ x.script.take 6 = [106, 36, 170, 33, 169, 237] from h6), Bool.and_false]
      · have d1 : decide ((38 : Int) ≤ (((strOfNums x.script).size : Nat) : Int)) = false := decide_eq_false (by rw [strN_size]; omega)
        simp (config := {dsimp := false}) only [↓vp0, vz, vn, nq, tys, cellD, wideIR, if_true, if_false, implies_true, forall_const, ne_eq, reduceIte, reduceCtorEq, Nat.reduceEqDiff, Nat.reduceAdd, Nat.reduceMul, Nat.reduceLT, Nat.reduceSub, Nat.reduceLeDiff, Nat.reduceBNe, Nat.reduceBEq, Nat.reduceBeqDiff, List.range, List.range.loop, gl0, Tryd.ntmps17, Tryd.results17, opsOf, outD, vb, PF.toR, givesIf, d1]
        exact ⟨⟨trivial, ⟨rfl, Nat.le_of_ble_eq_true rfl, rfl, rfl, Nat.le_of_ble_eq_true rfl, rfl, trivial⟩, trivial⟩, ⟨trivial, ⟨rfl, Nat.le_of_ble_eq_true rfl, rfl, rfl, Nat.le_of_ble_eq_true rfl, rfl, trivial⟩, trivial⟩, by simp only [markedP]; rw [decide_eq_false hlen, Bool.false_and]⟩
    · intro hA
      have hl : lastMark t.outs = none := lastMark_none fun j hj => by
        have := hA ⟨t.outs.length - 1 - j, by omega⟩
        have e : t.outs.length - 1 - (t.outs.length - 1 - j) = j := by omega
        simpa only [e] using this
      simp (config := {dsimp := false}) only [↓vp0, vz, vn, nq, tys, cellD, wideIR, if_true, if_false, implies_true, forall_const, ne_eq, reduceIte, reduceCtorEq, Nat.reduceEqDiff, Nat.reduceAdd, Nat.reduceMul, Nat.reduceLT, Nat.reduceSub, Nat.reduceLeDiff, Nat.reduceBNe, Nat.reduceBEq, Nat.reduceBeqDiff, List.range, List.range.loop, gl0, Tryd.ntmps17, Tryd.results17, commitP, hl, hashV, givesIf]
      all_goals rfl
end Go.Vi.CK
end

section
set_option linter.unusedVariables false
set_option linter.unusedSimpArgs false
set_option maxHeartbeats 0
set_option maxRecDepth 20000
namespace Go.Vi.CK
open Go.Proofs

theorem take_all {α : Type} (l : List α) (n : Nat) (h : l.length ≤ n) : List.take n (List.drop (Int.toNat 0) l) = l := by
  rw [show Int.toNat 0 = 0 from rfl, List.drop_zero]
  exact List.take_of_length_le h
theorem c_pair : Contract E 46 := by
  refine contract_seeT hE hgl (show E.P.funcs[46]? = some Tryd.f46 from Tryd.func46) rfl (p := sp_pair) (fun _ _ _ => rfl) ?_
  intro args hv
  unfold sp_pair at hv ⊢
  split at hv
  case h_2 => exact hv.elim
  rename_i a b
  refine ⟨by simp, Nat.le_of_ble_eq_true rfl, ?_⟩
  simp only [givesIf] at hv
  obtain ⟨ha, hb⟩ := hv
  simp (config := {dsimp := false}) only [↓vp0, vz, vn, nq, tys, cellD, wideIR, if_true, if_false, implies_true, forall_const, ne_eq, reduceIte, reduceCtorEq, Nat.reduceEqDiff, Nat.reduceAdd, Nat.reduceMul, Nat.reduceLT, Nat.reduceSub, Nat.reduceLeDiff, Nat.reduceBNe, Nat.reduceBEq, Nat.reduceBeqDiff, List.range, List.range.loop, gl0, Tryd.ntmps46, Tryd.results46, show ((0 : Int) = 64) = False from by simp]
  refine ⟨by decide, by decide, ?_⟩
  refine drawX [2, 3, 5] [(2, [3])] [(2, [12])] (by kernel_rfl) (wild_of rfl) ?_
  have e1 : List.take ((32 : Int) - 0).toNat (List.drop (Int.toNat 0) a) = a := take_all a _ (by rw [ha]; decide)
  have e2 : List.take ((32 : Int) - 0).toNat (List.drop (Int.toNat 0) b) = b := take_all b _ (by rw [hb]; decide)
  simp (config := {dsimp := false}) only [↓vp0, vz, vn, nq, tys, cellD, wideIR, if_true, if_false, implies_true, forall_const, ne_eq, reduceIte, reduceCtorEq, Nat.reduceEqDiff, Nat.reduceAdd, Nat.reduceMul, Nat.reduceLT, Nat.reduceSub, Nat.reduceLeDiff, Nat.reduceBNe, Nat.reduceBEq, Nat.reduceBeqDiff, List.range, List.range.loop, gl0, Tryd.ntmps46, Tryd.results46, vb, ↓vy0, vx0, e1, e2, ha, hb]
  ((repeat' apply And.intro) <;> first | decide | omega | exact okUps_of (by kernel_rfl) rfl | exact okUps_all rfl (by kernel_rfl) | rfl)
theorem c_rootEach : Contract E 25 := by
  refine contract_boxT hE hgl (show E.P.funcs[25]? = some Tryd.f25 from Tryd.func25) rfl (p := sp_rootEach) (fun _ _ _ => rfl) ?_
  intro args ds tv hv hdl htl
  unfold sp_rootEach at hv ⊢
  split at hv
  case h_2 => exact hv.elim
  rename_i a b alone t m
  refine ⟨by simp, Nat.le_of_ble_eq_true rfl, ?_⟩
  cases m <;> cases alone
  all_goals simp (config := {dsimp := false}) only [↓vp0, vz, vn, nq, tys, cellD, wideIR, if_true, if_false, implies_true, forall_const, ne_eq, reduceIte, reduceCtorEq, Nat.reduceEqDiff, Nat.reduceAdd, Nat.reduceMul, Nat.reduceLT, Nat.reduceSub, Nat.reduceLeDiff, Nat.reduceBNe, Nat.reduceBEq, Nat.reduceBeqDiff, List.range, List.range.loop, gl0, Tryd.ntmps25, Tryd.results25, retB, vb]
  · exact ⟨[], [], [], ⟨rfl, rfl⟩, ⟨rfl, rfl⟩, ⟨by simp, by simp⟩, by simp, rfl, rfl, ⟨_, rfl, rfl⟩, ⟨_, rfl, rfl⟩, id rfl⟩
  · exact ⟨[], [], [], ⟨rfl, rfl⟩, ⟨rfl, rfl⟩, ⟨by simp, by simp⟩, by simp, rfl, rfl, ⟨_, rfl, rfl⟩, ⟨_, rfl, rfl⟩, id rfl⟩
  · exact ⟨[], [], [], ⟨rfl, rfl⟩, ⟨rfl, rfl⟩, ⟨by simp, by simp⟩, by simp, rfl, rfl, ⟨_, rfl, rfl⟩, ⟨_, rfl, rfl⟩, id rfl⟩
  · exact ⟨[], [], [], ⟨rfl, rfl⟩, ⟨rfl, rfl⟩, ⟨by simp, by simp⟩, by simp, rfl, rfl, ⟨_, rfl, rfl⟩, ⟨_, rfl, rfl⟩, id rfl⟩
theorem c_textsEach : Contract E 33 := by
  refine contract_boxT hE hgl (show E.P.funcs[33]? = some Tryd.f33 from Tryd.func33) rfl (p := sp_textsEach) (fun _ _ _ => rfl) ?_
  intro args ds tv hv hdl htl
  unfold sp_textsEach at hv ⊢
  split at hv
  case h_2 => exact hv.elim
  rename_i a b alone t es n
  refine ⟨by simp, Nat.le_of_ble_eq_true rfl, ?_⟩
  obtain ⟨rfl, hn, l, rfl⟩ := hv
  simp (config := {dsimp := false}) only [↓vp0, vz, vn, nq, tys, cellD, wideIR, if_true, if_false, implies_true, forall_const, ne_eq, reduceIte, reduceCtorEq, Nat.reduceEqDiff, Nat.reduceAdd, Nat.reduceMul, Nat.reduceLT, Nat.reduceSub, Nat.reduceLeDiff, Nat.reduceBNe, Nat.reduceBEq, Nat.reduceBeqDiff, List.range, List.range.loop, gl0, Tryd.ntmps33, Tryd.results33, retB, vb]
  refine ⟨by have := slis_length l; omega, .inr trivial, .inr trivial, [], [], [], ⟨rfl, rfl⟩, ⟨rfl, rfl⟩, ⟨by simp, by simp⟩, by simp, rfl, rfl, ⟨_, rfl, ?_⟩, ⟨_, rfl, rfl⟩, id rfl⟩
  simp only [List.map_cons, List.map_nil, show (D.sli Own.no .u8 t).bare = .sli .no .u8 t from rfl, show [D.sli Own.no .u8 t] = slis [t] from rfl, slis_append]
  exact congrArg (fun x => [D.sl (.tok 0) 1 x]) (strips_slis' true _)
end Go.Vi.CK
end

section
set_option linter.unusedVariables false
set_option linter.unusedSimpArgs false
set_option maxHeartbeats 0
set_option maxRecDepth 20000
namespace Go.Vi.CK
open Go.Proofs

end Go.Vi.CK
end

section
set_option linter.unusedVariables false
namespace Go.Proofs
open Go.RowKit Go.Shelf
attribute [local go_sem] Oper.semAt_some
set_option maxHeartbeats 1000000 in
theorem Tryd.Chunk_in (F : Fence) (n : Nat) (h5 : F.fn 45) (hro : F.round = none) (a : Option Addr) (len cap : Nat) (w : World) :
    CallsIn F n Tryd.prog 45 #[.slice a len cap, .int .i64 2] w fun e w' => e = .returned (.func (.func 56) #[] #[.pointer (some ⟨w.heap.size, 0, none⟩), .pointer (some ⟨w.heap.size + 1, 0, none⟩)]) ∧ w' = (w.alloc (.cells #[.slice a len cap] 43)).alloc (.cells #[.int .i64 2] 3) := by
  refine callsIn_of_wp Tryd.func45 rfl h5 ?_ hro
  simp only [Tryd.ntmps45, List.size_toArray, List.length_cons, List.length_nil, Nat.reduceAdd, Nat.reduceSub, Array.replicate_succ, Array.replicate_zero, List.push_toArray, List.append_toArray, List.nil_append, List.cons_append]
  gi_wp2
  go_ret
  exact ⟨rfl, rfl⟩
end Go.Proofs
namespace Go.Vi.CK
open Go.Proofs Go.RowKit
theorem c_chunk : Contract E 45 := by
  refine contract_calls2 (p := sp_chunk 56) (ks := []) (fun args s nm => spec_chunk args s nm) ?_
  · intro xs hv g w vs hl0 hr
    unfold sp_chunk at hv ⊢
    split at hv
    case h_2 => exact hv.elim
    rename_i es
    obtain ⟨v1, r1, rfl, ⟨a, c, vE, e1, hc, hes, hrow, _⟩, v2, r2, rfl, e2, e3⟩ := hr
    have e2 : [v2] = [.int .i64 2] := e2
    have e3 : r2 = [] := e3
    simp only [List.cons.injEq, and_true] at e1 e2
    subst e1 e2 e3
    refine (callsIn_wide (n := 0)).1 ((Tryd.Chunk_in Fence.wide 0 trivial rfl a es.length c w).mono ?_)
    rintro e w' ⟨rfl, rfl⟩
    have hb : Below w.heap.size w ((w.alloc (.cells #[.slice a es.length c] 43)).alloc (.cells #[.int .i64 2] 3)) := ((Below.refl _ w).alloc (Nat.le_refl _) _).alloc (by simp) _
    refine ⟨_, rfl, ?_, hb⟩
    have hx : Ext g w (g.newer w ((w.alloc (.cells #[.slice a es.length c] 43)).alloc (.cells #[.int .i64 2] 3))) _ := Gh.newer_ext hl0 hb
    have c1 : ((w.alloc (.cells #[.slice a es.length c] 43)).alloc (.cells #[.int .i64 2] 3)).heap[w.heap.size]? = some (.cells #[.slice a es.length c] 43) := by
      rw [Below.heap_alloc _ _ _ (by simp)]; exact World.alloc_heap_new w _
    have c2 : ((w.alloc (.cells #[.slice a es.length c] 43)).alloc (.cells #[.int .i64 2] 3)).heap[w.heap.size + 1]? = some (.cells #[.int .i64 2] 3) := by
      have := World.alloc_heap_new (w.alloc (.cells #[.slice a es.length c] 43)) (.cells #[.int .i64 2] 3)
      rwa [World.size_alloc] at this
    generalize ((w.alloc (.cells #[.slice a es.length c] 43)).alloc (.cells #[.int .i64 2] 3)) = w' at hx c1 c2
    refine ⟨[.pointer (some ⟨w.heap.size, 0, none⟩), .pointer (some ⟨w.heap.size + 1, 0, none⟩)], rfl, [.pointer (some ⟨w.heap.size, 0, none⟩)], [.pointer (some ⟨w.heap.size + 1, 0, none⟩)], rfl,
      ⟨w.heap.size, 0, [.slice a es.length c], rfl, ⟨a, c, vE, rfl, hc, RepEs.ext hx.bare es hes, Row.ext (g := g.bare) (g' := (g.newer w w').bare) hx.bare hrow, trivial⟩, ?_, ?_⟩,
      [.pointer (some ⟨w.heap.size + 1, 0, none⟩)], [], rfl, ⟨w.heap.size + 1, 0, [.int .i64 2], rfl, rfl, ?_, ?_⟩, rfl⟩
    · simp [Gh.newer, rowSize, c1]
    · intro i v hv
      cases i with
      | zero => simp at hv; subst hv; simp [World.cell?, c1]
      | succ i => simp at hv
    · simp [Gh.newer, rowSize, c2, show ¬ (w.heap.size + 1 < w.heap.size) by omega]
    · intro i v hv
      cases i with
      | zero => simp at hv; subst hv; simp [World.cell?, c2]
      | succ i => simp at hv
end Go.Vi.CK
end

section
set_option linter.unusedVariables false
set_option linter.unusedSimpArgs false
set_option maxHeartbeats 0
set_option maxRecDepth 20000
namespace Go.Vi.CK
open Go.Proofs

theorem strips_snoc (T l : L2) (x : List Int) : D.strips true (slis (T ++ l) ++ [.sli .no .u8 x]) = slis (T ++ (l ++ [x])) := by
  rw [show [D.sli .no .u8 x] = slis [x] from rfl, slis_append, strips_slis', List.append_assoc]
theorem w21 : IntKind.wrap .i64 (((2 : Nat) : Int) - 1) = 1 := rfl
theorem w10 : IntKind.wrap .i64 (((1 : Nat) : Int) - 1) = 0 := rfl
theorem chunk_two (l : L2) (i : Nat) (h : 2 * i + 2 ≤ l.length) : chunkEl (arrs l) i = .sl .full 32 [.arr .u8 32 (l.getD (2 * i) []), .arr .u8 32 (l.getD (2 * i + 1) [])] := by
  unfold chunkEl
  congr 1
  apply List.ext_getElem
  · simp [arrs]; omega
  · intro j h1 h2
    simp [arrs] at h1 h2 ⊢
    match j with
    | 0 => simp [List.getD, show 2 * i < l.length by omega]
    | 1 => simp [List.getD, show 2 * i + 1 < l.length by omega]
theorem chunk_one (l : L2) (i : Nat) (h : 2 * i + 1 = l.length) : chunkEl (arrs l) i = .sl .full 32 [.arr .u8 32 (l.getD (2 * i) [])] := by
  unfold chunkEl
  congr 1
  apply List.ext_getElem
  · simp [arrs]; omega
  · intro j h1 h2
    simp [arrs] at h1 h2 ⊢
    obtain rfl : j = 0 := by omega
    simp [List.getD, show 2 * i < l.length by omega]
theorem c_rows : Contract E 24 := by
  refine contract_boxT hE hgl (show E.P.funcs[24]? = some Tryd.f24 from Tryd.func24) rfl (p := (sp_rows 25 33 0)) (fun _ _ _ => rfl) ?_
  intro args ds tv hv hdl htl
  unfold sp_rows at hv ⊢
  split at hv
  case h_6 => exact hv.elim
  case h_1 =>
    rename_i es g m
    obtain ⟨rfl, ⟨l, rfl, hl⟩, hlen⟩ := hv
    simp only [arrs_length] at hlen
    refine ⟨by simp, Nat.le_of_ble_eq_true rfl, ?_⟩
    simp (config := {dsimp := false}) only [↓vp0, vz, vn, nq, tys, cellD, wideIR, if_true, if_false, implies_true, forall_const, ne_eq, reduceIte, reduceCtorEq, Nat.reduceEqDiff, Nat.reduceAdd, Nat.reduceMul, Nat.reduceLT, Nat.reduceSub, Nat.reduceLeDiff, Nat.reduceBNe, Nat.reduceBEq, Nat.reduceBeqDiff, List.range, List.range.loop, gl0, Tryd.ntmps24, Tryd.results24, retB, vb, arrs_length, hs_arrs]
    refine ⟨fun h0 => ?_, fun h0 => ?_⟩
    · have h0 := of_decide_eq_true h0
      obtain rfl : l = [] := List.eq_nil_of_length_eq_zero (by omega)
      exact ⟨[], [], [], ⟨rfl, rfl⟩, ⟨rfl, rfl⟩, ⟨by simp, by simp⟩, by simp, rfl, rfl, ⟨_, rfl, (by rw [allP_nil]; rfl)⟩, ⟨_, rfl, rfl⟩, id (by rw [rootP_nil]; rfl)⟩
    have h0 := of_decide_eq_false h0
    have hne : l ≠ [] := fun e => by subst e; simp at h0
    refine loopI {k : Nat // k ≤ dep l.length} (fun k => [(0, .sl .no 32 (arrs (rowAt l k.1))), (3, .bp 8 0), (4, .bp 12 0)]) (fun k => ⟨[(0, .bool ((pairsTo l k.1).foldl mutS m)), (8, .fn 25 [.bp 0 0]), (12, .arr .u8 32 (List.replicate 32 0))], [], 28⟩) (fun k => dep l.length - k.1) ⟨0, Nat.zero_le _⟩ (fun _ => rfl) ?_ ?_
    · exact ⟨⟨wkD_eq rfl, rfl, wkD_eq rfl, rfl, wkD_eq rfl, rfl, trivial⟩, ⟨rfl, Nat.le_of_ble_eq_true rfl, rfl, rfl, Nat.le_of_ble_eq_true rfl, rfl, rfl, Nat.le_of_ble_eq_true rfl, rfl, trivial⟩, trivial⟩
    rintro ⟨k, hk⟩
    have hk1 := row_more k l
    have hk2 := row_h32 hl k
    have hk3 := row_len_le l k
    simp (config := {dsimp := false}) only [↓vp0, vz, vn, nq, tys, cellD, wideIR, if_true, if_false, implies_true, forall_const, ne_eq, reduceIte, reduceCtorEq, Nat.reduceEqDiff, Nat.reduceAdd, Nat.reduceMul, Nat.reduceLT, Nat.reduceSub, Nat.reduceLeDiff, Nat.reduceBNe, Nat.reduceBEq, Nat.reduceBeqDiff, List.range, List.range.loop, gl0, Tryd.ntmps24, Tryd.results24, retB, vb, arrs_length, spec_chunk, sp_chunk, c_chunk, b_chunk, gives, PF.toR]
    refine ⟨fun h => ?_, fun h => ?_⟩
    · have h := of_decide_eq_true h
      have hkd : k < dep l.length := hk1.1 (by omega)
      generalize hr : rowAt l k = r at hk1 hk2 hk3 h
      rw [strips_arrs]
      refine rangeB [(40, none, 32)] ?_
      simp (config := {dsimp := false}) only [↓vp0, vz, vn, nq, tys, cellD, wideIR, if_true, if_false, implies_true, forall_const, ne_eq, reduceIte, reduceCtorEq, Nat.reduceEqDiff, Nat.reduceAdd, Nat.reduceMul, Nat.reduceLT, Nat.reduceSub, Nat.reduceLeDiff, Nat.reduceBNe, Nat.reduceBEq, Nat.reduceBeqDiff, List.range, List.range.loop, gl0, Tryd.ntmps24, Tryd.results24, adoptB]
      generalize hm' : (pairsTo l k).foldl mutS m = m'
      refine rangeI [(3, .bp 8 0), (4, .bp 12 0), (5, .bp 40 0), (18, .fn 56 [.ip (.sl .no 32 (arrs r)) 0, .ip (.int .i64 2) 0])]
        (fun pre => ⟨[(0, .bool ((pre.map fun i => pairAt r i.1).foldl mutS m')), (8, .fn 25 [.bp 0 0]), (12, .arr .u8 32 (List.replicate 32 0)), (40, .sl (.tok 52) 32 (arrs (pre.map fun i => joinP (pairAt r i.1))))], [(52, (pre.length, 32))], 56⟩)
        [(6, .tmp 19)] (iter_chunk rfl (arrs r) (by intro e; have := congrArg List.length e; simp [arrs] at this; subst this; simp at h) (by rw [arrs_length]; omega)) rfl (fun _ => rfl) ⟨rfl, by kernel_rfl, by kernel_rfl, by kernel_rfl⟩ (fun _ => rfl) ⟨⟨wkD_eq rfl, rfl, wkD_eq rfl, rfl, wkD_eq rfl, rfl, wkD_eq rfl, rfl, trivial⟩, ⟨rfl, Nat.le_of_ble_eq_true rfl, rfl, rfl, Nat.le_of_ble_eq_true rfl, rfl, rfl, Nat.le_of_ble_eq_true rfl, rfl, rfl, Nat.le_of_ble_eq_true rfl, rfl, trivial⟩, ⟨rfl, Nat.le_of_ble_eq_true rfl, trivial⟩⟩ ?_ ?_
      · rintro pre ⟨i, hi⟩ hpre
        have hi' : i < (r.length + 1) / 2 := by have := hi; rwa [arrs_length] at this
        have hpre' : pre.length < (r.length + 1) / 2 := by have := arrs_length r; omega
        by_cases h2 : 2 * i + 2 ≤ r.length
        · have hpa : ∀ q : List (Fin (((arrs r).length + 1) / 2)), (q ++ [(⟨i, hi⟩ : Fin (((arrs r).length + 1) / 2))]).map (fun i : Fin (((arrs r).length + 1) / 2) => pairAt r i.1) = q.map (fun i : Fin (((arrs r).length + 1) / 2) => pairAt r i.1) ++ [(r.getD (2 * i) [], r.getD (2 * i + 1) [], false)] := fun q => by simp [pairAt, h2]
          have hpb : ∀ q : List (Fin (((arrs r).length + 1) / 2)), (q ++ [(⟨i, hi⟩ : Fin (((arrs r).length + 1) / 2))]).map (fun i : Fin (((arrs r).length + 1) / 2) => joinP (pairAt r i.1)) = q.map (fun i : Fin (((arrs r).length + 1) / 2) => joinP (pairAt r i.1)) ++ [H2 (r.getD (2 * i) []) (r.getD (2 * i + 1) [])] := fun q => by simp [pairAt, h2, joinP]
          simp only [chunk_two r i h2, hpa, hpb]
          have ha := hk2 _ (getD_mem (show 2 * i < r.length by omega))
          have hb := hk2 _ (getD_mem (show 2 * i + 1 < r.length by omega))
          generalize r.getD (2 * i) [] = a at ha
          generalize r.getD (2 * i + 1) [] = b at hb
          simp (config := {dsimp := false}) only [↓vp0, vz, vn, nq, tys, cellD, wideIR, if_true, if_false, implies_true, forall_const, ne_eq, reduceIte, reduceCtorEq, Nat.reduceEqDiff, Nat.reduceAdd, Nat.reduceMul, Nat.reduceLT, Nat.reduceSub, Nat.reduceLeDiff, Nat.reduceBNe, Nat.reduceBEq, Nat.reduceBeqDiff, List.range, List.range.loop, gl0, Tryd.ntmps24, Tryd.results24, arrs_length]
          refine drawX [6, 3, 4, 5, 18] [(9, [0, 1, 2, 3, 4, 5, 6, 7, 8, 10]), (10, [0, 1, 2, 3, 4, 5, 6, 7, 8, 9]), (11, [3, 4, 5, 6, 7, 8])] [(11, [92])] (by kernel_rfl) (wild_of rfl) ?_
          simp (config := {dsimp := false}) only [↓vp0, vz, vn, nq, tys, cellD, wideIR, if_true, if_false, implies_true, forall_const, ne_eq, reduceIte, reduceCtorEq, Nat.reduceEqDiff, Nat.reduceAdd, Nat.reduceMul, Nat.reduceLT, Nat.reduceSub, Nat.reduceLeDiff, Nat.reduceBNe, Nat.reduceBEq, Nat.reduceBeqDiff, List.range, List.range.loop, gl0, Tryd.ntmps24, Tryd.results24, vb, ↓vy0, vx0, arrs_length, w21, show Int.toNat 0 = 0 from rfl, show Int.toNat 1 = 1 from rfl, List.getD_cons_zero, List.getD_cons_succ, PF.toR, gives, givesIf, ha, hb, spec_pair, sp_pair, c_pair, b_pair, spec_rootEach, sp_rootEach, c_rootEach, b_rootEach]
          refine ⟨by decide, by decide, by decide, by decide, okUps_of (by kernel_rfl) rfl, okUps_of (by kernel_rfl) rfl, okUps_of (by kernel_rfl) rfl, okUps_all rfl (by kernel_rfl), ?_⟩
          refine drawI [5, 9] (by kernel_rfl) ?_
          simp (config := {dsimp := false}) only [↓vp0, vz, vn, nq, tys, cellD, wideIR, if_true, if_false, implies_true, forall_const, ne_eq, reduceIte, reduceCtorEq, Nat.reduceEqDiff, Nat.reduceAdd, Nat.reduceMul, Nat.reduceLT, Nat.reduceSub, Nat.reduceLeDiff, Nat.reduceBNe, Nat.reduceBEq, Nat.reduceBeqDiff, List.range, List.range.loop, gl0, Tryd.ntmps24, Tryd.results24, PF.toR, gives, givesIf, List.length_append, ha, hb, spec_twice, sp_twice, c_twice, b_twice, List.foldl_append, List.foldl_cons, List.foldl_nil]
          have hpl : (arrs (pre.map fun i => joinP (pairAt r i.1))).length = pre.length := by rw [arrs_length, List.length_map]
          refine ⟨by rw [hpl], by rw [hpl]; omega, .inr trivial, .inr trivial, by kernel_rfl, by kernel_rfl, ⟨trivial, ⟨rfl, Nat.le_of_ble_eq_true rfl, rfl, rfl, Nat.le_of_ble_eq_true rfl, rfl, rfl, Nat.le_of_ble_eq_true rfl, rfl, ?_, Nat.le_of_ble_eq_true rfl, rfl, trivial⟩, ⟨?_, Nat.le_of_ble_eq_true rfl, trivial⟩⟩⟩
          · exact congrArg (fun x => some (D.sl (.tok 52) 32 x)) (arrs_append _ [H2 a b])
          · exact congrArg (fun n => some (n + 1, 32)) hpl
        · have h3 : 2 * i + 1 = r.length := by omega
          have hpa : ∀ q : List (Fin (((arrs r).length + 1) / 2)), (q ++ [(⟨i, hi⟩ : Fin (((arrs r).length + 1) / 2))]).map (fun i : Fin (((arrs r).length + 1) / 2) => pairAt r i.1) = q.map (fun i : Fin (((arrs r).length + 1) / 2) => pairAt r i.1) ++ [(r.getD (2 * i) [], r.getD (2 * i) [], true)] := fun q => by simp [pairAt, h2]
          have hpb : ∀ q : List (Fin (((arrs r).length + 1) / 2)), (q ++ [(⟨i, hi⟩ : Fin (((arrs r).length + 1) / 2))]).map (fun i : Fin (((arrs r).length + 1) / 2) => joinP (pairAt r i.1)) = q.map (fun i : Fin (((arrs r).length + 1) / 2) => joinP (pairAt r i.1)) ++ [H2 (r.getD (2 * i) []) (r.getD (2 * i) [])] := fun q => by simp [pairAt, h2, joinP]
          simp only [chunk_one r i h3, hpa, hpb]
          have ha := hk2 _ (getD_mem (show 2 * i < r.length by omega))
          generalize r.getD (2 * i) [] = a at ha
          simp (config := {dsimp := false}) only [↓vp0, vz, vn, nq, tys, cellD, wideIR, if_true, if_false, implies_true, forall_const, ne_eq, reduceIte, reduceCtorEq, Nat.reduceEqDiff, Nat.reduceAdd, Nat.reduceMul, Nat.reduceLT, Nat.reduceSub, Nat.reduceLeDiff, Nat.reduceBNe, Nat.reduceBEq, Nat.reduceBeqDiff, List.range, List.range.loop, gl0, Tryd.ntmps24, Tryd.results24, arrs_length]
          refine drawX [6, 3, 4, 5, 18] [(9, [0, 1, 2, 3, 4, 5, 6, 7, 8, 10]), (10, [0, 1, 2, 3, 4, 5, 6, 7, 8, 9]), (11, [3, 4, 5, 6, 7, 8])] [(11, [92])] (by kernel_rfl) (wild_of rfl) ?_
          simp (config := {dsimp := false}) only [↓vp0, vz, vn, nq, tys, cellD, wideIR, if_true, if_false, implies_true, forall_const, ne_eq, reduceIte, reduceCtorEq, Nat.reduceEqDiff, Nat.reduceAdd, Nat.reduceMul, Nat.reduceLT, Nat.reduceSub, Nat.reduceLeDiff, Nat.reduceBNe, Nat.reduceBEq, Nat.reduceBeqDiff, List.range, List.range.loop, gl0, Tryd.ntmps24, Tryd.results24, vb, ↓vy0, vx0, arrs_length, w10, show Int.toNat 0 = 0 from rfl, show Int.toNat 1 = 1 from rfl, List.getD_cons_zero, List.getD_cons_succ, PF.toR, gives, givesIf, ha, spec_pair, sp_pair, c_pair, b_pair, spec_rootEach, sp_rootEach, c_rootEach, b_rootEach]
          refine ⟨by decide, by decide, by decide, by decide, okUps_of (by kernel_rfl) rfl, okUps_of (by kernel_rfl) rfl, okUps_of (by kernel_rfl) rfl, okUps_all rfl (by kernel_rfl), ?_⟩
          refine drawI [5, 9] (by kernel_rfl) ?_
          simp (config := {dsimp := false}) only [↓vp0, vz, vn, nq, tys, cellD, wideIR, if_true, if_false, implies_true, forall_const, ne_eq, reduceIte, reduceCtorEq, Nat.reduceEqDiff, Nat.reduceAdd, Nat.reduceMul, Nat.reduceLT, Nat.reduceSub, Nat.reduceLeDiff, Nat.reduceBNe, Nat.reduceBEq, Nat.reduceBeqDiff, List.range, List.range.loop, gl0, Tryd.ntmps24, Tryd.results24, PF.toR, gives, givesIf, List.length_append, ha, spec_twice, sp_twice, c_twice, b_twice, List.foldl_append, List.foldl_cons, List.foldl_nil]
          have hpl : (arrs (pre.map fun i => joinP (pairAt r i.1))).length = pre.length := by rw [arrs_length, List.length_map]
          refine ⟨by rw [hpl], by rw [hpl]; omega, .inr trivial, .inr trivial, by kernel_rfl, by kernel_rfl, ⟨trivial, ⟨rfl, Nat.le_of_ble_eq_true rfl, rfl, rfl, Nat.le_of_ble_eq_true rfl, rfl, rfl, Nat.le_of_ble_eq_true rfl, rfl, ?_, Nat.le_of_ble_eq_true rfl, rfl, trivial⟩, ⟨?_, Nat.le_of_ble_eq_true rfl, trivial⟩⟩⟩
          · exact congrArg (fun x => some (D.sl (.tok 52) 32 x)) (arrs_append _ [H2 a a])
          · exact congrArg (fun n => some (n + 1, 32)) hpl
      · simp (config := {dsimp := false}) only [↓vp0, vz, vn, nq, tys, cellD, wideIR, if_true, if_false, implies_true, forall_const, ne_eq, reduceIte, reduceCtorEq, Nat.reduceEqDiff, Nat.reduceAdd, Nat.reduceMul, Nat.reduceLT, Nat.reduceSub, Nat.reduceLeDiff, Nat.reduceBNe, Nat.reduceBEq, Nat.reduceBeqDiff, List.range, List.range.loop, gl0, Tryd.ntmps24, Tryd.results24, retB, vb]
        simp only [above_fin r (show ((arrs r).length + 1) / 2 = (r.length + 1) / 2 by rw [arrs_length]), pairs_fin r (show ((arrs r).length + 1) / 2 = (r.length + 1) / 2 by rw [arrs_length])]
        subst hr hm'
        refine ⟨⟨k + 1, hkd⟩, ⟨⟨.inr ⟨_, rfl⟩, rfl, wkD_eq rfl, rfl, wkD_eq rfl, rfl, trivial⟩, ⟨?_, Nat.le_of_ble_eq_true rfl, rfl, rfl, Nat.le_of_ble_eq_true rfl, rfl, rfl, Nat.le_of_ble_eq_true rfl, rfl, trivial⟩, trivial⟩, by (try simp only); omega⟩
        exact congrArg (fun b => some (D.bool b)) (List.foldl_append ..).symm
    · have h := of_decide_eq_false h
      have h00 := arrs_get (rowAt l k) 0 (List.length_pos_iff.2 (row_pos l hne k))
      simp (config := {dsimp := false}) only [↓vp0, vz, vn, nq, tys, cellD, wideIR, if_true, if_false, implies_true, forall_const, ne_eq, reduceIte, reduceCtorEq, Nat.reduceEqDiff, Nat.reduceAdd, Nat.reduceMul, Nat.reduceLT, Nat.reduceSub, Nat.reduceLeDiff, Nat.reduceBNe, Nat.reduceBEq, Nat.reduceBeqDiff, List.range, List.range.loop, gl0, Tryd.ntmps24, Tryd.results24, retB, vb, h00, show Int.toNat 0 = 0 from rfl]
      have he := row_end hk (by omega)
      have hp := List.length_pos_iff.2 (row_pos l hne k)
      refine ⟨by decide, by omega, [], [], [], ⟨rfl, rfl⟩, ⟨rfl, rfl⟩, ⟨by simp, by simp⟩, by simp, rfl, rfl, ⟨_, rfl, ?_⟩, ⟨_, rfl, rfl⟩, ?_⟩
      · rw [hs_arrs, allP, ← he]
        rfl
      · rw [hs_arrs, rootP, if_neg hne, ← he]
        exact id rfl
  case h_2 =>
    rename_i g z
    obtain ⟨rfl, -⟩ := hv
    refine ⟨by simp, Nat.le_of_ble_eq_true rfl, ?_⟩
    simp (config := {dsimp := false}) only [↓vp0, vz, vn, nq, tys, cellD, wideIR, if_true, if_false, implies_true, forall_const, ne_eq, reduceIte, reduceCtorEq, Nat.reduceEqDiff, Nat.reduceAdd, Nat.reduceMul, Nat.reduceLT, Nat.reduceSub, Nat.reduceLeDiff, Nat.reduceBNe, Nat.reduceBEq, Nat.reduceBeqDiff, List.range, List.range.loop, gl0, Tryd.ntmps24, Tryd.results24, retB, vb, show decide (((0 : Nat) : Int) = 0) = true from rfl]
    exact ⟨[], [], [], ⟨rfl, rfl⟩, ⟨rfl, rfl⟩, ⟨by simp, by simp⟩, by simp, rfl, rfl, ⟨_, rfl, rfl⟩, ⟨_, rfl, rfl⟩, id rfl⟩
  case h_3 =>
    rename_i es g z hnn
    obtain ⟨⟨rfl, -⟩, hes0, ⟨l, rfl, hl⟩, hlen⟩ := hv
    simp only [arrs_length] at hlen
    refine ⟨by simp, Nat.le_of_ble_eq_true rfl, ?_⟩
    simp (config := {dsimp := false}) only [↓vp0, vz, vn, nq, tys, cellD, wideIR, if_true, if_false, implies_true, forall_const, ne_eq, reduceIte, reduceCtorEq, Nat.reduceEqDiff, Nat.reduceAdd, Nat.reduceMul, Nat.reduceLT, Nat.reduceSub, Nat.reduceLeDiff, Nat.reduceBNe, Nat.reduceBEq, Nat.reduceBeqDiff, List.range, List.range.loop, gl0, Tryd.ntmps24, Tryd.results24, retB, vb, arrs_length, hs_arrs]
    have hne : l ≠ [] := fun e => hes0 (by subst e; rfl)
    have hn0 : ¬ ((l.length : Int) = 0) := fun e => hne (List.eq_nil_of_length_eq_zero (by omega))
    refine ⟨fun h0 => absurd (of_decide_eq_true h0) hn0, fun h0 => ?_⟩
    refine loopB [(0, none, 1)] ?_
    simp (config := {dsimp := false}) only [↓vp0, vz, vn, nq, tys, cellD, wideIR, if_true, if_false, implies_true, forall_const, ne_eq, reduceIte, reduceCtorEq, Nat.reduceEqDiff, Nat.reduceAdd, Nat.reduceMul, Nat.reduceLT, Nat.reduceSub, Nat.reduceLeDiff, Nat.reduceBNe, Nat.reduceBEq, Nat.reduceBeqDiff, List.range, List.range.loop, gl0, Tryd.ntmps24, Tryd.results24, adoptB]
    refine ⟨{k : Nat // k ≤ dep l.length}, (fun k => [(0, .sl .no 32 (arrs (rowAt l k.1))), (3, .bp 8 0), (4, .bp 12 0)]), (fun k => ⟨[(0, .sl (.tok 28) 1 (slis ((pairsTo l k.1).map textOf))), (8, .fn 33 [.bp 0 0]), (12, .arr .u8 32 (List.replicate 32 0))], [(28, ((pairsTo l k.1).length, 1))], 32⟩), (fun k => dep l.length - k.1), ⟨0, Nat.zero_le _⟩, (fun _ => rfl), ?_, ?_⟩
    · exact ⟨⟨wkD_eq rfl, rfl, wkD_eq rfl, rfl, wkD_eq rfl, rfl, trivial⟩, ⟨rfl, Nat.le_of_ble_eq_true rfl, rfl, rfl, Nat.le_of_ble_eq_true rfl, rfl, rfl, Nat.le_of_ble_eq_true rfl, rfl, trivial⟩, ⟨rfl, Nat.le_of_ble_eq_true rfl, trivial⟩⟩
    rintro ⟨k, hk⟩
    have hk1 := row_more k l
    have hk2 := row_h32 hl k
    have hk3 := row_len_le l k
    simp (config := {dsimp := false}) only [↓vp0, vz, vn, nq, tys, cellD, wideIR, if_true, if_false, implies_true, forall_const, ne_eq, reduceIte, reduceCtorEq, Nat.reduceEqDiff, Nat.reduceAdd, Nat.reduceMul, Nat.reduceLT, Nat.reduceSub, Nat.reduceLeDiff, Nat.reduceBNe, Nat.reduceBEq, Nat.reduceBeqDiff, List.range, List.range.loop, gl0, Tryd.ntmps24, Tryd.results24, retB, vb, arrs_length, spec_chunk, sp_chunk, c_chunk, b_chunk, gives, PF.toR]
    refine ⟨fun h => ?_, fun h => ?_⟩
    · have h := of_decide_eq_true h
      have hkd : k < dep l.length := hk1.1 (by omega)
      generalize hr : rowAt l k = r at hk1 hk2 hk3 h
      rw [strips_arrs]
      refine rangeB [(44, none, 32)] ?_
      simp (config := {dsimp := false}) only [↓vp0, vz, vn, nq, tys, cellD, wideIR, if_true, if_false, implies_true, forall_const, ne_eq, reduceIte, reduceCtorEq, Nat.reduceEqDiff, Nat.reduceAdd, Nat.reduceMul, Nat.reduceLT, Nat.reduceSub, Nat.reduceLeDiff, Nat.reduceBNe, Nat.reduceBEq, Nat.reduceBeqDiff, List.range, List.range.loop, gl0, Tryd.ntmps24, Tryd.results24, adoptB]
      have hT : ((pairsTo l k).map textOf).length = (pairsTo l k).length := List.length_map ..
      have hT2 : (pairsTo l k).length ≤ 3000 := by have := pairsTo_len l (by omega) k hk; have := dep_lt l.length (List.length_pos_iff.2 hne); omega
      generalize hm' : (pairsTo l k).map textOf = T at hT
      generalize hn' : (pairsTo l k).length = n' at hT hT2
      refine rangeI [(3, .bp 8 0), (4, .bp 12 0), (5, .bp 44 0), (18, .fn 56 [.ip (.sl .no 32 (arrs r)) 0, .ip (.int .i64 2) 0])]
        (fun pre => ⟨[(0, .sl (.tok 28) 1 (slis (T ++ pre.map fun i => textOf (pairAt r i.1)))), (8, .fn 33 [.bp 0 0]), (12, .arr .u8 32 (List.replicate 32 0)), (44, .sl (.tok 56) 32 (arrs (pre.map fun i => joinP (pairAt r i.1))))], [(28, (n' + pre.length, 1)), (56, (pre.length, 32))], 60⟩)
        [(6, .tmp 19)] (iter_chunk rfl (arrs r) (by intro e; have := congrArg List.length e; simp [arrs] at this; subst this; simp at h) (by rw [arrs_length]; omega)) rfl (fun _ => rfl) ⟨rfl, by kernel_rfl, by kernel_rfl, by kernel_rfl⟩ (fun _ => rfl) ⟨⟨wkD_eq rfl, rfl, wkD_eq rfl, rfl, wkD_eq rfl, rfl, wkD_eq rfl, rfl, trivial⟩, ⟨?_, Nat.le_of_ble_eq_true rfl, rfl, rfl, Nat.le_of_ble_eq_true rfl, rfl, rfl, Nat.le_of_ble_eq_true rfl, rfl, rfl, Nat.le_of_ble_eq_true rfl, rfl, trivial⟩, ⟨rfl, Nat.le_of_ble_eq_true rfl, rfl, Nat.le_of_ble_eq_true rfl, trivial⟩⟩ ?_ ?_
      · exact congrArg (fun x => some (D.sl (.tok 28) 1 (slis x))) (List.append_nil T).symm
      · rintro pre ⟨i, hi⟩ hpre
        have hi' : i < (r.length + 1) / 2 := by have := hi; rwa [arrs_length] at this
        have hpre' : pre.length < (r.length + 1) / 2 := by have := arrs_length r; omega
        by_cases h2 : 2 * i + 2 ≤ r.length
        · have hpa : ∀ q : List (Fin (((arrs r).length + 1) / 2)), (q ++ [(⟨i, hi⟩ : Fin (((arrs r).length + 1) / 2))]).map (fun i : Fin (((arrs r).length + 1) / 2) => textOf (pairAt r i.1)) = q.map (fun i : Fin (((arrs r).length + 1) / 2) => textOf (pairAt r i.1)) ++ [r.getD (2 * i) [] ++ r.getD (2 * i + 1) []] := fun q => by simp [pairAt, h2, textOf]
          have hpb : ∀ q : List (Fin (((arrs r).length + 1) / 2)), (q ++ [(⟨i, hi⟩ : Fin (((arrs r).length + 1) / 2))]).map (fun i : Fin (((arrs r).length + 1) / 2) => joinP (pairAt r i.1)) = q.map (fun i : Fin (((arrs r).length + 1) / 2) => joinP (pairAt r i.1)) ++ [H2 (r.getD (2 * i) []) (r.getD (2 * i + 1) [])] := fun q => by simp [pairAt, h2, joinP]
          simp only [chunk_two r i h2, hpa, hpb]
          have ha := hk2 _ (getD_mem (show 2 * i < r.length by omega))
          have hb := hk2 _ (getD_mem (show 2 * i + 1 < r.length by omega))
          generalize r.getD (2 * i) [] = a at ha
          generalize r.getD (2 * i + 1) [] = b at hb
          simp (config := {dsimp := false}) only [↓vp0, vz, vn, nq, tys, cellD, wideIR, if_true, if_false, implies_true, forall_const, ne_eq, reduceIte, reduceCtorEq, Nat.reduceEqDiff, Nat.reduceAdd, Nat.reduceMul, Nat.reduceLT, Nat.reduceSub, Nat.reduceLeDiff, Nat.reduceBNe, Nat.reduceBEq, Nat.reduceBeqDiff, List.range, List.range.loop, gl0, Tryd.ntmps24, Tryd.results24, arrs_length]
          have hTl : (slis (T ++ pre.map fun i => textOf (pairAt r i.1))).length = n' + pre.length := by rw [slis_length, List.length_append, List.length_map, hT]
          refine drawX [6, 3, 4, 5, 18] [(9, [0, 1, 2, 3, 4, 5, 6, 7, 8, 10]), (10, [0, 1, 2, 3, 4, 5, 6, 7, 8, 9]), (11, [3, 4, 5, 6, 7, 8])] [(11, [96])] (by kernel_rfl) (wild_of rfl) ?_
          simp (config := {dsimp := false}) only [↓vp0, vz, vn, nq, tys, cellD, wideIR, if_true, if_false, implies_true, forall_const, ne_eq, reduceIte, reduceCtorEq, Nat.reduceEqDiff, Nat.reduceAdd, Nat.reduceMul, Nat.reduceLT, Nat.reduceSub, Nat.reduceLeDiff, Nat.reduceBNe, Nat.reduceBEq, Nat.reduceBeqDiff, List.range, List.range.loop, gl0, Tryd.ntmps24, Tryd.results24, vb, ↓vy0, vx0, arrs_length, w21, show Int.toNat 0 = 0 from rfl, show Int.toNat 1 = 1 from rfl, List.getD_cons_zero, List.getD_cons_succ, PF.toR, gives, givesIf, ha, hb, spec_pair, sp_pair, c_pair, b_pair, spec_textsEach, sp_textsEach, c_textsEach, b_textsEach, strips_slis']
          refine ⟨by decide, by decide, by decide, by decide, okUps_of (by kernel_rfl) rfl, okUps_of (by kernel_rfl) rfl, okUps_of (by kernel_rfl) rfl, okUps_all rfl (by kernel_rfl), by first | rw [hTl] | exact hTl.symm.trans (slis_length _), by omega, ⟨_, rfl⟩, ?_⟩
          refine drawI [5, 9] (by kernel_rfl) ?_
          simp (config := {dsimp := false}) only [↓vp0, vz, vn, nq, tys, cellD, wideIR, if_true, if_false, implies_true, forall_const, ne_eq, reduceIte, reduceCtorEq, Nat.reduceEqDiff, Nat.reduceAdd, Nat.reduceMul, Nat.reduceLT, Nat.reduceSub, Nat.reduceLeDiff, Nat.reduceBNe, Nat.reduceBEq, Nat.reduceBeqDiff, List.range, List.range.loop, gl0, Tryd.ntmps24, Tryd.results24, PF.toR, gives, givesIf, List.length_append, ha, hb, spec_twice, sp_twice, c_twice, b_twice, List.foldl_append, List.foldl_cons, List.foldl_nil]
          have hpl : (arrs (pre.map fun i => joinP (pairAt r i.1))).length = pre.length := by rw [arrs_length, List.length_map]
          refine ⟨by rw [hpl], by rw [hpl]; omega, .inr trivial, .inr trivial, by kernel_rfl, by kernel_rfl, ⟨trivial, ⟨?_, Nat.le_of_ble_eq_true rfl, rfl, rfl, Nat.le_of_ble_eq_true rfl, rfl, rfl, Nat.le_of_ble_eq_true rfl, rfl, ?_, Nat.le_of_ble_eq_true rfl, rfl, trivial⟩, ⟨?_, Nat.le_of_ble_eq_true rfl, ?_, Nat.le_of_ble_eq_true rfl, trivial⟩⟩⟩
          · exact congrArg (fun x => some (D.sl (.tok 28) 1 x)) (strips_snoc T _ _)
          · exact congrArg (fun x => some (D.sl (.tok 56) 32 x)) (arrs_append _ [H2 a b])
          · rfl
          · exact congrArg (fun n => some (n + 1, 32)) hpl
        · have h3 : 2 * i + 1 = r.length := by omega
          have hpa : ∀ q : List (Fin (((arrs r).length + 1) / 2)), (q ++ [(⟨i, hi⟩ : Fin (((arrs r).length + 1) / 2))]).map (fun i : Fin (((arrs r).length + 1) / 2) => textOf (pairAt r i.1)) = q.map (fun i : Fin (((arrs r).length + 1) / 2) => textOf (pairAt r i.1)) ++ [r.getD (2 * i) [] ++ r.getD (2 * i) []] := fun q => by simp [pairAt, h2, textOf]
          have hpb : ∀ q : List (Fin (((arrs r).length + 1) / 2)), (q ++ [(⟨i, hi⟩ : Fin (((arrs r).length + 1) / 2))]).map (fun i : Fin (((arrs r).length + 1) / 2) => joinP (pairAt r i.1)) = q.map (fun i : Fin (((arrs r).length + 1) / 2) => joinP (pairAt r i.1)) ++ [H2 (r.getD (2 * i) []) (r.getD (2 * i) [])] := fun q => by simp [pairAt, h2, joinP]
          simp only [chunk_one r i h3, hpa, hpb]
          have ha := hk2 _ (getD_mem (show 2 * i < r.length by omega))
          generalize r.getD (2 * i) [] = a at ha
          simp (config := {dsimp := false}) only [↓vp0, vz, vn, nq, tys, cellD, wideIR, if_true, if_false, implies_true, forall_const, ne_eq, reduceIte, reduceCtorEq, Nat.reduceEqDiff, Nat.reduceAdd, Nat.reduceMul, Nat.reduceLT, Nat.reduceSub, Nat.reduceLeDiff, Nat.reduceBNe, Nat.reduceBEq, Nat.reduceBeqDiff, List.range, List.range.loop, gl0, Tryd.ntmps24, Tryd.results24, arrs_length]
          have hTl : (slis (T ++ pre.map fun i => textOf (pairAt r i.1))).length = n' + pre.length := by rw [slis_length, List.length_append, List.length_map, hT]
          refine drawX [6, 3, 4, 5, 18] [(9, [0, 1, 2, 3, 4, 5, 6, 7, 8, 10]), (10, [0, 1, 2, 3, 4, 5, 6, 7, 8, 9]), (11, [3, 4, 5, 6, 7, 8])] [(11, [96])] (by kernel_rfl) (wild_of rfl) ?_
          simp (config := {dsimp := false}) only [↓vp0, vz, vn, nq, tys, cellD, wideIR, if_true, if_false, implies_true, forall_const, ne_eq, reduceIte, reduceCtorEq, Nat.reduceEqDiff, Nat.reduceAdd, Nat.reduceMul, Nat.reduceLT, Nat.reduceSub, Nat.reduceLeDiff, Nat.reduceBNe, Nat.reduceBEq, Nat.reduceBeqDiff, List.range, List.range.loop, gl0, Tryd.ntmps24, Tryd.results24, vb, ↓vy0, vx0, arrs_length, w10, show Int.toNat 0 = 0 from rfl, show Int.toNat 1 = 1 from rfl, List.getD_cons_zero, List.getD_cons_succ, PF.toR, gives, givesIf, ha, spec_pair, sp_pair, c_pair, b_pair, spec_textsEach, sp_textsEach, c_textsEach, b_textsEach, strips_slis']
          refine ⟨by decide, by decide, by decide, by decide, okUps_of (by kernel_rfl) rfl, okUps_of (by kernel_rfl) rfl, okUps_of (by kernel_rfl) rfl, okUps_all rfl (by kernel_rfl), by first | rw [hTl] | exact hTl.symm.trans (slis_length _), by omega, ⟨_, rfl⟩, ?_⟩
          refine drawI [5, 9] (by kernel_rfl) ?_
          simp (config := {dsimp := false}) only [↓vp0, vz, vn, nq, tys, cellD, wideIR, if_true, if_false, implies_true, forall_const, ne_eq, reduceIte, reduceCtorEq, Nat.reduceEqDiff, Nat.reduceAdd, Nat.reduceMul, Nat.reduceLT, Nat.reduceSub, Nat.reduceLeDiff, Nat.reduceBNe, Nat.reduceBEq, Nat.reduceBeqDiff, List.range, List.range.loop, gl0, Tryd.ntmps24, Tryd.results24, PF.toR, gives, givesIf, List.length_append, ha, spec_twice, sp_twice, c_twice, b_twice, List.foldl_append, List.foldl_cons, List.foldl_nil]
          have hpl : (arrs (pre.map fun i => joinP (pairAt r i.1))).length = pre.length := by rw [arrs_length, List.length_map]
          refine ⟨by rw [hpl], by rw [hpl]; omega, .inr trivial, .inr trivial, by kernel_rfl, by kernel_rfl, ⟨trivial, ⟨?_, Nat.le_of_ble_eq_true rfl, rfl, rfl, Nat.le_of_ble_eq_true rfl, rfl, rfl, Nat.le_of_ble_eq_true rfl, rfl, ?_, Nat.le_of_ble_eq_true rfl, rfl, trivial⟩, ⟨?_, Nat.le_of_ble_eq_true rfl, ?_, Nat.le_of_ble_eq_true rfl, trivial⟩⟩⟩
          · exact congrArg (fun x => some (D.sl (.tok 28) 1 x)) (strips_snoc T _ _)
          · exact congrArg (fun x => some (D.sl (.tok 56) 32 x)) (arrs_append _ [H2 a a])
          · rfl
          · exact congrArg (fun n => some (n + 1, 32)) hpl
      · simp (config := {dsimp := false}) only [↓vp0, vz, vn, nq, tys, cellD, wideIR, if_true, if_false, implies_true, forall_const, ne_eq, reduceIte, reduceCtorEq, Nat.reduceEqDiff, Nat.reduceAdd, Nat.reduceMul, Nat.reduceLT, Nat.reduceSub, Nat.reduceLeDiff, Nat.reduceBNe, Nat.reduceBEq, Nat.reduceBeqDiff, List.range, List.range.loop, gl0, Tryd.ntmps24, Tryd.results24, retB, vb]
        simp only [above_fin r (show ((arrs r).length + 1) / 2 = (r.length + 1) / 2 by rw [arrs_length]), texts_fin r (show ((arrs r).length + 1) / 2 = (r.length + 1) / 2 by rw [arrs_length])]
        subst hr hm' hn'
        refine ⟨⟨k + 1, hkd⟩, ⟨⟨.inr ⟨_, rfl⟩, rfl, wkD_eq rfl, rfl, wkD_eq rfl, rfl, trivial⟩, ⟨?_, Nat.le_of_ble_eq_true rfl, rfl, rfl, Nat.le_of_ble_eq_true rfl, rfl, rfl, Nat.le_of_ble_eq_true rfl, rfl, trivial⟩, ⟨?_, Nat.le_of_ble_eq_true rfl, trivial⟩⟩, by (try simp only); omega⟩
        · exact congrArg (fun b => some (D.sl (.tok 28) 1 (slis b))) (List.map_append ..).symm
        · refine congrArg (fun n => some (n, 1)) ?_
          simp [pairsTo, pairsOf, arrs_length]
    · have h := of_decide_eq_false h
      have h00 := arrs_get (rowAt l k) 0 (List.length_pos_iff.2 (row_pos l hne k))
      simp (config := {dsimp := false}) only [↓vp0, vz, vn, nq, tys, cellD, wideIR, if_true, if_false, implies_true, forall_const, ne_eq, reduceIte, reduceCtorEq, Nat.reduceEqDiff, Nat.reduceAdd, Nat.reduceMul, Nat.reduceLT, Nat.reduceSub, Nat.reduceLeDiff, Nat.reduceBNe, Nat.reduceBEq, Nat.reduceBeqDiff, List.range, List.range.loop, gl0, Tryd.ntmps24, Tryd.results24, retB, vb, h00, show Int.toNat 0 = 0 from rfl]
      have he := row_end hk (by omega)
      have hp := List.length_pos_iff.2 (row_pos l hne k)
      refine ⟨by decide, by omega, [], [28], [], ⟨rfl, rfl⟩, ⟨rfl, rfl⟩, ⟨by simp, by simp⟩, by simp, rfl, ?_, ⟨_, rfl, ?_⟩, ⟨_, rfl, rfl⟩, ?_⟩
      · rw [hs_arrs, allP, ← he]
        rfl
      · rw [hs_arrs, allP, ← he]
        exact congrArg (fun x => [D.sl (.tok 8) 1 x]) (strips_slis' true _)
      · rw [hs_arrs, rootP, if_neg hne, ← he]
        exact id rfl
  case h_4 =>
    exact absurd rfl hv.1.2
  case h_5 =>
    rename_i g m
    subst hv
    refine ⟨by simp, Nat.le_of_ble_eq_true rfl, ?_⟩
    simp (config := {dsimp := false}) only [↓vp0, vz, vn, nq, tys, cellD, wideIR, if_true, if_false, implies_true, forall_const, ne_eq, reduceIte, reduceCtorEq, Nat.reduceEqDiff, Nat.reduceAdd, Nat.reduceMul, Nat.reduceLT, Nat.reduceSub, Nat.reduceLeDiff, Nat.reduceBNe, Nat.reduceBEq, Nat.reduceBeqDiff, List.range, List.range.loop, gl0, Tryd.ntmps24, Tryd.results24, retB, vb, show decide (((0 : Nat) : Int) = 0) = true from rfl]
    exact ⟨[], [], [], ⟨rfl, rfl⟩, ⟨rfl, rfl⟩, ⟨by simp, by simp⟩, by simp, rfl, rfl, ⟨_, rfl, rfl⟩, ⟨_, rfl, rfl⟩, id rfl⟩
end Go.Vi.CK
end

section
/-
  TWO HASHES OF PAIRS, reckoned by the kernel.
-/
namespace Go.Vi
end Go.Vi
end

section
set_option linter.unusedVariables false
set_option linter.unusedSimpArgs false
set_option maxHeartbeats 0
set_option maxRecDepth 20000
namespace Go.Vi.CK
open Go.Proofs

theorem c_root : Contract E 15 := by
  refine contract_seeT hE hgl (show E.P.funcs[15]? = some Tryd.f15 from Tryd.func15) rfl (p := sp_root) (fun _ _ _ => rfl) ?_
  intro args hv
  unfold sp_root at hv ⊢
  split at hv
  case h_3 => exact hv.elim
  case h_2 =>
    refine ⟨by simp, Nat.le_of_ble_eq_true rfl, ?_⟩
    simp (config := {dsimp := false}) only [↓vp0, vz, vn, nq, tys, cellD, wideIR, if_true, if_false, implies_true, forall_const, ne_eq, reduceIte, reduceCtorEq, Nat.reduceEqDiff, Nat.reduceAdd, Nat.reduceMul, Nat.reduceLT, Nat.reduceSub, Nat.reduceLeDiff, Nat.reduceBNe, Nat.reduceBEq, Nat.reduceBeqDiff, List.range, List.range.loop, gl0, Tryd.ntmps15, Tryd.results15, vb, PF.toR, gives, givesIf, spec_rows, sp_rows, c_rows, b_rows]
    refine drawX [2, 3] [(2, [1])] [(2, [0])] (by kernel_rfl) (wild_of rfl) ?_
    simp (config := {dsimp := false}) only [↓vp0, vz, vn, nq, tys, cellD, wideIR, if_true, if_false, implies_true, forall_const, ne_eq, reduceIte, reduceCtorEq, Nat.reduceEqDiff, Nat.reduceAdd, Nat.reduceMul, Nat.reduceLT, Nat.reduceSub, Nat.reduceLeDiff, Nat.reduceBNe, Nat.reduceBEq, Nat.reduceBeqDiff, List.range, List.range.loop, gl0, Tryd.ntmps15, Tryd.results15, vb, ↓vy0, vx0]
    ((repeat' apply And.intro) <;> first | decide | omega | exact okUps_of (by kernel_rfl) rfl | exact okUps_all rfl (by kernel_rfl) | rfl)
  rename_i es
  refine ⟨by simp, Nat.le_of_ble_eq_true rfl, ?_⟩
  simp only [givesIf] at hv
  obtain ⟨⟨l, rfl, hl⟩, hlen⟩ := hv
  simp (config := {dsimp := false}) only [↓vp0, vz, vn, nq, tys, cellD, wideIR, if_true, if_false, implies_true, forall_const, ne_eq, reduceIte, reduceCtorEq, Nat.reduceEqDiff, Nat.reduceAdd, Nat.reduceMul, Nat.reduceLT, Nat.reduceSub, Nat.reduceLeDiff, Nat.reduceBNe, Nat.reduceBEq, Nat.reduceBeqDiff, List.range, List.range.loop, gl0, Tryd.ntmps15, Tryd.results15, vb, PF.toR, gives, givesIf, spec_rows, sp_rows, c_rows, b_rows, strips_arrs, hs_arrs]
  refine ⟨⟨l, rfl, hl⟩, hlen, ?_⟩
  refine drawX [2, 3] [(2, [1])] [(2, [0])] (by kernel_rfl) (wild_of rfl) ?_
  simp (config := {dsimp := false}) only [↓vp0, vz, vn, nq, tys, cellD, wideIR, if_true, if_false, implies_true, forall_const, ne_eq, reduceIte, reduceCtorEq, Nat.reduceEqDiff, Nat.reduceAdd, Nat.reduceMul, Nat.reduceLT, Nat.reduceSub, Nat.reduceLeDiff, Nat.reduceBNe, Nat.reduceBEq, Nat.reduceBeqDiff, List.range, List.range.loop, gl0, Tryd.ntmps15, Tryd.results15, vb, ↓vy0, vx0]
  exact ⟨okUps_of (by kernel_rfl) rfl, okUps_all rfl (by kernel_rfl), by rw [hs_arrs]; rfl⟩
end Go.Vi.CK
end

section
set_option linter.unusedVariables false
set_option linter.unusedSimpArgs false
set_option maxHeartbeats 0
set_option maxRecDepth 20000
namespace Go.Vi.CK
open Go.Proofs

theorem wanted_0 {L : List TxP} (h : L.length = 0) : wantedP L = none := by
  obtain rfl := List.eq_nil_of_length_eq_zero h; rfl
theorem wanted_1 {t : TxP} {r : List TxP} (h : ¬ t.ins.length = 1) : wantedP (t :: r) = none := by
  obtain ⟨v, i, o, k⟩ := t
  match i, h with
  | [], _ => rfl
  | [x], h => exact absurd rfl h
  | x :: y :: q, _ => rfl
theorem wanted_2 {t : TxP} {r : List TxP} {x : InP} (h : t.ins = [x]) (h2 : ¬ x.wit.length = 1) : wantedP (t :: r) = none := by
  obtain ⟨v, i, o, k⟩ := t
  obtain rfl : i = [x] := h
  obtain ⟨p, n, s, q, w⟩ := x
  match w, h2 with
  | [], _ => rfl
  | [w], h2 => exact absurd rfl h2
  | w :: y :: q, _ => rfl
theorem wanted_3 {t : TxP} {r : List TxP} {x : InP} {w : List Int} (h : t.ins = [x]) (h2 : x.wit = [w]) : wantedP (t :: r) = if w.length = 32 then some (H2 (rootP (hashesP true (t :: r))) w) else none := by
  obtain ⟨v, i, o, k⟩ := t
  obtain rfl : i = [x] := h
  obtain ⟨p, n, s, q, w⟩ := x
  obtain rfl : w = [_] := h2
  rfl
theorem root_len {l : L2} (h : h32 l) : (rootP l).length = 32 := by
  unfold rootP
  split
  · simp
  · rename_i hne
    exact row_h32 h _ _ (getD_mem (List.length_pos_iff.2 (row_pos l hne _)))
theorem one_of {α : Type} {l : List α} (h : l.length = 1) : ∃ x, l = [x] := List.length_eq_one_iff.1 h
theorem c_gwanted : Contract E 55 := by
  refine contract_seeT hE hgl (show E.P.funcs[55]? = some Tryd.f55 from Tryd.func55) rfl (p := sp_gwanted) (fun _ _ _ => rfl) ?_
  intro args hv
  unfold sp_gwanted at hv ⊢
  split at hv
  case h_2 => exact hv.elim
  rename_i h0 hp hr h1 h2 h3 es
  refine ⟨by simp, Nat.le_of_ble_eq_true rfl, ?_⟩
  simp only [givesIf] at hv
  obtain ⟨hhd, ⟨L, rfl, hok, hl⟩, hlen⟩ := hv
  simp only [txs_D, txsD_length] at hlen ⊢
  have hisL : isTxL (txsD L) := ⟨L, rfl, hok, hl⟩
  by_cases hz : L.length = 0
  · have d0 : decide (((L.length : Nat) : Int) = 0) = true := decide_eq_true (by omega)
    simp (config := {dsimp := false}) only [↓vp0, vz, vn, nq, tys, cellD, wideIR, if_true, if_false, implies_true, forall_const, ne_eq, reduceIte, reduceCtorEq, Nat.reduceEqDiff, Nat.reduceAdd, Nat.reduceMul, Nat.reduceLT, Nat.reduceSub, Nat.reduceLeDiff, Nat.reduceBNe, Nat.reduceBEq, Nat.reduceBeqDiff, List.range, List.range.loop, gl0, Tryd.ntmps55, Tryd.results55, d0, wanted_0 hz, hashV, givesIf]
    all_goals rfl
  have d0 : decide (((L.length : Nat) : Int) = 0) = false := decide_eq_false (by omega)
  obtain ⟨t, r, hL⟩ : ∃ t r, L = t :: r := by cases L with
    | nil => exact absurd rfl hz
    | cons t r => exact ⟨t, r, rfl⟩
  have g0 : (txsD L).getD (Int.toNat 0) .any = txD t := by rw [hL]; rfl
  have ht := hok t (by rw [hL]; exact List.mem_cons_self ..)
  have hmi := ht.mi
  by_cases hi : t.ins.length = 1
  case neg =>
    have d1 : decide (((t.ins.length : Nat) : Int) = 1) = false := decide_eq_false (by omega)
    have hw : wantedP L = none := by rw [hL]; exact wanted_1 hi
    simp (config := {dsimp := false}) only [↓vp0, vz, vn, nq, tys, cellD, wideIR, if_true, if_false, implies_true, forall_const, ne_eq, reduceIte, reduceCtorEq, Nat.reduceEqDiff, Nat.reduceAdd, Nat.reduceMul, Nat.reduceLT, Nat.reduceSub, Nat.reduceLeDiff, Nat.reduceBNe, Nat.reduceBEq, Nat.reduceBeqDiff, List.range, List.range.loop, gl0, Tryd.ntmps55, Tryd.results55, d0, d1, g0, txD, hw, hashV, givesIf]
    (repeat' apply And.intro) <;> first | exact Int.le_refl _ | omega | rfl
  have d1 : decide (((t.ins.length : Nat) : Int) = 1) = true := decide_eq_true (by omega)
  obtain ⟨x, hx⟩ := one_of hi
  have g1 : (insD t.ins).getD (Int.toNat 0) .any = inD x := by rw [hx]; rfl
  have hxo := ht.ins x (by rw [hx]; exact List.mem_cons_self ..)
  have hmw := hxo.many
  by_cases hwl : x.wit.length = 1
  case neg =>
    have d2 : decide (((x.wit.length : Nat) : Int) = 1) = false := decide_eq_false (by omega)
    have hw : wantedP L = none := by rw [hL]; exact wanted_2 hx hwl
    simp (config := {dsimp := false}) only [↓vp0, vz, vn, nq, tys, cellD, wideIR, if_true, if_false, implies_true, forall_const, ne_eq, reduceIte, reduceCtorEq, Nat.reduceEqDiff, Nat.reduceAdd, Nat.reduceMul, Nat.reduceLT, Nat.reduceSub, Nat.reduceLeDiff, Nat.reduceBNe, Nat.reduceBEq, Nat.reduceBeqDiff, List.range, List.range.loop, gl0, Tryd.ntmps55, Tryd.results55, d0, d1, d2, g0, g1, txD, inD, hw, hashV, givesIf]
    (repeat' apply And.intro) <;> first | exact Int.le_refl _ | omega | rfl
  have d2 : decide (((x.wit.length : Nat) : Int) = 1) = true := decide_eq_true (by omega)
  obtain ⟨w, hw⟩ := one_of hwl
  have g2 : (slis x.wit).getD (Int.toNat 0) .any = .sli .no .u8 w := by rw [hw]; rfl
  have hwo := (hxo.wit w (by rw [hw]; exact List.mem_cons_self ..)).2
  have hW : wantedP L = if w.length = 32 then some (H2 (rootP (hashesP true L)) w) else none := by rw [hL]; exact wanted_3 hx hw
  by_cases h32' : w.length = 32
  case neg =>
    have d3 : decide (((w.length : Nat) : Int) = 32) = false := decide_eq_false (by omega)
    rw [if_neg h32'] at hW
    simp (config := {dsimp := false}) only [↓vp0, vz, vn, nq, tys, cellD, wideIR, if_true, if_false, implies_true, forall_const, ne_eq, reduceIte, reduceCtorEq, Nat.reduceEqDiff, Nat.reduceAdd, Nat.reduceMul, Nat.reduceLT, Nat.reduceSub, Nat.reduceLeDiff, Nat.reduceBNe, Nat.reduceBEq, Nat.reduceBeqDiff, List.range, List.range.loop, gl0, Tryd.ntmps55, Tryd.results55, d0, d1, d2, d3, g0, g1, g2, txD, inD, hW, hashV, givesIf]
    (repeat' apply And.intro) <;> first | exact Int.le_refl _ | omega | rfl
  have d3 : decide (((w.length : Nat) : Int) = 32) = true := decide_eq_true (by omega)
  rw [if_pos h32'] at hW
  have tw : w.take 32 = w := List.take_of_length_le (by omega)
  have hrl : (rootP (hashesP true L)).length = 32 := root_len (hashes_32 true L)
  simp (config := {dsimp := false}) only [↓vp0, vz, vn, nq, tys, cellD, wideIR, if_true, if_false, implies_true, forall_const, ne_eq, reduceIte, reduceCtorEq, Nat.reduceEqDiff, Nat.reduceAdd, Nat.reduceMul, Nat.reduceLT, Nat.reduceSub, Nat.reduceLeDiff, Nat.reduceBNe, Nat.reduceBEq, Nat.reduceBeqDiff, List.range, List.range.loop, gl0, Tryd.ntmps55, Tryd.results55, PF.toR, d0, d1, d2, d3, g0, g1, g2, txD, inD, hW, hashV, givesIf, strips_arrs, hs_arrs, spec_fulls, sp_fulls, c_fulls, b_fulls, spec_root, sp_root, c_root, b_root]
  refine ⟨Int.le_refl _, by omega, Int.le_refl _, by omega, Int.le_refl _, by omega, Int.le_refl _, by omega, hhd, hisL, by omega, ⟨_, rfl, hashes_32 true L⟩, by rw [arrs_length, hashes_len]; omega, ?_⟩
  refine drawI [2, 4, 5] (by kernel_rfl) ?_
  simp (config := {dsimp := false}) only [↓vp0, vz, vn, nq, tys, cellD, wideIR, if_true, if_false, implies_true, forall_const, ne_eq, reduceIte, reduceCtorEq, Nat.reduceEqDiff, Nat.reduceAdd, Nat.reduceMul, Nat.reduceLT, Nat.reduceSub, Nat.reduceLeDiff, Nat.reduceBNe, Nat.reduceBEq, Nat.reduceBeqDiff, List.range, List.range.loop, gl0, Tryd.ntmps55, Tryd.results55, PF.toR, g2, hrl, h32', tw, givesIf, spec_pair, sp_pair, c_pair, b_pair, spec_twice, sp_twice, c_twice, b_twice]
  refine ⟨Int.le_refl _, by omega, by rw [List.length_append, hrl, h32']; decide, by kernel_rfl, ?_⟩
  rw [hW]; rfl
end Go.Vi.CK
end

section
set_option linter.unusedVariables false
set_option linter.unusedSimpArgs false
set_option maxHeartbeats 0
set_option maxRecDepth 20000
namespace Go.Vi.CK
open Go.Proofs

theorem c_coinbase : Contract E 36 := by
  refine contract_seeT hE hgl (show E.P.funcs[36]? = some Tryd.f36 from Tryd.func36) rfl (p := sp_coinbase) (fun _ _ _ => rfl) ?_
  intro args hv
  unfold sp_coinbase at hv ⊢
  split at hv
  case h_2 => exact hv.elim
  rename_i h0 hp hr h1 h2 h3 es
  refine ⟨by simp, Nat.le_of_ble_eq_true rfl, ?_⟩
  simp only [givesIf] at hv
  obtain ⟨hhd, ⟨l, rfl, hok, hl⟩, hlen⟩ := hv
  simp only [txs_D, txsD_length] at hlen ⊢
  have hru : ruleP 0 l hr = coinP l := rfl
  rw [hru]
  cases l with
  | nil =>
    simp (config := {dsimp := false}) only [↓vp0, vz, vn, nq, tys, cellD, wideIR, if_true, if_false, implies_true, forall_const, ne_eq, reduceIte, reduceCtorEq, Nat.reduceEqDiff, Nat.reduceAdd, Nat.reduceMul, Nat.reduceLT, Nat.reduceSub, Nat.reduceLeDiff, Nat.reduceBNe, Nat.reduceBEq, Nat.reduceBeqDiff, List.range, List.range.loop, gl0, Tryd.ntmps36, Tryd.results36, show txsD [] = [] from rfl, show decide (((0 : Nat) : Int) = 0) = true from rfl, coinP, givesIf]
    all_goals rfl
  | cons t r =>
    have ht := hok t (List.mem_cons_self ..)
    have ha := anyT_tx ht.any
    have d0 : decide (((r.length + 1 : Nat) : Int) = 0) = false := decide_eq_false (by omega)
    have hcp : coinP (t :: r) = ((baseP t && !r.any baseP) && (decide (2 ≤ (t.ins.getD 0 default).script.length) && decide ((t.ins.getD 0 default).script.length ≤ 100))) := rfl
    rw [hcp]
    have hpr : predOf 10 39 41 18 10 = baseP := rfl
    cases hb : baseP t
    · simp (config := {dsimp := false}) only [↓vp0, vz, vn, nq, tys, cellD, wideIR, if_true, if_false, implies_true, forall_const, ne_eq, reduceIte, reduceCtorEq, Nat.reduceEqDiff, Nat.reduceAdd, Nat.reduceMul, Nat.reduceLT, Nat.reduceSub, Nat.reduceLeDiff, Nat.reduceBNe, Nat.reduceBEq, Nat.reduceBeqDiff, List.range, List.range.loop, gl0, Tryd.ntmps36, Tryd.results36, PF.toR, givesIf, show txsD (t :: r) = txD t :: txsD r from rfl, txD, d0, tx_eta, hb, show Int.toNat 0 = 0 from rfl, List.getD_cons_zero, spec_cbase, sp_cbase, c_cbase, b_cbase, spec_none, sp_none, c_none, b_none]
      exact ⟨Int.le_refl _, by omega, ha⟩
    have hdl : ∀ d : D, List.drop (Int.toNat 1) (List.take (((r.length + 1 : Nat) : Int)).toNat (d :: txsD r)) = txsD r := fun d => by
      rw [Int.toNat_natCast, List.take_of_length_le (by rw [List.length_cons, txsD_length]; exact Nat.le_refl _)]; rfl
    have hTx : isTxL (txsD r) := ⟨r, rfl, fun x hx => hok x (List.mem_cons_of_mem _ hx), by simp only [List.length_cons] at hl; omega⟩
    cases hn : r.any baseP
    case true =>
      simp (config := {dsimp := false}) only [↓vp0, vz, vn, nq, tys, cellD, wideIR, if_true, if_false, implies_true, forall_const, ne_eq, reduceIte, reduceCtorEq, Nat.reduceEqDiff, Nat.reduceAdd, Nat.reduceMul, Nat.reduceLT, Nat.reduceSub, Nat.reduceLeDiff, Nat.reduceBNe, Nat.reduceBEq, Nat.reduceBeqDiff, List.range, List.range.loop, gl0, Tryd.ntmps36, Tryd.results36, PF.toR, givesIf, show txsD (t :: r) = txD t :: txsD r from rfl, txD, d0, tx_eta, hb, hn, hpr, hdl, txs_D, show Int.toNat 0 = 0 from rfl, List.getD_cons_zero, spec_cbase, sp_cbase, c_cbase, b_cbase, spec_none, sp_none, c_none, b_none]
      exact ⟨Int.le_refl _, by omega, ha, by omega, by omega, by omega, .inr trivial, .inl rfl, hTx⟩
    obtain ⟨tv, ti, to, tl⟩ := t
    obtain ⟨x, rfl⟩ : ∃ x, ti = [x] := by
      unfold baseP at hb
      split at hb
      · exact ⟨_, by assumption⟩
      · cases hb
    have hsl := (ht.ins x (List.mem_cons_self ..)).script.2
    have hix : ins [D.agg [D.agg [D.arr .u8 32 x.prev, .int .u32 x.ix], .sli .no .u8 x.script, .int .u32 x.seq, .sl .no 1 (slis x.wit)]] = [x] := ins_D [x]
    have d2 : decide ((2 : Int) ≤ ((x.script.length : Nat) : Int)) = decide (2 ≤ x.script.length) := decide_eq_decide.2 (by omega)
    have d3 : decide (((x.script.length : Nat) : Int) ≤ 100) = decide (x.script.length ≤ 100) := decide_eq_decide.2 (by omega)
    cases h2 : decide (2 ≤ x.script.length) <;> cases h3 : decide (x.script.length ≤ 100)
    all_goals simp (config := {dsimp := false}) only [↓vp0, vz, vn, nq, tys, cellD, wideIR, if_true, if_false, implies_true, forall_const, ne_eq, reduceIte, reduceCtorEq, Nat.reduceEqDiff, Nat.reduceAdd, Nat.reduceMul, Nat.reduceLT, Nat.reduceSub, Nat.reduceLeDiff, Nat.reduceBNe, Nat.reduceBEq, Nat.reduceBeqDiff, List.range, List.range.loop, gl0, Tryd.ntmps36, Tryd.results36, PF.toR, givesIf, show txsD (⟨tv, [x], to, tl⟩ :: r) = txD ⟨tv, [x], to, tl⟩ :: txsD r from rfl, txD, d0, hix, outs_D, hb, hn, hpr, hdl, txs_D, d2, d3, h2, h3, show insD [x] = [inD x] from rfl, inD, show Int.toNat 0 = 0 from rfl, List.getD_cons_zero, spec_cbase, sp_cbase, c_cbase, b_cbase, spec_none, sp_none, c_none, b_none]
    all_goals exact ⟨Int.le_refl _, by omega, ha, by omega, by omega, by omega, .inr trivial, .inl rfl, hTx, Int.le_refl _, by omega, Int.le_refl _, by decide⟩
theorem c_rule1 : Contract E 37 := by
  refine contract_seeT hE hgl (show E.P.funcs[37]? = some Tryd.f37 from Tryd.func37) rfl (p := sp_rule1) (fun _ _ _ => rfl) ?_
  intro args hv
  unfold sp_rule1 at hv ⊢
  split at hv
  case h_2 => exact hv.elim
  rename_i h0 hp hr h1 h2 h3 es
  refine ⟨by simp, Nat.le_of_ble_eq_true rfl, ?_⟩
  simp only [givesIf] at hv
  obtain ⟨hhd, ⟨l, rfl, hok, hl⟩, hlen⟩ := hv
  simp only [txs_D, txsD_length] at hlen ⊢
  have hpr : predOf 10 39 41 18 39 = doubleP := rfl
  simp (config := {dsimp := false}) only [↓vp0, vz, vn, nq, tys, cellD, wideIR, if_true, if_false, implies_true, forall_const, ne_eq, reduceIte, reduceCtorEq, Nat.reduceEqDiff, Nat.reduceAdd, Nat.reduceMul, Nat.reduceLT, Nat.reduceSub, Nat.reduceLeDiff, Nat.reduceBNe, Nat.reduceBEq, Nat.reduceBeqDiff, List.range, List.range.loop, gl0, Tryd.ntmps37, Tryd.results37, PF.toR, givesIf, hpr, txs_D, ruleP, spec_none, sp_none, c_none, b_none]
  exact ⟨.inr (.inl rfl), l, rfl, hok, hl⟩
theorem c_rule2 : Contract E 40 := by
  refine contract_seeT hE hgl (show E.P.funcs[40]? = some Tryd.f40 from Tryd.func40) rfl (p := sp_rule2) (fun _ _ _ => rfl) ?_
  intro args hv
  unfold sp_rule2 at hv ⊢
  split at hv
  case h_2 => exact hv.elim
  rename_i h0 hp hr h1 h2 h3 es
  refine ⟨by simp, Nat.le_of_ble_eq_true rfl, ?_⟩
  simp only [givesIf] at hv
  obtain ⟨hhd, ⟨l, rfl, hok, hl⟩, hlen⟩ := hv
  simp only [txs_D, txsD_length] at hlen ⊢
  have hpr : predOf 10 39 41 18 41 = badP := rfl
  simp (config := {dsimp := false}) only [↓vp0, vz, vn, nq, tys, cellD, wideIR, if_true, if_false, implies_true, forall_const, ne_eq, reduceIte, reduceCtorEq, Nat.reduceEqDiff, Nat.reduceAdd, Nat.reduceMul, Nat.reduceLT, Nat.reduceSub, Nat.reduceLeDiff, Nat.reduceBNe, Nat.reduceBEq, Nat.reduceBeqDiff, List.range, List.range.loop, gl0, Tryd.ntmps40, Tryd.results40, PF.toR, givesIf, hpr, txs_D, ruleP, spec_none, sp_none, c_none, b_none]
  exact ⟨.inr (.inr (.inl rfl)), l, rfl, hok, hl⟩
theorem c_rule3 : Contract E 42 := by
  refine contract_seeT hE hgl (show E.P.funcs[42]? = some Tryd.f42 from Tryd.func42) rfl (p := sp_rule3) (fun _ _ _ => rfl) ?_
  intro args hv
  unfold sp_rule3 at hv ⊢
  split at hv
  case h_2 => exact hv.elim
  rename_i h0 hp hr h1 h2 h3 es
  refine ⟨by simp, Nat.le_of_ble_eq_true rfl, ?_⟩
  simp only [givesIf] at hv
  obtain ⟨hhd, ⟨l, rfl, hok, hl⟩, hlen⟩ := hv
  simp only [txs_D, txsD_length] at hlen ⊢
  simp (config := {dsimp := false}) only [↓vp0, vz, vn, nq, tys, cellD, wideIR, if_true, if_false, implies_true, forall_const, ne_eq, reduceIte, reduceCtorEq, Nat.reduceEqDiff, Nat.reduceAdd, Nat.reduceMul, Nat.reduceLT, Nat.reduceSub, Nat.reduceLeDiff, Nat.reduceBNe, Nat.reduceBEq, Nat.reduceBeqDiff, List.range, List.range.loop, gl0, Tryd.ntmps42, Tryd.results42, PF.toR, gives, givesIf, txs_D, strips_arrs, hs_arrs, ruleP, idsP, spec_ids, sp_ids, c_ids, b_ids, spec_root, sp_root, c_root, b_root]
  exact ⟨hhd, ⟨l, rfl, hok, hl⟩, by omega, ⟨_, rfl, hashes_32 _ _⟩, by rw [arrs_length, hashes_len]; exact Nat.le_of_lt hlen, rfl⟩
theorem c_rule4 : Contract E 43 := by
  refine contract_seeT hE hgl (show E.P.funcs[43]? = some Tryd.f43 from Tryd.func43) rfl (p := sp_rule4) (fun _ _ _ => rfl) ?_
  intro args hv
  unfold sp_rule4 at hv ⊢
  split at hv
  case h_2 => exact hv.elim
  rename_i h0 hp hr h1 h2 h3 es
  refine ⟨by simp, Nat.le_of_ble_eq_true rfl, ?_⟩
  simp only [givesIf] at hv
  obtain ⟨hhd, ⟨l, rfl, hok, hl⟩, hlen⟩ := hv
  simp only [txs_D, txsD_length] at hlen ⊢
  simp (config := {dsimp := false}) only [↓vp0, vz, vn, nq, tys, cellD, wideIR, if_true, if_false, implies_true, forall_const, ne_eq, reduceIte, reduceCtorEq, Nat.reduceEqDiff, Nat.reduceAdd, Nat.reduceMul, Nat.reduceLT, Nat.reduceSub, Nat.reduceLeDiff, Nat.reduceBNe, Nat.reduceBEq, Nat.reduceBeqDiff, List.range, List.range.loop, gl0, Tryd.ntmps43, Tryd.results43, PF.toR, gives, givesIf, txs_D, strips_arrs, hs_arrs, ruleP, idsP, spec_ids, sp_ids, c_ids, b_ids, spec_root, sp_root, c_root, b_root]
  exact ⟨hhd, ⟨l, rfl, hok, hl⟩, by omega, ⟨_, rfl, hashes_32 _ _⟩, by rw [arrs_length, hashes_len]; exact Nat.le_of_lt hlen⟩
theorem c_cwitnessed : Contract E 44 := by
  refine contract_seeT hE hgl (show E.P.funcs[44]? = some Tryd.f44 from Tryd.func44) rfl (p := sp_cwitnessed) (fun _ _ _ => rfl) ?_
  intro args hv
  unfold sp_cwitnessed at hv ⊢
  split at hv
  case h_2 => exact hv.elim
  rename_i h0 hp hr h1 h2 h3 es
  refine ⟨by simp, Nat.le_of_ble_eq_true rfl, ?_⟩
  simp only [givesIf] at hv
  obtain ⟨hhd, ⟨l, rfl, hok, hl⟩, hlen⟩ := hv
  simp only [txs_D, txsD_length] at hlen ⊢
  have hru : ruleP 5 l hr = witP l := rfl
  rw [hru]
  have hTx : isTxL (txsD l) := ⟨l, rfl, hok, hl⟩
  have hpr : predOf 10 39 41 18 18 = witnessedP := rfl
  cases hc : commitP l with
  | none =>
    have hw : witP l = !l.any witnessedP := by unfold witP; rw [hc]
    simp (config := {dsimp := false}) only [↓vp0, vz, vn, nq, tys, cellD, wideIR, if_true, if_false, implies_true, forall_const, ne_eq, reduceIte, reduceCtorEq, Nat.reduceEqDiff, Nat.reduceAdd, Nat.reduceMul, Nat.reduceLT, Nat.reduceSub, Nat.reduceLeDiff, Nat.reduceBNe, Nat.reduceBEq, Nat.reduceBeqDiff, List.range, List.range.loop, gl0, Tryd.ntmps44, Tryd.results44, PF.toR, givesIf, txs_D, hashV, hc, hpr, hw, spec_gcommit, sp_gcommit, c_gcommit, b_gcommit, spec_none, sp_none, c_none, b_none]
    exact ⟨hhd, hTx, .inr (.inr (.inr rfl)), hTx⟩
  | some h =>
    cases hg : wantedP l with
    | none =>
      have hw : witP l = false := by unfold witP; rw [hc]; simp only []; rw [hg]
      simp (config := {dsimp := false}) only [↓vp0, vz, vn, nq, tys, cellD, wideIR, if_true, if_false, implies_true, forall_const, ne_eq, reduceIte, reduceCtorEq, Nat.reduceEqDiff, Nat.reduceAdd, Nat.reduceMul, Nat.reduceLT, Nat.reduceSub, Nat.reduceLeDiff, Nat.reduceBNe, Nat.reduceBEq, Nat.reduceBeqDiff, List.range, List.range.loop, gl0, Tryd.ntmps44, Tryd.results44, PF.toR, givesIf, txs_D, hashV, hc, hg, hw, spec_gcommit, sp_gcommit, c_gcommit, b_gcommit, spec_gwanted, sp_gwanted, c_gwanted, b_gwanted]
      exact ⟨hhd, hTx, hhd, hTx, hlen⟩
    | some w =>
      have hw : witP l = decide (w = h) := by unfold witP; rw [hc]; simp only []; rw [hg]
      simp (config := {dsimp := false}) only [↓vp0, vz, vn, nq, tys, cellD, wideIR, if_true, if_false, implies_true, forall_const, ne_eq, reduceIte, reduceCtorEq, Nat.reduceEqDiff, Nat.reduceAdd, Nat.reduceMul, Nat.reduceLT, Nat.reduceSub, Nat.reduceLeDiff, Nat.reduceBNe, Nat.reduceBEq, Nat.reduceBeqDiff, List.range, List.range.loop, gl0, Tryd.ntmps44, Tryd.results44, PF.toR, givesIf, txs_D, hashV, hc, hg, hw, spec_gcommit, sp_gcommit, c_gcommit, b_gcommit, spec_gwanted, sp_gwanted, c_gwanted, b_gwanted]
      exact ⟨hhd, hTx, hhd, hTx, hlen⟩
end Go.Vi.CK
end

section
set_option linter.unusedVariables false
set_option linter.unusedSimpArgs false
namespace Go.Proofs
open Go.RowKit Go.Shelf Go.Vi
attribute [local go_sem] Oper.semAt_some
theorem row_newerR {g : Gh} {w w' : World} {b : Nat} {cells : Array Value} {ty : TypeId} (hb : w.heap.size ≤ b) (hg : w'.heap[b]? = some (.cells cells ty (0, 0))) (G : Gh) (hG : G.lim = (g.newer w w').lim) : Row G w' (some ⟨b, 0, none⟩) cells.toList := by
  intro hne
  refine ⟨b, 0, rfl, ?_, ?_⟩
  · rw [hG]
    have : ¬ b < w.heap.size := by omega
    simp only [Gh.newer, this, if_false, rowSize, hg]
    simp
  · intro i v hv
    rw [cell_of_row w' b _ cells ty (0, 0) hg]
    simpa using hv
set_option maxRecDepth 100000 in
set_option maxHeartbeats 2000000 in
theorem Tryd.rules_k (g : Gh) (w : World) : Calls Tryd.prog 23 #[] w fun e w' => ∃ v, e = .returned v ∧ Rep (g.newer w w') w' (rulesD .no 36 37 40 42 43 44) v ∧ Below w.heap.size w w' := by
  refine calls_of_wp Tryd.func23 rfl ?_
  simp only [Tryd.ntmps23, List.size_toArray, List.length_cons, List.length_nil, Nat.reduceAdd, Nat.reduceSub, Array.replicate_succ, Array.replicate_zero, List.push_toArray, List.append_toArray, List.nil_append, List.cons_append]
  go_wp2
  go_ret
  refine ⟨_, rfl, ?_, ?_⟩
  · generalize hW : World.alloc _ _ = W'
    have h2 : W'.heap[w.heap.size]? = some (.cells #[.func (.func 36) #[] #[], .int .i64 23, .func (.func 37) #[] #[], .int .i64 24, .func (.func 40) #[] #[], .int .i64 32, .func (.func 42) #[] #[], .int .i64 20, .func (.func 43) #[] #[], .int .i64 21, .func (.func 44) #[] #[], .int .i64 22] 63 (0, 0)) := by
      rw [← hW]; exact World.alloc_heap_new w _
    refine ⟨_, 6, _, rfl, Nat.le_refl _, ?_, row_newerR (Nat.le_refl _) h2 _ rfl, trivial⟩
    refine ⟨[_, _], _, rfl, rfl, ⟨[_], [_], rfl, ⟨[], rfl, rfl⟩, [_], [], rfl, rfl, rfl⟩, ?_⟩
    refine ⟨[_, _], _, rfl, rfl, ⟨[_], [_], rfl, ⟨[], rfl, rfl⟩, [_], [], rfl, rfl, rfl⟩, ?_⟩
    refine ⟨[_, _], _, rfl, rfl, ⟨[_], [_], rfl, ⟨[], rfl, rfl⟩, [_], [], rfl, rfl, rfl⟩, ?_⟩
    refine ⟨[_, _], _, rfl, rfl, ⟨[_], [_], rfl, ⟨[], rfl, rfl⟩, [_], [], rfl, rfl, rfl⟩, ?_⟩
    refine ⟨[_, _], _, rfl, rfl, ⟨[_], [_], rfl, ⟨[], rfl, rfl⟩, [_], [], rfl, rfl, rfl⟩, ?_⟩
    refine ⟨[_, _], [], rfl, rfl, ⟨[_], [_], rfl, ⟨[], rfl, rfl⟩, [_], [], rfl, rfl, rfl⟩, rfl⟩
  · exact (Below.refl _ _).alloc (Nat.le_refl _) _
end Go.Proofs
namespace Go.Vi.CK
open Go.Proofs Go.RowKit
theorem c_rules : Contract E 23 := by
  refine contract_callsT (p := sp_rules 36 37 40 42 43 44) (fun _ _ _ => rfl) fun xs hv g w vs _ hr => ?_
  unfold sp_rules at hv ⊢
  split at hv
  case h_2 => exact hv.elim
  obtain rfl : vs = [] := hr
  exact Tryd.rules_k g w
end Go.Vi.CK
end

section
set_option linter.unusedVariables false
set_option linter.unusedSimpArgs false
set_option maxHeartbeats 0
set_option maxRecDepth 20000
namespace Go.Vi.CK
open Go.Proofs

theorem c_cblock : Contract E 14 := by
  refine contract_seeT hE hgl (show E.P.funcs[14]? = some Tryd.f14 from Tryd.func14) rfl (p := sp_cblock) (fun _ _ _ => rfl) ?_
  intro args hv
  unfold sp_cblock at hv ⊢
  split at hv
  case h_2 => exact hv.elim
  rename_i h0 hp hr h1 h2 h3 es
  refine ⟨by simp, Nat.le_of_ble_eq_true rfl, ?_⟩
  simp only [givesIf] at hv
  obtain ⟨hhd, ⟨l, rfl, hok, hl⟩, hlen⟩ := hv
  simp only [txs_D, txsD_length] at hlen ⊢
  have hTx : isTxL (txsD l) := ⟨l, rfl, hok, hl⟩
  simp (config := {dsimp := false}) only [↓vp0, vz, vn, nq, tys, cellD, wideIR, if_true, if_false, implies_true, forall_const, ne_eq, reduceIte, reduceCtorEq, Nat.reduceEqDiff, Nat.reduceAdd, Nat.reduceMul, Nat.reduceLT, Nat.reduceSub, Nat.reduceLeDiff, Nat.reduceBNe, Nat.reduceBEq, Nat.reduceBeqDiff, List.range, List.range.loop, gl0, Tryd.ntmps14, Tryd.results14, PF.toR, gives, rulesD, spec_rules, sp_rules, c_rules, b_rules]
  refine loopI {k : Nat // k ≤ 6 ∧ ∀ j, j < k → ruleP j l hr = true} (fun k => [(7, .int .i64 (k.1 : Nat)), (6, .int .i64 (6 : Nat)), (5, rulesD .no 36 37 40 42 43 44), (1, .bp 0 0)]) (fun _ => ⟨[(0, .agg [.agg [.int .u32 h0, .arr .u8 32 hp, .arr .u8 32 hr, .int .u32 h1, .int .u32 h2, .int .u32 h3], .sl .no 4 (txsD l)])], [], 20⟩) (fun k => 6 - k.1) ⟨0, by simp⟩ (fun _ => rfl) ?_ ?_
  · exact ⟨⟨wkD_eq rfl, rfl, wkD_eq rfl, rfl, wkD_eq rfl, rfl, wkD_eq rfl, rfl, trivial⟩, ⟨rfl, Nat.le_of_ble_eq_true rfl, rfl, trivial⟩, trivial⟩
  rintro ⟨k, hk, hb⟩
  by_cases h6 : k = 6
  · subst h6
    simp (config := {dsimp := false}) only [↓vp0, vz, vn, nq, tys, cellD, wideIR, if_true, if_false, implies_true, forall_const, ne_eq, reduceIte, reduceCtorEq, Nat.reduceEqDiff, Nat.reduceAdd, Nat.reduceMul, Nat.reduceLT, Nat.reduceSub, Nat.reduceLeDiff, Nat.reduceBNe, Nat.reduceBEq, Nat.reduceBeqDiff, List.range, List.range.loop, gl0, Tryd.ntmps14, Tryd.results14, show decide (((6 : Nat) : Int) < ((6 : Nat) : Int)) = false from rfl, block_yes hb, givesIf]
  rcases (by omega : k = 0 ∨ k = 1 ∨ k = 2 ∨ k = 3 ∨ k = 4 ∨ k = 5) with rfl | rfl | rfl | rfl | rfl | rfl
  · cases hc : ruleP 0 l hr
    · have hn := block_no (by decide) hb hc
      simp (config := {dsimp := false}) only [↓vp0, vz, vn, nq, tys, cellD, wideIR, if_true, if_false, implies_true, forall_const, ne_eq, reduceIte, reduceCtorEq, Nat.reduceEqDiff, Nat.reduceAdd, Nat.reduceMul, Nat.reduceLT, Nat.reduceSub, Nat.reduceLeDiff, Nat.reduceBNe, Nat.reduceBEq, Nat.reduceBeqDiff, List.range, List.range.loop, gl0, Tryd.ntmps14, Tryd.results14, PF.toR, givesIf, rulesD, show decide (((0 : Nat) : Int) < ((6 : Nat) : Int)) = true from rfl, show Int.toNat (((0 : Nat) : Int)) = 0 from rfl, List.getD_cons_zero, List.getD_cons_succ, txs_D, hc, hn, ruleE, spec_coinbase, sp_coinbase, c_coinbase, b_coinbase]
      exact ⟨by decide, by decide, hhd, hTx, hlen⟩
    · simp (config := {dsimp := false}) only [↓vp0, vz, vn, nq, tys, cellD, wideIR, if_true, if_false, implies_true, forall_const, ne_eq, reduceIte, reduceCtorEq, Nat.reduceEqDiff, Nat.reduceAdd, Nat.reduceMul, Nat.reduceLT, Nat.reduceSub, Nat.reduceLeDiff, Nat.reduceBNe, Nat.reduceBEq, Nat.reduceBeqDiff, List.range, List.range.loop, gl0, Tryd.ntmps14, Tryd.results14, PF.toR, givesIf, rulesD, show decide (((0 : Nat) : Int) < ((6 : Nat) : Int)) = true from rfl, show Int.toNat (((0 : Nat) : Int)) = 0 from rfl, List.getD_cons_zero, List.getD_cons_succ, txs_D, hc, spec_coinbase, sp_coinbase, c_coinbase, b_coinbase]
      refine ⟨by decide, by decide, hhd, hTx, hlen, ⟨1, by decide, fun j hj => ?_⟩, ⟨⟨wkD_eq rfl, rfl, wkD_eq rfl, rfl, wkD_eq rfl, rfl, wkD_eq rfl, rfl, trivial⟩, ⟨rfl, Nat.le_of_ble_eq_true rfl, rfl, trivial⟩, trivial⟩, by (try simp only); omega⟩
      rcases Nat.lt_or_ge j 0 with h7 | h7
      · exact hb j h7
      · obtain rfl : j = 0 := by omega
        exact hc
  · cases hc : ruleP 1 l hr
    · have hn := block_no (by decide) hb hc
      simp (config := {dsimp := false}) only [↓vp0, vz, vn, nq, tys, cellD, wideIR, if_true, if_false, implies_true, forall_const, ne_eq, reduceIte, reduceCtorEq, Nat.reduceEqDiff, Nat.reduceAdd, Nat.reduceMul, Nat.reduceLT, Nat.reduceSub, Nat.reduceLeDiff, Nat.reduceBNe, Nat.reduceBEq, Nat.reduceBeqDiff, List.range, List.range.loop, gl0, Tryd.ntmps14, Tryd.results14, PF.toR, givesIf, rulesD, show decide (((1 : Nat) : Int) < ((6 : Nat) : Int)) = true from rfl, show Int.toNat (((1 : Nat) : Int)) = 1 from rfl, List.getD_cons_zero, List.getD_cons_succ, txs_D, hc, hn, ruleE, spec_rule1, sp_rule1, c_rule1, b_rule1]
      exact ⟨by decide, by decide, hhd, hTx, hlen⟩
    · simp (config := {dsimp := false}) only [↓vp0, vz, vn, nq, tys, cellD, wideIR, if_true, if_false, implies_true, forall_const, ne_eq, reduceIte, reduceCtorEq, Nat.reduceEqDiff, Nat.reduceAdd, Nat.reduceMul, Nat.reduceLT, Nat.reduceSub, Nat.reduceLeDiff, Nat.reduceBNe, Nat.reduceBEq, Nat.reduceBeqDiff, List.range, List.range.loop, gl0, Tryd.ntmps14, Tryd.results14, PF.toR, givesIf, rulesD, show decide (((1 : Nat) : Int) < ((6 : Nat) : Int)) = true from rfl, show Int.toNat (((1 : Nat) : Int)) = 1 from rfl, List.getD_cons_zero, List.getD_cons_succ, txs_D, hc, spec_rule1, sp_rule1, c_rule1, b_rule1]
      refine ⟨by decide, by decide, hhd, hTx, hlen, ⟨2, by decide, fun j hj => ?_⟩, ⟨⟨wkD_eq rfl, rfl, wkD_eq rfl, rfl, wkD_eq rfl, rfl, wkD_eq rfl, rfl, trivial⟩, ⟨rfl, Nat.le_of_ble_eq_true rfl, rfl, trivial⟩, trivial⟩, by (try simp only); omega⟩
      rcases Nat.lt_or_ge j 1 with h7 | h7
      · exact hb j h7
      · obtain rfl : j = 1 := by omega
        exact hc
  · cases hc : ruleP 2 l hr
    · have hn := block_no (by decide) hb hc
      simp (config := {dsimp := false}) only [↓vp0, vz, vn, nq, tys, cellD, wideIR, if_true, if_false, implies_true, forall_const, ne_eq, reduceIte, reduceCtorEq, Nat.reduceEqDiff, Nat.reduceAdd, Nat.reduceMul, Nat.reduceLT, Nat.reduceSub, Nat.reduceLeDiff, Nat.reduceBNe, Nat.reduceBEq, Nat.reduceBeqDiff, List.range, List.range.loop, gl0, Tryd.ntmps14, Tryd.results14, PF.toR, givesIf, rulesD, show decide (((2 : Nat) : Int) < ((6 : Nat) : Int)) = true from rfl, show Int.toNat (((2 : Nat) : Int)) = 2 from rfl, List.getD_cons_zero, List.getD_cons_succ, txs_D, hc, hn, ruleE, spec_rule2, sp_rule2, c_rule2, b_rule2]
      exact ⟨by decide, by decide, hhd, hTx, hlen⟩
    · simp (config := {dsimp := false}) only [↓vp0, vz, vn, nq, tys, cellD, wideIR, if_true, if_false, implies_true, forall_const, ne_eq, reduceIte, reduceCtorEq, Nat.reduceEqDiff, Nat.reduceAdd, Nat.reduceMul, Nat.reduceLT, Nat.reduceSub, Nat.reduceLeDiff, Nat.reduceBNe, Nat.reduceBEq, Nat.reduceBeqDiff, List.range, List.range.loop, gl0, Tryd.ntmps14, Tryd.results14, PF.toR, givesIf, rulesD, show decide (((2 : Nat) : Int) < ((6 : Nat) : Int)) = true from rfl, show Int.toNat (((2 : Nat) : Int)) = 2 from rfl, List.getD_cons_zero, List.getD_cons_succ, txs_D, hc, spec_rule2, sp_rule2, c_rule2, b_rule2]
      refine ⟨by decide, by decide, hhd, hTx, hlen, ⟨3, by decide, fun j hj => ?_⟩, ⟨⟨wkD_eq rfl, rfl, wkD_eq rfl, rfl, wkD_eq rfl, rfl, wkD_eq rfl, rfl, trivial⟩, ⟨rfl, Nat.le_of_ble_eq_true rfl, rfl, trivial⟩, trivial⟩, by (try simp only); omega⟩
      rcases Nat.lt_or_ge j 2 with h7 | h7
      · exact hb j h7
      · obtain rfl : j = 2 := by omega
        exact hc
  · cases hc : ruleP 3 l hr
    · have hn := block_no (by decide) hb hc
      simp (config := {dsimp := false}) only [↓vp0, vz, vn, nq, tys, cellD, wideIR, if_true, if_false, implies_true, forall_const, ne_eq, reduceIte, reduceCtorEq, Nat.reduceEqDiff, Nat.reduceAdd, Nat.reduceMul, Nat.reduceLT, Nat.reduceSub, Nat.reduceLeDiff, Nat.reduceBNe, Nat.reduceBEq, Nat.reduceBeqDiff, List.range, List.range.loop, gl0, Tryd.ntmps14, Tryd.results14, PF.toR, givesIf, rulesD, show decide (((3 : Nat) : Int) < ((6 : Nat) : Int)) = true from rfl, show Int.toNat (((3 : Nat) : Int)) = 3 from rfl, List.getD_cons_zero, List.getD_cons_succ, txs_D, hc, hn, ruleE, spec_rule3, sp_rule3, c_rule3, b_rule3]
      exact ⟨by decide, by decide, hhd, hTx, hlen⟩
    · simp (config := {dsimp := false}) only [↓vp0, vz, vn, nq, tys, cellD, wideIR, if_true, if_false, implies_true, forall_const, ne_eq, reduceIte, reduceCtorEq, Nat.reduceEqDiff, Nat.reduceAdd, Nat.reduceMul, Nat.reduceLT, Nat.reduceSub, Nat.reduceLeDiff, Nat.reduceBNe, Nat.reduceBEq, Nat.reduceBeqDiff, List.range, List.range.loop, gl0, Tryd.ntmps14, Tryd.results14, PF.toR, givesIf, rulesD, show decide (((3 : Nat) : Int) < ((6 : Nat) : Int)) = true from rfl, show Int.toNat (((3 : Nat) : Int)) = 3 from rfl, List.getD_cons_zero, List.getD_cons_succ, txs_D, hc, spec_rule3, sp_rule3, c_rule3, b_rule3]
      refine ⟨by decide, by decide, hhd, hTx, hlen, ⟨4, by decide, fun j hj => ?_⟩, ⟨⟨wkD_eq rfl, rfl, wkD_eq rfl, rfl, wkD_eq rfl, rfl, wkD_eq rfl, rfl, trivial⟩, ⟨rfl, Nat.le_of_ble_eq_true rfl, rfl, trivial⟩, trivial⟩, by (try simp only); omega⟩
      rcases Nat.lt_or_ge j 3 with h7 | h7
      · exact hb j h7
      · obtain rfl : j = 3 := by omega
        exact hc
  · cases hc : ruleP 4 l hr
    · have hn := block_no (by decide) hb hc
      simp (config := {dsimp := false}) only [↓vp0, vz, vn, nq, tys, cellD, wideIR, if_true, if_false, implies_true, forall_const, ne_eq, reduceIte, reduceCtorEq, Nat.reduceEqDiff, Nat.reduceAdd, Nat.reduceMul, Nat.reduceLT, Nat.reduceSub, Nat.reduceLeDiff, Nat.reduceBNe, Nat.reduceBEq, Nat.reduceBeqDiff, List.range, List.range.loop, gl0, Tryd.ntmps14, Tryd.results14, PF.toR, givesIf, rulesD, show decide (((4 : Nat) : Int) < ((6 : Nat) : Int)) = true from rfl, show Int.toNat (((4 : Nat) : Int)) = 4 from rfl, List.getD_cons_zero, List.getD_cons_succ, txs_D, hc, hn, ruleE, spec_rule4, sp_rule4, c_rule4, b_rule4]
      exact ⟨by decide, by decide, hhd, hTx, hlen⟩
    · simp (config := {dsimp := false}) only [↓vp0, vz, vn, nq, tys, cellD, wideIR, if_true, if_false, implies_true, forall_const, ne_eq, reduceIte, reduceCtorEq, Nat.reduceEqDiff, Nat.reduceAdd, Nat.reduceMul, Nat.reduceLT, Nat.reduceSub, Nat.reduceLeDiff, Nat.reduceBNe, Nat.reduceBEq, Nat.reduceBeqDiff, List.range, List.range.loop, gl0, Tryd.ntmps14, Tryd.results14, PF.toR, givesIf, rulesD, show decide (((4 : Nat) : Int) < ((6 : Nat) : Int)) = true from rfl, show Int.toNat (((4 : Nat) : Int)) = 4 from rfl, List.getD_cons_zero, List.getD_cons_succ, txs_D, hc, spec_rule4, sp_rule4, c_rule4, b_rule4]
      refine ⟨by decide, by decide, hhd, hTx, hlen, ⟨5, by decide, fun j hj => ?_⟩, ⟨⟨wkD_eq rfl, rfl, wkD_eq rfl, rfl, wkD_eq rfl, rfl, wkD_eq rfl, rfl, trivial⟩, ⟨rfl, Nat.le_of_ble_eq_true rfl, rfl, trivial⟩, trivial⟩, by (try simp only); omega⟩
      rcases Nat.lt_or_ge j 4 with h7 | h7
      · exact hb j h7
      · obtain rfl : j = 4 := by omega
        exact hc
  · cases hc : ruleP 5 l hr
    · have hn := block_no (by decide) hb hc
      simp (config := {dsimp := false}) only [↓vp0, vz, vn, nq, tys, cellD, wideIR, if_true, if_false, implies_true, forall_const, ne_eq, reduceIte, reduceCtorEq, Nat.reduceEqDiff, Nat.reduceAdd, Nat.reduceMul, Nat.reduceLT, Nat.reduceSub, Nat.reduceLeDiff, Nat.reduceBNe, Nat.reduceBEq, Nat.reduceBeqDiff, List.range, List.range.loop, gl0, Tryd.ntmps14, Tryd.results14, PF.toR, givesIf, rulesD, show decide (((5 : Nat) : Int) < ((6 : Nat) : Int)) = true from rfl, show Int.toNat (((5 : Nat) : Int)) = 5 from rfl, List.getD_cons_zero, List.getD_cons_succ, txs_D, hc, hn, ruleE, spec_cwitnessed, sp_cwitnessed, c_cwitnessed, b_cwitnessed]
      exact ⟨by decide, by decide, hhd, hTx, hlen⟩
    · simp (config := {dsimp := false}) only [↓vp0, vz, vn, nq, tys, cellD, wideIR, if_true, if_false, implies_true, forall_const, ne_eq, reduceIte, reduceCtorEq, Nat.reduceEqDiff, Nat.reduceAdd, Nat.reduceMul, Nat.reduceLT, Nat.reduceSub, Nat.reduceLeDiff, Nat.reduceBNe, Nat.reduceBEq, Nat.reduceBeqDiff, List.range, List.range.loop, gl0, Tryd.ntmps14, Tryd.results14, PF.toR, givesIf, rulesD, show decide (((5 : Nat) : Int) < ((6 : Nat) : Int)) = true from rfl, show Int.toNat (((5 : Nat) : Int)) = 5 from rfl, List.getD_cons_zero, List.getD_cons_succ, txs_D, hc, spec_cwitnessed, sp_cwitnessed, c_cwitnessed, b_cwitnessed]
      refine ⟨by decide, by decide, hhd, hTx, hlen, ⟨6, by decide, fun j hj => ?_⟩, ⟨⟨wkD_eq rfl, rfl, wkD_eq rfl, rfl, wkD_eq rfl, rfl, wkD_eq rfl, rfl, trivial⟩, ⟨rfl, Nat.le_of_ble_eq_true rfl, rfl, trivial⟩, trivial⟩, by (try simp only); omega⟩
      rcases Nat.lt_or_ge j 5 with h7 | h7
      · exact hb j h7
      · obtain rfl : j = 5 := by omega
        exact hc
end Go.Vi.CK
end

section
set_option linter.unusedVariables false
set_option linter.unusedSimpArgs false
set_option maxHeartbeats 0
set_option maxRecDepth 20000
namespace Go.Vi.CK
open Go.Proofs

theorem plain_eta : (⟨0, ins [D.agg [D.agg [D.arr .u8 32 (List.replicate 32 0), .int .u32 4294967295], .sli .no .u8 [1, 2], .int .u32 0, .sl .no 1 []]], outs [D.agg [.int .i64 50, .sli .no .u8 []]], 0⟩ : TxP) = plainP := rfl
theorem c_plain : Contract E 19 := by
  refine contract_seeT hE hgl (show E.P.funcs[19]? = some Tryd.f19 from Tryd.func19) rfl (p := sp_plain) (fun _ _ _ => rfl) ?_
  intro args hv
  unfold sp_plain at hv ⊢
  split at hv
  case h_2 => exact hv.elim
  refine ⟨by simp, Nat.le_of_ble_eq_true rfl, ?_⟩
  have hok := tx_okT plain_ok
  simp (config := {dsimp := false}) only [↓vp0, vz, vn, nq, tys, cellD, wideIR, if_true, if_false, implies_true, forall_const, ne_eq, reduceIte, reduceCtorEq, Nat.reduceEqDiff, Nat.reduceAdd, Nat.reduceMul, Nat.reduceLT, Nat.reduceSub, Nat.reduceLeDiff, Nat.reduceBNe, Nat.reduceBEq, Nat.reduceBeqDiff, List.range, List.range.loop, gl0, Tryd.ntmps19, Tryd.results19, PF.toR, gives, spec_tid, sp_tid, c_tid, b_tid]
  refine drawX [0, 1] [(4, [0, 1, 2])] [] (by kernel_rfl) (wild_of rfl) ?_
  simp (config := {dsimp := false}) only [↓vp0, vz, vn, nq, tys, cellD, wideIR, if_true, if_false, implies_true, forall_const, ne_eq, reduceIte, reduceCtorEq, Nat.reduceEqDiff, Nat.reduceAdd, Nat.reduceMul, Nat.reduceLT, Nat.reduceSub, Nat.reduceLeDiff, Nat.reduceBNe, Nat.reduceBEq, Nat.reduceBeqDiff, List.range, List.range.loop, gl0, Tryd.ntmps19, Tryd.results19, vb, ↓vy0, vx0, PF.toR, gives, givesIf, D.bare, bares, Own.bare, D.strip, D.strips, stripO, if_true, plain_eta, plainD, plainT, spec_tid, sp_tid, c_tid, b_tid]
  exact ⟨hok, okUps_all rfl (by kernel_rfl)⟩
theorem c_cworks : Contract E 12 := by
  refine contract_seeT hE hgl (show E.P.funcs[12]? = some Tryd.f12 from Tryd.func12) rfl (p := sp_cworks) (fun _ _ _ => rfl) ?_
  intro args hv
  unfold sp_cworks at hv ⊢
  split at hv
  case h_2 => exact hv.elim
  refine ⟨by simp, Nat.le_of_ble_eq_true rfl, ?_⟩
  have hok := tx_okT plain_ok
  have hid : (idP plainP).length = 32 := id_len _
  have hb0 : decide (blockP [plainP] (idP plainP) = 0) = true := decide_eq_true plain_block
  have hb1 : decide (blockP [plainP] ((idP plainP).set 0 (xorI IntKind.u8 ((idP plainP).getD 0 0) 1)) = 20) = true := decide_eq_true (plain_block_no (set_ne hid (id_bytesP _)))
  simp (config := {dsimp := false}) only [↓vp0, vz, vn, nq, tys, cellD, wideIR, if_true, if_false, implies_true, forall_const, ne_eq, reduceIte, reduceCtorEq, Nat.reduceEqDiff, Nat.reduceAdd, Nat.reduceMul, Nat.reduceLT, Nat.reduceSub, Nat.reduceLeDiff, Nat.reduceBNe, Nat.reduceBEq, Nat.reduceBeqDiff, List.range, List.range.loop, gl0, Tryd.ntmps12, Tryd.results12, vb, PF.toR, gives, givesIf, plainD, plainT, D.bare, bares, Own.bare, D.strip, D.strips, stripO, if_true, plain_eta, plain_ptx, plain_base, hb0, hb1, show Int.toNat 0 = 0 from rfl, List.getD_cons_zero, spec_plain, sp_plain, c_plain, b_plain, spec_cbase, sp_cbase, c_cbase, b_cbase, spec_cblock, sp_cblock, c_cblock, b_cblock]
  have hTx : isTxL (txsD [plainP]) := ⟨_, rfl, fun x hx => by obtain rfl := List.mem_singleton.1 hx; exact plain_ok, by decide⟩
  have hl : ((idP plainP).set 0 (xorI IntKind.u8 ((idP plainP).getD 0 0) 1)).length = 32 := by rw [List.length_set]; exact hid
  refine ⟨Int.le_refl _, by decide, Int.le_refl _, by decide, Int.le_refl _, by decide, anyT_tx plain_ok.any, ⟨by simp, hid⟩, hTx, ⟨by simp, hl⟩, hTx⟩
end Go.Vi.CK
end

section
set_option linter.unusedVariables false
set_option linter.unusedSimpArgs false
set_option maxHeartbeats 0
set_option maxRecDepth 20000
namespace Go.Vi.CK
open Go.Proofs

theorem with_norm (vs : List Int) : D.strip false (normS 2 (NT.st [NT.id, NT.ints IntKind.u8]) (D.sl (Own.tok 92) 2 (withO vs))) = .sl .no 2 (outsD (vs.map fun v => ⟨v, []⟩)) := by
  have h : ∀ l : List Int, D.strips false ((withO l).map (normD (NT.st [NT.id, NT.ints IntKind.u8]))) = outsD (l.map fun v => ⟨v, []⟩) := by
    intro l
    induction l with
    | nil => simp [withO, outsD, D.strips]
    | cons v r ih =>
      have e : (withO (v :: r)).map (normD (NT.st [NT.id, NT.ints IntKind.u8])) = normD (NT.st [NT.id, NT.ints IntKind.u8]) (.agg [.int .i64 v, .sl .full 0 []]) :: (withO r).map (normD (NT.st [NT.id, NT.ints IntKind.u8])) := rfl
      rw [e, D.strips, ih]
      have e2 : D.strip false (normD (NT.st [NT.id, NT.ints IntKind.u8]) (.agg [.int .i64 v, .sl .full 0 []])) = outD ⟨v, []⟩ := by
        simp [normD, normA, normP, normI, D.strip, D.strips, stripO, outD]
      rw [e2]; rfl
  simp only [normS, D.strip, stripO, h, ite_self]
theorem with_strips (k : Bool) (vs : List Int) (hk : k = true) : D.strips k (withO vs) = withO vs := by
  subst hk
  induction vs with
  | nil => simp [withO, D.strips]
  | cons v r ih =>
    have e : withO (v :: r) = .agg [.int .i64 v, .sl .full 0 []] :: withO r := rfl
    rw [e, D.strips, ih]
    simp [D.strip, D.strips, stripO]
theorem with_bares (vs : List Int) : bares (withO vs) = withO vs := by
  induction vs with
  | nil => simp [withO, bares]
  | cons v r ih =>
    have e : withO (v :: r) = .agg [.int .i64 v, .sl .full 0 []] :: withO r := rfl
    rw [e, bares, ih]
    simp [D.bare, bares, Own.bare]
theorem with_eta (s vs : List Int) : (⟨0, ins [D.agg [D.agg [D.arr .u8 32 (List.replicate 32 0), .int .u32 4294967295], .sli .no .u8 s, .int .u32 0, .sl .no 1 []]], outs (outsD (vs.map fun v => ⟨v, []⟩)), 0⟩ : TxP) = withT s vs := by
  rw [outs_D]; rfl
theorem with_Ok {s vs : List Int} (h1 : bytes s ∧ s.length < 1000) (h2 : vs.length < 10 ∧ ∀ v ∈ vs, i64ok v) : (withT s vs).Ok :=
  ⟨⟨by show (0 : Int) ≤ 0; decide, by show (0 : Int) < _; decide⟩, fun x hx => by
    have hx : x ∈ [(⟨List.replicate 32 0, 4294967295, s, 0, []⟩ : InP)] := hx
    obtain rfl := List.mem_singleton.1 hx
    exact ⟨by simp, bytes_rep 32, show u32ok 4294967295 from ⟨by decide, by decide⟩, show scr s from ⟨h1.1, by have := h1.2; omega⟩, show u32ok 0 from ⟨by decide, by decide⟩, fun w hw => (by cases hw), show (0 : Nat) < 1000000000 by decide⟩,
  fun x hx => by
    have hx : x ∈ vs.map (fun v => (⟨v, []⟩ : OutP)) := hx
    obtain ⟨v, hv, rfl⟩ := List.mem_map.1 hx
    exact ⟨h2.2 v hv, show scr [] from ⟨bytes_nil, by decide⟩⟩, ⟨by show (0 : Int) ≤ 0; decide, by show (0 : Int) < _; decide⟩, by show (1 : Nat) < _; decide, by show (vs.map _).length < _; rw [List.length_map]; have := h2.1; omega⟩
theorem c_cwith : Contract E 20 := by
  refine contract_seeT hE hgl (show E.P.funcs[20]? = some Tryd.f20 from Tryd.func20) rfl (p := sp_cwith) (fun _ _ _ => rfl) ?_
  intro args hv
  unfold sp_cwith at hv ⊢
  split at hv
  case h_2 => exact hv.elim
  rename_i script vs
  refine ⟨by simp, Nat.le_of_ble_eq_true rfl, ?_⟩
  simp only [givesIf] at hv
  obtain ⟨⟨hby, hsl⟩, hvl, hvi⟩ := hv
  simp (config := {dsimp := false}) only [↓vp0, vz, vn, nq, tys, cellD, wideIR, if_true, if_false, implies_true, forall_const, ne_eq, reduceIte, reduceCtorEq, Nat.reduceEqDiff, Nat.reduceAdd, Nat.reduceMul, Nat.reduceLT, Nat.reduceSub, Nat.reduceLeDiff, Nat.reduceBNe, Nat.reduceBEq, Nat.reduceBeqDiff, List.range, List.range.loop, gl0, Tryd.ntmps20, Tryd.results20, vb, PF.toR, gives, plainD, plainT, D.bare, bares, Own.bare, show Int.toNat 0 = 0 from rfl, List.getD_cons_zero, spec_plain, sp_plain, c_plain, b_plain]
  refine ⟨Int.le_refl _, by decide, Int.le_refl _, by decide, ?_⟩
  refine loopB [(32, none, 2)] ?_
  simp only [adoptB, adoptAgg, S.box, look, setL, if_true, if_false, reduceIte, Nat.reduceEqDiff, Option.map_some]
  have hta : ∀ k, k < vs.length → withO (vs.take (k + 1)) = withO (vs.take k) ++ [D.agg [.int .i64 (vs.getD k 0), .sl .full 0 []]] := fun k hk => by
    simp only [withO, List.take_add_one, List.map_append]
    congr 1
    simp [hk, List.getD]
  have hlo : ∀ k, k ≤ vs.length → (withO (vs.take k)).length = k := fun k hk => by simp [withO]; omega
  refine ⟨Fin (vs.length + 1), fun k => [(7, .int .i64 (k.1 : Nat)), (1, .sli .no .i64 vs), (6, .bp 32 0), (5, .bp 8 0), (4, .bp 0 0)], fun k => ⟨[(0, .agg [.agg [.int .u32 0, .arr .u8 32 (List.replicate 32 0), .arr .u8 32 (List.replicate 32 0), .int .u32 0, .int .u32 0, .int .u32 0], .sl .full 0 []]), (8, plainD), (32, .agg [.int .u32 0, .sl .fresh 36 [.agg [.agg [.arr .u8 32 (List.replicate 32 0), .int .u32 4294967295], .sli .no .u8 script, .int .u32 0, .sl .full 0 []]], .sl (.tok 92) 2 (withO (vs.take k.1)), .int .u32 0])], [(92, (k.1, 2))], 96⟩, fun k => vs.length - k.1, 0, fun _ => rfl, ?_, ?_⟩
  · exact ⟨⟨wkD_eq rfl, rfl, wkD_eq rfl, rfl, wkD_eq rfl, rfl, wkD_eq rfl, rfl, wkD_eq rfl, rfl, trivial⟩, ⟨rfl, Nat.le_of_ble_eq_true rfl, rfl, rfl, Nat.le_of_ble_eq_true rfl, rfl, rfl, Nat.le_of_ble_eq_true rfl, rfl, trivial⟩, ⟨rfl, Nat.le_of_ble_eq_true rfl, trivial⟩⟩
  rintro ⟨k, hk⟩
  have hlk := hlo k (by omega)
  simp (config := {dsimp := false}) only [↓vp0, vz, vn, nq, tys, cellD, wideIR, if_true, if_false, implies_true, forall_const, ne_eq, reduceIte, reduceCtorEq, Nat.reduceEqDiff, Nat.reduceAdd, Nat.reduceMul, Nat.reduceLT, Nat.reduceSub, Nat.reduceLeDiff, Nat.reduceBNe, Nat.reduceBEq, Nat.reduceBeqDiff, List.range, List.range.loop, gl0, Tryd.ntmps20, Tryd.results20, plainD, plainT]
  refine ⟨fun hh => ?_, fun hh => ?_⟩
  · have hh := of_decide_eq_true hh
    have hk' : k < vs.length := by omega
    have hgv : vs.getD k 0 = vs.getD k 0 := rfl
    refine drawX [1, 4, 5, 6, 7] [(7, [0, 1])] [] (by kernel_rfl) (wild_of rfl) ?_
    simp (config := {dsimp := false}) only [↓vp0, vz, vn, nq, tys, cellD, wideIR, if_true, if_false, implies_true, forall_const, ne_eq, reduceIte, reduceCtorEq, Nat.reduceEqDiff, Nat.reduceAdd, Nat.reduceMul, Nat.reduceLT, Nat.reduceSub, Nat.reduceLeDiff, Nat.reduceBNe, Nat.reduceBEq, Nat.reduceBeqDiff, List.range, List.range.loop, gl0, Tryd.ntmps20, Tryd.results20, vb, ↓vy0, vx0, Int.toNat_natCast, hlk, D.bare, bares, Own.bare]
    refine ⟨by omega, by omega, by omega, .inr trivial, .inr trivial, (by first | exact okUps_all rfl (by kernel_rfl) | exact okUps_of (by kernel_rfl) rfl | kernel_rfl), (by first | exact okUps_all rfl (by kernel_rfl) | exact okUps_of (by kernel_rfl) rfl | kernel_rfl), ⟨k + 1, by omega⟩, ⟨⟨wkD_eq ?_, rfl, wkD_eq rfl, rfl, wkD_eq rfl, rfl, wkD_eq rfl, rfl, wkD_eq rfl, rfl, trivial⟩, ⟨rfl, Nat.le_of_ble_eq_true rfl, rfl, rfl, Nat.le_of_ble_eq_true rfl, rfl, ?_, Nat.le_of_ble_eq_true rfl, rfl, trivial⟩, ⟨?_, Nat.le_of_ble_eq_true rfl, trivial⟩⟩, by (try simp only); omega⟩
    · exact some_i64 (by (try simp only); omega)
    · rw [hta k hk']; rfl
    · rfl
  · have hh := of_decide_eq_false hh
    obtain rfl : k = vs.length := by omega
    have htk : vs.take vs.length = vs := List.take_of_length_le (Nat.le_refl _)
    simp (config := {dsimp := false}) only [↓vp0, vz, vn, nq, tys, cellD, wideIR, if_true, if_false, implies_true, forall_const, ne_eq, reduceIte, reduceCtorEq, Nat.reduceEqDiff, Nat.reduceAdd, Nat.reduceMul, Nat.reduceLT, Nat.reduceSub, Nat.reduceLeDiff, Nat.reduceBNe, Nat.reduceBEq, Nat.reduceBeqDiff, List.range, List.range.loop, gl0, Tryd.ntmps20, Tryd.results20, vb, PF.toR, gives, givesIf, htk, with_norm, with_eta, with_bares, D.bare, bares, Own.bare, D.strip, D.strips, stripO, if_true, with_strips, spec_tid, sp_tid, c_tid, b_tid]
    exact ⟨tx_okT (with_Ok ⟨hby, hsl⟩ ⟨hvl, hvi⟩), rfl⟩
end Go.Vi.CK
end

section
set_option linter.unusedVariables false
set_option linter.unusedSimpArgs false
namespace Go.Proofs.YtneickpgbhckmaaDoor
open Go.ChangeShapes Go.WideShapes Go.RowKit Go.Vi Go.Vi.CK

theorem Tryd.own : ownKnob Tryd.prog.godebug = none := by kernel_rfl
theorem Tryd.laidOut : laidOutB Tryd.prog = true := by kernel_rfl

theorem globs_of_laid {W : World} (h : laidMetH Tryd.prog [("spinney/sha.roundNumbers", Rows.laid_spinney_sha_roundNumbers)] W) : Globs Go.Vi.CK.E (g0 W) W := by
  rw [MakeChecks.laidMetH_plain _ _ _ (by kernel_rfl)] at h
  obtain ⟨ps, ⟨g, t, cs, fuel, p, q, hg, ht, hv, hd, _, _⟩, _, _⟩ := h
  obtain rfl := Option.some.inj ((show Tryd.prog.globalNamed "spinney/sha.roundNumbers" = some 0 by kernel_rfl).symm.trans hg)
  obtain rfl := Option.some.inj ((show (Tryd.prog.globals[0]?).map (·.type) = some 112 by kernel_rfl).symm.trans ht)
  obtain ⟨xs, m, _, ex, hcl, hl, hel⟩ := DataW.trod_array Tryd.underlying112 hd
  have c5 : Tryd.prog.cellsOf 22 = 1 := by kernel_rfl
  have hlen : kList.length = 64 := by decide
  have e3 : (xs.map (·.1)) = kList.map fun n => .lit (.int .u32 n) :=
    (DataW.agg.inj (Prod.mk.inj ex).1).symm
  have cell : ∀ r, r < 64 → cs.toList[r]? = some (.int .u32 (kList.getD r 0)) := by
    intro r hr
    have hE := hel r hr
    rw [c5, Nat.mul_one, List.getElem?_eq_getElem (by omega)] at hE
    obtain ⟨z, e1, e2, _⟩ := DataW.trod_int Tryd.underlying22 hE
    have e4 : (xs.map (·.1))[r]? = (kList.map fun n => (DataW.lit (.int .u32 n) : DataW Unit))[r]? := by rw [e3]
    rw [List.getElem?_map, List.getElem?_map, List.getElem?_eq_getElem (by omega : r < xs.length), List.getElem?_eq_getElem (by omega : r < kList.length), e2] at e4
    have hz : z = kList.getD r 0 := by
      simp only [Option.map_some, Option.some.injEq, DataW.lit.injEq, Lit.int.injEq, true_and] at e4
      rw [e4, List.getD, List.getElem?_eq_getElem (by omega : r < kList.length)]; rfl
    rw [← hz]
    have h0 : ((cs.toList.drop r).take 1)[0]? = some (.int .u32 z) := by rw [e1]; rfl
    simpa using h0
  have at0 : At W 0 0 (ints .u32 kList) := by
    intro i v hi
    simp only [ints, List.getElem?_map, Option.map_eq_some_iff] at hi
    obtain ⟨z, hz, rfl⟩ := hi
    have hil : i < 64 := by
      have := (List.getElem?_eq_some_iff.1 hz).1
      omega
    have := cell i hil
    rw [List.getD_eq_getElem?_getD, hz] at this
    rw [Nat.zero_add, World.var?_cell hg hv i]
    simpa using this
  intro i d hi
  change glC i = some d at hi
  unfold glC at hi
  split at hi <;> cases hi
  refine ⟨0, 0, ints .u32 kList, rfl, ⟨hlen, rfl⟩, ?_, at0⟩
  have := at0 63 _ (by rw [ints, List.getElem?_map, List.getElem?_eq_getElem (by omega : 63 < kList.length)]; rfl)
  have := cell_lt this
  show 0 + (ints .u32 kList).length ≤ rowSize W 0
  simp only [ints, List.length_map, hlen]
  omega

end Go.Proofs.YtneickpgbhckmaaDoor
end
