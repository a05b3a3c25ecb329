/- Lemmas for the law proved in the text whose name ends with Law. -/
import Derived.Test.YtnfcnphhcgmnmaaDoorM66
import Derived.KernelRfl
import Derived.Test.YtnfcnphhcgmnmaaDoorTie
import Derived.Test.YtnfcnphhcgmnmaaDoorCards
import Derived.SevenTiedAt

section
set_option linter.unusedVariables false
set_option linter.unusedSimpArgs false
set_option maxHeartbeats 0
set_option maxRecDepth 20000
namespace Go.Vi.C8
open Go.Proofs

theorem iAt_lt {l : L2} {i : Nat} (h : i < l.length) : ∀ k, iAt i k < (rowAt l k).length
  | 0 => h
  | k + 1 => by
    have := iAt_lt h k
    rw [show rowAt l (k + 1) = aboveP (rowAt l k) from rfl, above_len]
    simp only [iAt]
    omega
theorem brOf_le (r : L2) (i : Nat) : (brOf r i).length ≤ 1 := by unfold brOf; split <;> simp
theorem branchTo_le (l : L2) (i : Nat) : ∀ k, (branchTo l i k).length ≤ k
  | 0 => Nat.le_refl _
  | k + 1 => by
    have := branchTo_le l i k
    have := brOf_le (rowAt l k) (iAt i k)
    simp only [branchTo, List.length_append]
    omega
theorem brOf_yes {r : L2} {i : Nat} (h : aloneN i r.length = true) : brOf r i = [] := if_pos h
theorem brOf_no {r : L2} {i : Nat} (h : aloneN i r.length = false) : brOf r i = [partnerP r i] := if_neg (by rw [h]; simp)
theorem partner_len {r : L2} {i : Nat} (hr : h32 r) (hi : i < r.length) : (partnerP r i).length = 32 := by
  unfold partnerP
  exact hr _ (getD_mem (by split <;> (try split) <;> omega))
theorem c_refBranch : Contract E 21 := by
  refine contract_see hE hgl (show E.P.funcs[21]? = some Tryd.f21 from Tryd.func21) rfl (p := sp_refBranch) (fun _ _ _ => rfl) ?_
  intro args hv
  unfold sp_refBranch at hv ⊢
  split at hv
  case h_2 => exact hv.elim
  rename_i es i
  refine ⟨by simp, Nat.le_of_ble_eq_true rfl, ?_⟩
  simp only [givesIf] at hv
  obtain ⟨⟨l, rfl, hl⟩, hlen, hby⟩ := hv
  rw [arrs_length] at hlen
  rw [hs_arrs] at hby
  change awp E Tryd.f21.ntmps _ (retQ E Tryd.f21 (branchV (hs (arrs l)) i)) _ _
  rw [hs_arrs]
  by_cases c1 : i < 0
  · have d1 : decide (i < 0) = true := decide_eq_true c1
    have hV : branchV l i = .tup [.sl .full 0 [], .bool false] := if_pos (.inl c1)
    simp (config := {dsimp := false}) only [↓a_range, ↓roundQ_normal, ↓roundQ_ret, ↓roundQ_exit, ↓a_skip, ↓a_exit, ↓a_ret, ↓a_seq, ↓a_cond, ↓a_block, ↓a_loop, ↓a_region, ↓a_draw, ↓a_region', ↓a_draw', ↓then_key, ↓with_key, ↓withY_key, ↓cond_key, ↓one_key, ↓thenQ_normal, ↓thenQ_exit, ↓thenQ_ret, ↓blockQ_normal, ↓blockQ_exit, ↓blockQ_ret, ↓aops, ↓aopsD, ↓imp_tt, ↓imp_ff, ↓imp_tf, ↓imp_ft, ↓imp_tnt, ↓imp_tnf, ↓imp_fnt, ↓imp_fnf, look, setL, resQ, argSlots, buildSt, buildArr, intsOf, eqB, keepSl, bindM, bindP, opR, okIf, ok, bad, ev, ofConst, putS, updS, S.upd, dstOk, yieldD, yieldY, strBin, isShift, cellD, retQ, resD, stripO, convR, conv2R, makeR, indexR, indexAddrR, fieldAddrR, loadR, storeR, allocR, boxR, pickR, buildR, buildSliceR, lenR, nilCheckR, extractR, funcR, ipSlice, sliceR, appendR, callR, minR, maxR, S.box, S.tok, TK.sh, known, tsize, destI, ownTok, srcI, isIn, isSl, isSt, appendI, appendL, bnd, aggBin, nilD, isPtr, fieldOf, sized, enumS, seeR, seeL, hasB, flat, flats, List.foldl_nil, List.foldl_cons, Option.getD_some, Option.getD_none, if_true, if_false, reduceIte, reduceCtorEq, Nat.reduceEqDiff, Nat.reduceAdd, Nat.reduceMul, Nat.reduceLT, Nat.reduceSub, Nat.reduceLeDiff, true_and, and_true, List.map_cons, List.map_nil, List.size_toArray, List.length_cons, List.length_nil, Option.map_some, Option.map_none, Option.bind_some, true_implies, Bool.false_eq_true, Bool.true_eq_false, false_implies, Bool.not_true, Bool.not_false, List.getElem?_cons_zero, List.getElem?_cons_succ, implies_true, and_self, Bool.and_true, Bool.true_and, BEq.rfl, and_assoc, Option.isSome_some, Option.isSome_none, List.take_succ_cons, List.take_zero, List.set_cons_zero, List.set_cons_succ, List.forall_mem_cons, List.not_mem_nil, forall_const, List.range, List.range.loop, ne_eq, not_false_eq_true, not_true_eq_false, List.cons.injEq, Prod.mk.injEq, List.append_nil, List.nil_append, List.cons_append, false_and, and_false, Bool.false_and, Bool.and_false, Nat.reduceBNe, Nat.reduceBEq, beq_self_eq_true, bne_self_eq_false, Nat.reduceBeqDiff, Bool.or_false, Bool.false_or, Bool.or_true, Bool.true_or, vs0, vs1, vs2, vs3, vs4, tys, gl0, Tryd.ntmps21, Tryd.results21, arrs_length, d1, hV]
  have d1 : decide (i < 0) = false := decide_eq_false c1
  by_cases c2 : i ≥ (l.length : Int)
  · have d2 : decide (i ≥ (l.length : Int)) = true := decide_eq_true c2
    have hV : branchV l i = .tup [.sl .full 0 [], .bool false] := if_pos (.inr c2)
    simp (config := {dsimp := false}) only [↓a_range, ↓roundQ_normal, ↓roundQ_ret, ↓roundQ_exit, ↓a_skip, ↓a_exit, ↓a_ret, ↓a_seq, ↓a_cond, ↓a_block, ↓a_loop, ↓a_region, ↓a_draw, ↓a_region', ↓a_draw', ↓then_key, ↓with_key, ↓withY_key, ↓cond_key, ↓one_key, ↓thenQ_normal, ↓thenQ_exit, ↓thenQ_ret, ↓blockQ_normal, ↓blockQ_exit, ↓blockQ_ret, ↓aops, ↓aopsD, ↓imp_tt, ↓imp_ff, ↓imp_tf, ↓imp_ft, ↓imp_tnt, ↓imp_tnf, ↓imp_fnt, ↓imp_fnf, look, setL, resQ, argSlots, buildSt, buildArr, intsOf, eqB, keepSl, bindM, bindP, opR, okIf, ok, bad, ev, ofConst, putS, updS, S.upd, dstOk, yieldD, yieldY, strBin, isShift, cellD, retQ, resD, stripO, convR, conv2R, makeR, indexR, indexAddrR, fieldAddrR, loadR, storeR, allocR, boxR, pickR, buildR, buildSliceR, lenR, nilCheckR, extractR, funcR, ipSlice, sliceR, appendR, callR, minR, maxR, S.box, S.tok, TK.sh, known, tsize, destI, ownTok, srcI, isIn, isSl, isSt, appendI, appendL, bnd, aggBin, nilD, isPtr, fieldOf, sized, enumS, seeR, seeL, hasB, flat, flats, List.foldl_nil, List.foldl_cons, Option.getD_some, Option.getD_none, if_true, if_false, reduceIte, reduceCtorEq, Nat.reduceEqDiff, Nat.reduceAdd, Nat.reduceMul, Nat.reduceLT, Nat.reduceSub, Nat.reduceLeDiff, true_and, and_true, List.map_cons, List.map_nil, List.size_toArray, List.length_cons, List.length_nil, Option.map_some, Option.map_none, Option.bind_some, true_implies, Bool.false_eq_true, Bool.true_eq_false, false_implies, Bool.not_true, Bool.not_false, List.getElem?_cons_zero, List.getElem?_cons_succ, implies_true, and_self, Bool.and_true, Bool.true_and, BEq.rfl, and_assoc, Option.isSome_some, Option.isSome_none, List.take_succ_cons, List.take_zero, List.set_cons_zero, List.set_cons_succ, List.forall_mem_cons, List.not_mem_nil, forall_const, List.range, List.range.loop, ne_eq, not_false_eq_true, not_true_eq_false, List.cons.injEq, Prod.mk.injEq, List.append_nil, List.nil_append, List.cons_append, false_and, and_false, Bool.false_and, Bool.and_false, Nat.reduceBNe, Nat.reduceBEq, beq_self_eq_true, bne_self_eq_false, Nat.reduceBeqDiff, Bool.or_false, Bool.false_or, Bool.or_true, Bool.true_or, vs0, vs1, vs2, vs3, vs4, tys, gl0, Tryd.ntmps21, Tryd.results21, arrs_length, d1, d2, hV]
  have d2 : decide (i ≥ (l.length : Int)) = false := decide_eq_false c2
  obtain ⟨i, rfl⟩ : ∃ k : Nat, i = (k : Int) := ⟨i.toNat, by omega⟩
  have hV : branchV l i = .tup [.sl .no 32 (arrs (branchTo l i (dep l.length))), .bool true] := if_neg (by omega)
  have hil : i < l.length := by omega
  have hdl := dep_lt l.length (by omega)
  simp (config := {dsimp := false}) only [↓a_range, ↓roundQ_normal, ↓roundQ_ret, ↓roundQ_exit, ↓a_skip, ↓a_exit, ↓a_ret, ↓a_seq, ↓a_cond, ↓a_block, ↓a_loop, ↓a_region, ↓a_draw, ↓a_region', ↓a_draw', ↓then_key, ↓with_key, ↓withY_key, ↓cond_key, ↓one_key, ↓thenQ_normal, ↓thenQ_exit, ↓thenQ_ret, ↓blockQ_normal, ↓blockQ_exit, ↓blockQ_ret, ↓aops, ↓aopsD, ↓imp_tt, ↓imp_ff, ↓imp_tf, ↓imp_ft, ↓imp_tnt, ↓imp_tnf, ↓imp_fnt, ↓imp_fnf, look, setL, resQ, argSlots, buildSt, buildArr, intsOf, eqB, keepSl, bindM, bindP, opR, okIf, ok, bad, ev, ofConst, putS, updS, S.upd, dstOk, yieldD, yieldY, strBin, isShift, cellD, retQ, resD, stripO, convR, conv2R, makeR, indexR, indexAddrR, fieldAddrR, loadR, storeR, allocR, boxR, pickR, buildR, buildSliceR, lenR, nilCheckR, extractR, funcR, ipSlice, sliceR, appendR, callR, minR, maxR, S.box, S.tok, TK.sh, known, tsize, destI, ownTok, srcI, isIn, isSl, isSt, appendI, appendL, bnd, aggBin, nilD, isPtr, fieldOf, sized, enumS, seeR, seeL, hasB, flat, flats, List.foldl_nil, List.foldl_cons, Option.getD_some, Option.getD_none, if_true, if_false, reduceIte, reduceCtorEq, Nat.reduceEqDiff, Nat.reduceAdd, Nat.reduceMul, Nat.reduceLT, Nat.reduceSub, Nat.reduceLeDiff, true_and, and_true, List.map_cons, List.map_nil, List.size_toArray, List.length_cons, List.length_nil, Option.map_some, Option.map_none, Option.bind_some, true_implies, Bool.false_eq_true, Bool.true_eq_false, false_implies, Bool.not_true, Bool.not_false, List.getElem?_cons_zero, List.getElem?_cons_succ, implies_true, and_self, Bool.and_true, Bool.true_and, BEq.rfl, and_assoc, Option.isSome_some, Option.isSome_none, List.take_succ_cons, List.take_zero, List.set_cons_zero, List.set_cons_succ, List.forall_mem_cons, List.not_mem_nil, forall_const, List.range, List.range.loop, ne_eq, not_false_eq_true, not_true_eq_false, List.cons.injEq, Prod.mk.injEq, List.append_nil, List.nil_append, List.cons_append, false_and, and_false, Bool.false_and, Bool.and_false, Nat.reduceBNe, Nat.reduceBEq, beq_self_eq_true, bne_self_eq_false, Nat.reduceBeqDiff, Bool.or_false, Bool.false_or, Bool.or_true, Bool.true_or, vs0, vs1, vs2, vs3, vs4, tys, gl0, Tryd.ntmps21, Tryd.results21, arrs_length, d1, d2, hV]
  refine loopA [(6, none, 32)] ?_
  simp (config := {dsimp := false}) only [↓a_range, ↓roundQ_normal, ↓roundQ_ret, ↓roundQ_exit, ↓a_skip, ↓a_exit, ↓a_ret, ↓a_seq, ↓a_cond, ↓a_block, ↓a_loop, ↓a_region, ↓a_draw, ↓a_region', ↓a_draw', ↓then_key, ↓with_key, ↓withY_key, ↓cond_key, ↓one_key, ↓thenQ_normal, ↓thenQ_exit, ↓thenQ_ret, ↓blockQ_normal, ↓blockQ_exit, ↓blockQ_ret, ↓aops, ↓aopsD, ↓imp_tt, ↓imp_ff, ↓imp_tf, ↓imp_ft, ↓imp_tnt, ↓imp_tnf, ↓imp_fnt, ↓imp_fnf, look, setL, resQ, argSlots, buildSt, buildArr, intsOf, eqB, keepSl, bindM, bindP, opR, okIf, ok, bad, ev, ofConst, putS, updS, S.upd, dstOk, yieldD, yieldY, strBin, isShift, cellD, retQ, resD, stripO, convR, conv2R, makeR, indexR, indexAddrR, fieldAddrR, loadR, storeR, allocR, boxR, pickR, buildR, buildSliceR, lenR, nilCheckR, extractR, funcR, ipSlice, sliceR, appendR, callR, minR, maxR, S.box, S.tok, TK.sh, known, tsize, destI, ownTok, srcI, isIn, isSl, isSt, appendI, appendL, bnd, aggBin, nilD, isPtr, fieldOf, sized, enumS, seeR, seeL, hasB, flat, flats, List.foldl_nil, List.foldl_cons, Option.getD_some, Option.getD_none, if_true, if_false, reduceIte, reduceCtorEq, Nat.reduceEqDiff, Nat.reduceAdd, Nat.reduceMul, Nat.reduceLT, Nat.reduceSub, Nat.reduceLeDiff, true_and, and_true, List.map_cons, List.map_nil, List.size_toArray, List.length_cons, List.length_nil, Option.map_some, Option.map_none, Option.bind_some, true_implies, Bool.false_eq_true, Bool.true_eq_false, false_implies, Bool.not_true, Bool.not_false, List.getElem?_cons_zero, List.getElem?_cons_succ, implies_true, and_self, Bool.and_true, Bool.true_and, BEq.rfl, and_assoc, Option.isSome_some, Option.isSome_none, List.take_succ_cons, List.take_zero, List.set_cons_zero, List.set_cons_succ, List.forall_mem_cons, List.not_mem_nil, forall_const, List.range, List.range.loop, ne_eq, not_false_eq_true, not_true_eq_false, List.cons.injEq, Prod.mk.injEq, List.append_nil, List.nil_append, List.cons_append, false_and, and_false, Bool.false_and, Bool.and_false, Nat.reduceBNe, Nat.reduceBEq, beq_self_eq_true, bne_self_eq_false, Nat.reduceBeqDiff, Bool.or_false, Bool.false_or, Bool.or_true, Bool.true_or, vs0, vs1, vs2, vs3, vs4, tys, gl0, Tryd.ntmps21, Tryd.results21, adopt]
  refine ⟨{k : Nat // k ≤ dep l.length}, (fun k => [(6, .sl (.tok 44) 32 (arrs (branchTo l i k.1))), (1, .int .i64 (iAt i k.1 : Nat)), (0, .sl .no 32 (arrs (rowAt l k.1)))]), (fun k => ⟨[], [(44, ((branchTo l i k.1).length, 32))], 48⟩), (fun k => dep l.length - k.1), ⟨0, Nat.zero_le _⟩, (fun _ => rfl), ?_, ?_⟩
  · exact ⟨⟨wkD_eq rfl, rfl, wkD_eq rfl, rfl, wkD_eq rfl, rfl, trivial⟩, trivial, ⟨rfl, Nat.le_of_ble_eq_true rfl, trivial⟩⟩
  rintro ⟨k, hk⟩
  have hk1 := row_more k l
  have hk2 := row_h32 hl k
  have hk3 := row_len_le l k
  have hkb := row_bytes hby k
  have hki := iAt_lt hil k
  have hbl := branchTo_le l i k
  simp only
  have hsn : branchTo l i (k + 1) = branchTo l i k ++ brOf (rowAt l k) (iAt i k) := rfl
  have hrn : rowAt l (k + 1) = aboveP (rowAt l k) := rfl
  have hin : iAt i (k + 1) = iAt i k / 2 := rfl
  have hlb : (arrs (branchTo l i k)).length = (branchTo l i k).length := arrs_length _
  by_cases hh : 1 < (rowAt l k).length
  case neg =>
    have dd : decide (((rowAt l k).length : Int) > 1) = false := decide_eq_false (by omega)
    have he := row_end hk hh
    simp (config := {dsimp := false}) only [↓a_range, ↓roundQ_normal, ↓roundQ_ret, ↓roundQ_exit, ↓a_skip, ↓a_exit, ↓a_ret, ↓a_seq, ↓a_cond, ↓a_block, ↓a_loop, ↓a_region, ↓a_draw, ↓a_region', ↓a_draw', ↓then_key, ↓with_key, ↓withY_key, ↓cond_key, ↓one_key, ↓thenQ_normal, ↓thenQ_exit, ↓thenQ_ret, ↓blockQ_normal, ↓blockQ_exit, ↓blockQ_ret, ↓aops, ↓aopsD, ↓imp_tt, ↓imp_ff, ↓imp_tf, ↓imp_ft, ↓imp_tnt, ↓imp_tnf, ↓imp_fnt, ↓imp_fnf, look, setL, resQ, argSlots, buildSt, buildArr, intsOf, eqB, keepSl, bindM, bindP, opR, okIf, ok, bad, ev, ofConst, putS, updS, S.upd, dstOk, yieldD, yieldY, strBin, isShift, cellD, retQ, resD, stripO, convR, conv2R, makeR, indexR, indexAddrR, fieldAddrR, loadR, storeR, allocR, boxR, pickR, buildR, buildSliceR, lenR, nilCheckR, extractR, funcR, ipSlice, sliceR, appendR, callR, minR, maxR, S.box, S.tok, TK.sh, known, tsize, destI, ownTok, srcI, isIn, isSl, isSt, appendI, appendL, bnd, aggBin, nilD, isPtr, fieldOf, sized, enumS, seeR, seeL, hasB, flat, flats, List.foldl_nil, List.foldl_cons, Option.getD_some, Option.getD_none, if_true, if_false, reduceIte, reduceCtorEq, Nat.reduceEqDiff, Nat.reduceAdd, Nat.reduceMul, Nat.reduceLT, Nat.reduceSub, Nat.reduceLeDiff, true_and, and_true, List.map_cons, List.map_nil, List.size_toArray, List.length_cons, List.length_nil, Option.map_some, Option.map_none, Option.bind_some, true_implies, Bool.false_eq_true, Bool.true_eq_false, false_implies, Bool.not_true, Bool.not_false, List.getElem?_cons_zero, List.getElem?_cons_succ, implies_true, and_self, Bool.and_true, Bool.true_and, BEq.rfl, and_assoc, Option.isSome_some, Option.isSome_none, List.take_succ_cons, List.take_zero, List.set_cons_zero, List.set_cons_succ, List.forall_mem_cons, List.not_mem_nil, forall_const, List.range, List.range.loop, ne_eq, not_false_eq_true, not_true_eq_false, List.cons.injEq, Prod.mk.injEq, List.append_nil, List.nil_append, List.cons_append, false_and, and_false, Bool.false_and, Bool.and_false, Nat.reduceBNe, Nat.reduceBEq, beq_self_eq_true, bne_self_eq_false, Nat.reduceBeqDiff, Bool.or_false, Bool.false_or, Bool.or_true, Bool.true_or, vs0, vs1, vs2, vs3, vs4, tys, gl0, Tryd.ntmps21, Tryd.results21, arrs_length, dd, strips_arrs]
    rw [hV, ← he]
  have dd : decide (((rowAt l k).length : Int) > 1) = true := decide_eq_true (by omega)
  have hkd : k < dep l.length := hk1.1 hh
  generalize rowAt l k = r at *
  generalize branchTo l i k = out at *
  generalize iAt i k = a at *
  have q1 := half a (by omega)
  have o1 := odd_dec a
  have w1 : IntKind.wrap .i64 ((a : Int) + 1) = (a : Int) + 1 := IntWalk.i64_in _ (by omega)
  have hp := partner_len hk2 hki
  cases hal : aloneN a r.length
  · rw [brOf_no hal] at hsn
    have hea : arrs out ++ [D.arr .u8 32 (partnerP r a)] = arrs (out ++ [partnerP r a]) := arrs_append out [_]
    rcases Nat.mod_two_eq_zero_or_one a with h2 | h2
    · rw [decide_eq_false (show ¬ a % 2 = 1 by omega)] at o1
      have d6 : decide ((a : Int) + 1 < (r.length : Int)) = true := decide_eq_true (by
        have : ¬ a + 1 = r.length := fun e => by
          unfold aloneN at hal
          rw [decide_eq_true h2, decide_eq_true e] at hal
          cases hal
        omega)
      simp (config := {dsimp := false}) only [↓a_range, ↓roundQ_normal, ↓roundQ_ret, ↓roundQ_exit, ↓a_skip, ↓a_exit, ↓a_ret, ↓a_seq, ↓a_cond, ↓a_block, ↓a_loop, ↓a_region, ↓a_draw, ↓a_region', ↓a_draw', ↓then_key, ↓with_key, ↓withY_key, ↓cond_key, ↓one_key, ↓thenQ_normal, ↓thenQ_exit, ↓thenQ_ret, ↓blockQ_normal, ↓blockQ_exit, ↓blockQ_ret, ↓aops, ↓aopsD, ↓imp_tt, ↓imp_ff, ↓imp_tf, ↓imp_ft, ↓imp_tnt, ↓imp_tnf, ↓imp_fnt, ↓imp_fnf, look, setL, resQ, argSlots, buildSt, buildArr, intsOf, eqB, keepSl, bindM, bindP, opR, okIf, ok, bad, ev, ofConst, putS, updS, S.upd, dstOk, yieldD, yieldY, strBin, isShift, cellD, retQ, resD, stripO, convR, conv2R, makeR, indexR, indexAddrR, fieldAddrR, loadR, storeR, allocR, boxR, pickR, buildR, buildSliceR, lenR, nilCheckR, extractR, funcR, ipSlice, sliceR, appendR, callR, minR, maxR, S.box, S.tok, TK.sh, known, tsize, destI, ownTok, srcI, isIn, isSl, isSt, appendI, appendL, bnd, aggBin, nilD, isPtr, fieldOf, sized, enumS, seeR, seeL, hasB, flat, flats, List.foldl_nil, List.foldl_cons, Option.getD_some, Option.getD_none, if_true, if_false, reduceIte, reduceCtorEq, Nat.reduceEqDiff, Nat.reduceAdd, Nat.reduceMul, Nat.reduceLT, Nat.reduceSub, Nat.reduceLeDiff, true_and, and_true, List.map_cons, List.map_nil, List.size_toArray, List.length_cons, List.length_nil, Option.map_some, Option.map_none, Option.bind_some, true_implies, Bool.false_eq_true, Bool.true_eq_false, false_implies, Bool.not_true, Bool.not_false, List.getElem?_cons_zero, List.getElem?_cons_succ, implies_true, and_self, Bool.and_true, Bool.true_and, BEq.rfl, and_assoc, Option.isSome_some, Option.isSome_none, List.take_succ_cons, List.take_zero, List.set_cons_zero, List.set_cons_succ, List.forall_mem_cons, List.not_mem_nil, forall_const, List.range, List.range.loop, ne_eq, not_false_eq_true, not_true_eq_false, List.cons.injEq, Prod.mk.injEq, List.append_nil, List.nil_append, List.cons_append, false_and, and_false, Bool.false_and, Bool.and_false, Nat.reduceBNe, Nat.reduceBEq, beq_self_eq_true, bne_self_eq_false, Nat.reduceBeqDiff, Bool.or_false, Bool.false_or, Bool.or_true, Bool.true_or, vs0, vs1, vs2, vs3, vs4, tys, gl0, Tryd.ntmps21, Tryd.results21, PF.toR, gives, givesIf, arrs_length, dd, o1, w1, d6, q1, strips_arrs, hs_arrs, Int.toNat_natCast, bare_arr, hea, spec_refPartner, sp_refPartner, c_refPartner, b_refPartner, spec_refAbove, sp_refAbove, c_refAbove, b_refAbove]
      refine ⟨by decide, ⟨r, rfl, hk2⟩, by omega, by omega, by omega, by omega, .inr trivial, .inr trivial, ⟨r, rfl, hk2⟩, by omega, hkb, by decide, ⟨k + 1, hkd⟩, ⟨⟨wkD_eq ?_, rfl, wkD_eq ?_, rfl, wkD_eq ?_, rfl, trivial⟩, trivial, ⟨?_, Nat.le_of_ble_eq_true rfl, trivial⟩⟩, by (try simp only); omega⟩
      · exact congrArg (fun x => some (D.sl (.tok 44) 32 (arrs x))) hsn.symm
      · exact congrArg (fun n : Nat => some (D.int .i64 (n : Int))) hin.symm
      · exact congrArg (fun x => some (D.sl .no 32 (arrs x))) hrn.symm
      · exact congrArg (fun n : Nat => some (n, 32)) (by rw [hsn]; simp)
    · rw [decide_eq_true h2] at o1
      simp (config := {dsimp := false}) only [↓a_range, ↓roundQ_normal, ↓roundQ_ret, ↓roundQ_exit, ↓a_skip, ↓a_exit, ↓a_ret, ↓a_seq, ↓a_cond, ↓a_block, ↓a_loop, ↓a_region, ↓a_draw, ↓a_region', ↓a_draw', ↓then_key, ↓with_key, ↓withY_key, ↓cond_key, ↓one_key, ↓thenQ_normal, ↓thenQ_exit, ↓thenQ_ret, ↓blockQ_normal, ↓blockQ_exit, ↓blockQ_ret, ↓aops, ↓aopsD, ↓imp_tt, ↓imp_ff, ↓imp_tf, ↓imp_ft, ↓imp_tnt, ↓imp_tnf, ↓imp_fnt, ↓imp_fnf, look, setL, resQ, argSlots, buildSt, buildArr, intsOf, eqB, keepSl, bindM, bindP, opR, okIf, ok, bad, ev, ofConst, putS, updS, S.upd, dstOk, yieldD, yieldY, strBin, isShift, cellD, retQ, resD, stripO, convR, conv2R, makeR, indexR, indexAddrR, fieldAddrR, loadR, storeR, allocR, boxR, pickR, buildR, buildSliceR, lenR, nilCheckR, extractR, funcR, ipSlice, sliceR, appendR, callR, minR, maxR, S.box, S.tok, TK.sh, known, tsize, destI, ownTok, srcI, isIn, isSl, isSt, appendI, appendL, bnd, aggBin, nilD, isPtr, fieldOf, sized, enumS, seeR, seeL, hasB, flat, flats, List.foldl_nil, List.foldl_cons, Option.getD_some, Option.getD_none, if_true, if_false, reduceIte, reduceCtorEq, Nat.reduceEqDiff, Nat.reduceAdd, Nat.reduceMul, Nat.reduceLT, Nat.reduceSub, Nat.reduceLeDiff, true_and, and_true, List.map_cons, List.map_nil, List.size_toArray, List.length_cons, List.length_nil, Option.map_some, Option.map_none, Option.bind_some, true_implies, Bool.false_eq_true, Bool.true_eq_false, false_implies, Bool.not_true, Bool.not_false, List.getElem?_cons_zero, List.getElem?_cons_succ, implies_true, and_self, Bool.and_true, Bool.true_and, BEq.rfl, and_assoc, Option.isSome_some, Option.isSome_none, List.take_succ_cons, List.take_zero, List.set_cons_zero, List.set_cons_succ, List.forall_mem_cons, List.not_mem_nil, forall_const, List.range, List.range.loop, ne_eq, not_false_eq_true, not_true_eq_false, List.cons.injEq, Prod.mk.injEq, List.append_nil, List.nil_append, List.cons_append, false_and, and_false, Bool.false_and, Bool.and_false, Nat.reduceBNe, Nat.reduceBEq, beq_self_eq_true, bne_self_eq_false, Nat.reduceBeqDiff, Bool.or_false, Bool.false_or, Bool.or_true, Bool.true_or, vs0, vs1, vs2, vs3, vs4, tys, gl0, Tryd.ntmps21, Tryd.results21, PF.toR, gives, givesIf, arrs_length, dd, o1, q1, strips_arrs, hs_arrs, Int.toNat_natCast, bare_arr, hea, spec_refPartner, sp_refPartner, c_refPartner, b_refPartner, spec_refAbove, sp_refAbove, c_refAbove, b_refAbove]
      refine ⟨by decide, ⟨r, rfl, hk2⟩, by omega, by omega, by omega, by omega, .inr trivial, .inr trivial, ⟨r, rfl, hk2⟩, by omega, hkb, by decide, ⟨k + 1, hkd⟩, ⟨⟨wkD_eq ?_, rfl, wkD_eq ?_, rfl, wkD_eq ?_, rfl, trivial⟩, trivial, ⟨?_, Nat.le_of_ble_eq_true rfl, trivial⟩⟩, by (try simp only); omega⟩
      · exact congrArg (fun x => some (D.sl (.tok 44) 32 (arrs x))) hsn.symm
      · exact congrArg (fun n : Nat => some (D.int .i64 (n : Int))) hin.symm
      · exact congrArg (fun x => some (D.sl .no 32 (arrs x))) hrn.symm
      · exact congrArg (fun n : Nat => some (n, 32)) (by rw [hsn]; simp)
  · rw [brOf_yes hal, List.append_nil] at hsn
    have hya : a % 2 = 0 ∧ a + 1 = r.length := by
      unfold aloneN at hal
      rw [Bool.and_eq_true] at hal
      exact ⟨of_decide_eq_true hal.1, of_decide_eq_true hal.2⟩
    rw [decide_eq_false (show ¬ a % 2 = 1 by omega)] at o1
    have d6 : decide ((a : Int) + 1 < (r.length : Int)) = false := decide_eq_false (by omega)
    simp (config := {dsimp := false}) only [↓a_range, ↓roundQ_normal, ↓roundQ_ret, ↓roundQ_exit, ↓a_skip, ↓a_exit, ↓a_ret, ↓a_seq, ↓a_cond, ↓a_block, ↓a_loop, ↓a_region, ↓a_draw, ↓a_region', ↓a_draw', ↓then_key, ↓with_key, ↓withY_key, ↓cond_key, ↓one_key, ↓thenQ_normal, ↓thenQ_exit, ↓thenQ_ret, ↓blockQ_normal, ↓blockQ_exit, ↓blockQ_ret, ↓aops, ↓aopsD, ↓imp_tt, ↓imp_ff, ↓imp_tf, ↓imp_ft, ↓imp_tnt, ↓imp_tnf, ↓imp_fnt, ↓imp_fnf, look, setL, resQ, argSlots, buildSt, buildArr, intsOf, eqB, keepSl, bindM, bindP, opR, okIf, ok, bad, ev, ofConst, putS, updS, S.upd, dstOk, yieldD, yieldY, strBin, isShift, cellD, retQ, resD, stripO, convR, conv2R, makeR, indexR, indexAddrR, fieldAddrR, loadR, storeR, allocR, boxR, pickR, buildR, buildSliceR, lenR, nilCheckR, extractR, funcR, ipSlice, sliceR, appendR, callR, minR, maxR, S.box, S.tok, TK.sh, known, tsize, destI, ownTok, srcI, isIn, isSl, isSt, appendI, appendL, bnd, aggBin, nilD, isPtr, fieldOf, sized, enumS, seeR, seeL, hasB, flat, flats, List.foldl_nil, List.foldl_cons, Option.getD_some, Option.getD_none, if_true, if_false, reduceIte, reduceCtorEq, Nat.reduceEqDiff, Nat.reduceAdd, Nat.reduceMul, Nat.reduceLT, Nat.reduceSub, Nat.reduceLeDiff, true_and, and_true, List.map_cons, List.map_nil, List.size_toArray, List.length_cons, List.length_nil, Option.map_some, Option.map_none, Option.bind_some, true_implies, Bool.false_eq_true, Bool.true_eq_false, false_implies, Bool.not_true, Bool.not_false, List.getElem?_cons_zero, List.getElem?_cons_succ, implies_true, and_self, Bool.and_true, Bool.true_and, BEq.rfl, and_assoc, Option.isSome_some, Option.isSome_none, List.take_succ_cons, List.take_zero, List.set_cons_zero, List.set_cons_succ, List.forall_mem_cons, List.not_mem_nil, forall_const, List.range, List.range.loop, ne_eq, not_false_eq_true, not_true_eq_false, List.cons.injEq, Prod.mk.injEq, List.append_nil, List.nil_append, List.cons_append, false_and, and_false, Bool.false_and, Bool.and_false, Nat.reduceBNe, Nat.reduceBEq, beq_self_eq_true, bne_self_eq_false, Nat.reduceBeqDiff, Bool.or_false, Bool.false_or, Bool.or_true, Bool.true_or, vs0, vs1, vs2, vs3, vs4, tys, gl0, Tryd.ntmps21, Tryd.results21, PF.toR, gives, givesIf, arrs_length, dd, o1, w1, d6, q1, strips_arrs, hs_arrs, spec_refAbove, sp_refAbove, c_refAbove, b_refAbove]
    refine ⟨by decide, ⟨r, rfl, hk2⟩, by omega, hkb, by decide, ⟨k + 1, hkd⟩, ⟨⟨wkD_eq ?_, rfl, wkD_eq ?_, rfl, wkD_eq ?_, rfl, trivial⟩, trivial, ⟨?_, Nat.le_of_ble_eq_true rfl, trivial⟩⟩, by (try simp only); omega⟩
    · exact congrArg (fun x => some (D.sl (.tok 44) 32 (arrs x))) hsn.symm
    · exact congrArg (fun n : Nat => some (D.int .i64 (n : Int))) hin.symm
    · exact congrArg (fun x => some (D.sl .no 32 (arrs x))) hrn.symm
    · exact congrArg (fun n : Nat => some (n, 32)) (by rw [hsn])
end Go.Vi.C8
end

section
/-
  A BRANCH, row by row.
-/
set_option linter.unusedVariables false
namespace Go.Vi

theorem step_out (r : L2) (at_ j : Nat) (out : L2) (hj : j < (r.length + 1) / 2) (ha : at_ < r.length) :
    (if j = at_ / 2 ∧ (pairAt r j).2.2 = false then out ++ [if at_ % 2 = 0 then (pairAt r j).2.1 else (pairAt r j).1] else out) = out ++ (if j = at_ / 2 then brOf r at_ else []) := by
  by_cases h : j = at_ / 2
  · rw [if_pos h]
    by_cases h2 : 2 * j + 2 ≤ r.length
    · have hf : (pairAt r j).2.2 = false := by simp [pairAt, h2]
      rw [if_pos ⟨h, hf⟩]
      have hal : aloneN at_ r.length = false := by
        unfold aloneN
        rcases Nat.mod_two_eq_zero_or_one at_ with e | e
        · rw [decide_eq_false (show ¬ at_ + 1 = r.length by omega), Bool.and_false]
        · rw [decide_eq_false (show ¬ at_ % 2 = 0 by omega), Bool.false_and]
      have hb : brOf r at_ = [partnerP r at_] := if_neg (by rw [hal]; simp)
      rw [hb]
      refine congrArg (fun x => out ++ [x]) ?_
      rcases Nat.mod_two_eq_zero_or_one at_ with e | e
      · rw [if_pos e]
        unfold partnerP pairAt
        simp only
        rw [if_pos h2, if_neg (show ¬ at_ % 2 = 1 by omega), if_neg (by omega), show 2 * j = at_ by omega]
      · rw [if_neg (show ¬ at_ % 2 = 0 by omega)]
        unfold partnerP pairAt
        simp only
        rw [if_pos e, if_neg (by omega), show 2 * j = at_ - 1 by omega]
    · have hf : (pairAt r j).2.2 = true := by simp [pairAt, h2]
      rw [if_neg (by rw [hf]; simp)]
      have hal : aloneN at_ r.length = true := by
        unfold aloneN
        rw [decide_eq_true (show at_ % 2 = 0 by omega), decide_eq_true (show at_ + 1 = r.length by omega)]
        rfl
      unfold brOf
      rw [if_pos hal, List.append_nil]
  · rw [if_neg (fun e => h e.1), if_neg h, List.append_nil]
theorem range_map_snoc (r : L2) (j : Nat) : (List.range (j + 1)).map (pairAt r) = (List.range j).map (pairAt r) ++ [pairAt r j] := by simp [List.range_succ]
theorem step_pre (r : L2) (at_ : Nat) (out : L2) (ha : at_ < r.length) : ∀ j, j < (r.length + 1) / 2 → ((List.range j).map (pairAt r)).foldl stepB (0, at_, out, r.length) = (j, at_, out ++ (if at_ / 2 < j then brOf r at_ else []), r.length)
  | 0, _ => by simp
  | j + 1, hj => by
    rw [range_map_snoc, List.foldl_append, step_pre r at_ out ha j (by omega)]
    simp only [List.foldl_cons, List.foldl_nil, stepB]
    rw [step_out r at_ j _ (by omega) ha, if_neg (by omega)]
    simp only [Prod.mk.injEq, true_and, and_true, List.append_assoc]
    by_cases h1 : at_ / 2 < j
    · rw [if_pos h1, if_neg (by omega), if_pos (by omega), List.append_nil]
    · by_cases h2 : j = at_ / 2
      · rw [if_neg h1, if_pos h2, if_pos (by omega), List.nil_append]
      · rw [if_neg h1, if_neg h2, if_neg (by omega), List.append_nil]
theorem step_row (r : L2) (at_ : Nat) (out : L2) (ha : at_ < r.length) : (pairsOf r).foldl stepB (0, at_, out, r.length) = (0, at_ / 2, out ++ brOf r at_, (r.length + 1) / 2) := by
  unfold pairsOf
  obtain ⟨m, hm⟩ : ∃ m, (r.length + 1) / 2 = m + 1 := ⟨(r.length + 1) / 2 - 1, by omega⟩
  rw [hm, range_map_snoc, List.foldl_append, step_pre r at_ out ha m (by omega)]
  simp only [List.foldl_cons, List.foldl_nil, stepB]
  rw [step_out r at_ m _ (by omega) ha, if_pos hm.symm, List.append_assoc]
  simp only [Prod.mk.injEq, true_and, List.append_cancel_left_eq]
  refine ⟨?_, hm⟩
  by_cases h1 : at_ / 2 < m
  · rw [if_pos h1, if_neg (by omega), List.append_nil]
  · rw [if_neg h1, if_pos (by omega), List.nil_append]
theorem iAt_lt' {l : L2} {i : Nat} (h : i < l.length) : ∀ k, iAt i k < (rowAt l k).length
  | 0 => h
  | k + 1 => by
    have := iAt_lt' h k
    rw [show rowAt l (k + 1) = aboveP (rowAt l k) from rfl, above_len]
    simp only [iAt]
    omega
theorem step_all {l : L2} {i : Nat} (h : i < l.length) : ∀ k, (pairsTo l k).foldl stepB (0, i, [], l.length) = (0, iAt i k, branchTo l i k, (rowAt l k).length)
  | 0 => rfl
  | k + 1 => by
    rw [pairsTo, List.foldl_append, step_all h k, step_row _ _ _ (iAt_lt' h k)]
    simp only [iAt, branchTo, show rowAt l (k + 1) = aboveP (rowAt l k) from rfl, above_len]
end Go.Vi
end

section
set_option linter.unusedVariables false
set_option linter.unusedSimpArgs false
set_option maxHeartbeats 0
set_option maxRecDepth 20000
namespace Go.Vi.C8
open Go.Proofs

theorem c_branch : Contract E 20 := by
  refine contract_see hE hgl (show E.P.funcs[20]? = some Tryd.f20 from Tryd.func20) rfl (p := sp_branch) (fun _ _ _ => rfl) ?_
  intro args hv
  unfold sp_branch at hv ⊢
  split at hv
  case h_2 => exact hv.elim
  rename_i es i
  refine ⟨by simp, Nat.le_of_ble_eq_true rfl, ?_⟩
  simp only [givesIf] at hv
  obtain ⟨⟨l, rfl, hl⟩, hlen⟩ := hv
  rw [arrs_length] at hlen
  change awp E Tryd.f20.ntmps _ (retQ E Tryd.f20 (branchV (hs (arrs l)) i)) _ _
  rw [hs_arrs]
  by_cases c1 : i < 0
  · have d1 : decide (i < 0) = true := decide_eq_true c1
    have hV : branchV l i = .tup [.sl .full 0 [], .bool false] := if_pos (.inl c1)
    simp (config := {dsimp := false}) only [↓a_range, ↓roundQ_normal, ↓roundQ_ret, ↓roundQ_exit, ↓a_skip, ↓a_exit, ↓a_ret, ↓a_seq, ↓a_cond, ↓a_block, ↓a_loop, ↓a_region, ↓a_draw, ↓a_region', ↓a_draw', ↓then_key, ↓with_key, ↓withY_key, ↓cond_key, ↓one_key, ↓thenQ_normal, ↓thenQ_exit, ↓thenQ_ret, ↓blockQ_normal, ↓blockQ_exit, ↓blockQ_ret, ↓aops, ↓aopsD, ↓imp_tt, ↓imp_ff, ↓imp_tf, ↓imp_ft, ↓imp_tnt, ↓imp_tnf, ↓imp_fnt, ↓imp_fnf, look, setL, resQ, argSlots, buildSt, buildArr, intsOf, eqB, keepSl, bindM, bindP, opR, okIf, ok, bad, ev, ofConst, putS, updS, S.upd, dstOk, yieldD, yieldY, strBin, isShift, cellD, retQ, resD, stripO, convR, conv2R, makeR, indexR, indexAddrR, fieldAddrR, loadR, storeR, allocR, boxR, pickR, buildR, buildSliceR, lenR, nilCheckR, extractR, funcR, ipSlice, sliceR, appendR, callR, minR, maxR, S.box, S.tok, TK.sh, known, tsize, destI, ownTok, srcI, isIn, isSl, isSt, appendI, appendL, bnd, aggBin, nilD, isPtr, fieldOf, sized, enumS, seeR, seeL, hasB, flat, flats, List.foldl_nil, List.foldl_cons, Option.getD_some, Option.getD_none, if_true, if_false, reduceIte, reduceCtorEq, Nat.reduceEqDiff, Nat.reduceAdd, Nat.reduceMul, Nat.reduceLT, Nat.reduceSub, Nat.reduceLeDiff, true_and, and_true, List.map_cons, List.map_nil, List.size_toArray, List.length_cons, List.length_nil, Option.map_some, Option.map_none, Option.bind_some, true_implies, Bool.false_eq_true, Bool.true_eq_false, false_implies, Bool.not_true, Bool.not_false, List.getElem?_cons_zero, List.getElem?_cons_succ, implies_true, and_self, Bool.and_true, Bool.true_and, BEq.rfl, and_assoc, Option.isSome_some, Option.isSome_none, List.take_succ_cons, List.take_zero, List.set_cons_zero, List.set_cons_succ, List.forall_mem_cons, List.not_mem_nil, forall_const, List.range, List.range.loop, ne_eq, not_false_eq_true, not_true_eq_false, List.cons.injEq, Prod.mk.injEq, List.append_nil, List.nil_append, List.cons_append, false_and, and_false, Bool.false_and, Bool.and_false, Nat.reduceBNe, Nat.reduceBEq, beq_self_eq_true, bne_self_eq_false, Nat.reduceBeqDiff, Bool.or_false, Bool.false_or, Bool.or_true, Bool.true_or, vs0, vs1, vs2, vs3, vs4, tys, gl0, Tryd.ntmps20, Tryd.results20, arrs_length, d1, hV]
  have d1 : decide (i < 0) = false := decide_eq_false c1
  by_cases c2 : i ≥ (l.length : Int)
  · have d2 : decide (i ≥ (l.length : Int)) = true := decide_eq_true c2
    have hV : branchV l i = .tup [.sl .full 0 [], .bool false] := if_pos (.inr c2)
    simp (config := {dsimp := false}) only [↓a_range, ↓roundQ_normal, ↓roundQ_ret, ↓roundQ_exit, ↓a_skip, ↓a_exit, ↓a_ret, ↓a_seq, ↓a_cond, ↓a_block, ↓a_loop, ↓a_region, ↓a_draw, ↓a_region', ↓a_draw', ↓then_key, ↓with_key, ↓withY_key, ↓cond_key, ↓one_key, ↓thenQ_normal, ↓thenQ_exit, ↓thenQ_ret, ↓blockQ_normal, ↓blockQ_exit, ↓blockQ_ret, ↓aops, ↓aopsD, ↓imp_tt, ↓imp_ff, ↓imp_tf, ↓imp_ft, ↓imp_tnt, ↓imp_tnf, ↓imp_fnt, ↓imp_fnf, look, setL, resQ, argSlots, buildSt, buildArr, intsOf, eqB, keepSl, bindM, bindP, opR, okIf, ok, bad, ev, ofConst, putS, updS, S.upd, dstOk, yieldD, yieldY, strBin, isShift, cellD, retQ, resD, stripO, convR, conv2R, makeR, indexR, indexAddrR, fieldAddrR, loadR, storeR, allocR, boxR, pickR, buildR, buildSliceR, lenR, nilCheckR, extractR, funcR, ipSlice, sliceR, appendR, callR, minR, maxR, S.box, S.tok, TK.sh, known, tsize, destI, ownTok, srcI, isIn, isSl, isSt, appendI, appendL, bnd, aggBin, nilD, isPtr, fieldOf, sized, enumS, seeR, seeL, hasB, flat, flats, List.foldl_nil, List.foldl_cons, Option.getD_some, Option.getD_none, if_true, if_false, reduceIte, reduceCtorEq, Nat.reduceEqDiff, Nat.reduceAdd, Nat.reduceMul, Nat.reduceLT, Nat.reduceSub, Nat.reduceLeDiff, true_and, and_true, List.map_cons, List.map_nil, List.size_toArray, List.length_cons, List.length_nil, Option.map_some, Option.map_none, Option.bind_some, true_implies, Bool.false_eq_true, Bool.true_eq_false, false_implies, Bool.not_true, Bool.not_false, List.getElem?_cons_zero, List.getElem?_cons_succ, implies_true, and_self, Bool.and_true, Bool.true_and, BEq.rfl, and_assoc, Option.isSome_some, Option.isSome_none, List.take_succ_cons, List.take_zero, List.set_cons_zero, List.set_cons_succ, List.forall_mem_cons, List.not_mem_nil, forall_const, List.range, List.range.loop, ne_eq, not_false_eq_true, not_true_eq_false, List.cons.injEq, Prod.mk.injEq, List.append_nil, List.nil_append, List.cons_append, false_and, and_false, Bool.false_and, Bool.and_false, Nat.reduceBNe, Nat.reduceBEq, beq_self_eq_true, bne_self_eq_false, Nat.reduceBeqDiff, Bool.or_false, Bool.false_or, Bool.or_true, Bool.true_or, vs0, vs1, vs2, vs3, vs4, tys, gl0, Tryd.ntmps20, Tryd.results20, arrs_length, d1, d2, hV]
  have d2 : decide (i ≥ (l.length : Int)) = false := decide_eq_false c2
  obtain ⟨i, rfl⟩ : ∃ k : Nat, i = (k : Int) := ⟨i.toNat, by omega⟩
  have hV : branchV l i = .tup [.sl .no 32 (arrs (branchTo l i (dep l.length))), .bool true] := if_neg (by omega)
  have hil : i < l.length := by omega
  have hst : (allP l).foldl stepB (0, i, [], l.length) = (0, iAt i (dep l.length), branchTo l i (dep l.length), (rowAt l (dep l.length)).length) := step_all hil _
  have hii : (i : Int).toNat = i := rfl
  have hn2 : ((l.length : Nat) : Int).toNat = l.length := rfl
  have hne : arrs l ≠ [] := fun e => by have := arrs_eq_nil e; omega
  simp (config := {dsimp := false}) only [↓a_range, ↓roundQ_normal, ↓roundQ_ret, ↓roundQ_exit, ↓a_skip, ↓a_exit, ↓a_ret, ↓a_seq, ↓a_cond, ↓a_block, ↓a_loop, ↓a_region, ↓a_draw, ↓a_region', ↓a_draw', ↓then_key, ↓with_key, ↓withY_key, ↓cond_key, ↓one_key, ↓thenQ_normal, ↓thenQ_exit, ↓thenQ_ret, ↓blockQ_normal, ↓blockQ_exit, ↓blockQ_ret, ↓aops, ↓aopsD, ↓imp_tt, ↓imp_ff, ↓imp_tf, ↓imp_ft, ↓imp_tnt, ↓imp_tnf, ↓imp_fnt, ↓imp_fnf, look, setL, resQ, argSlots, buildSt, buildArr, intsOf, eqB, keepSl, bindM, bindP, opR, okIf, ok, bad, ev, ofConst, putS, updS, S.upd, dstOk, yieldD, yieldY, strBin, isShift, cellD, retQ, resD, stripO, convR, conv2R, makeR, indexR, indexAddrR, fieldAddrR, loadR, storeR, allocR, boxR, pickR, buildR, buildSliceR, lenR, nilCheckR, extractR, funcR, ipSlice, sliceR, appendR, callR, minR, maxR, S.box, S.tok, TK.sh, known, tsize, destI, ownTok, srcI, isIn, isSl, isSt, appendI, appendL, bnd, aggBin, nilD, isPtr, fieldOf, sized, enumS, seeR, seeL, hasB, flat, flats, List.foldl_nil, List.foldl_cons, Option.getD_some, Option.getD_none, if_true, if_false, reduceIte, reduceCtorEq, Nat.reduceEqDiff, Nat.reduceAdd, Nat.reduceMul, Nat.reduceLT, Nat.reduceSub, Nat.reduceLeDiff, true_and, and_true, List.map_cons, List.map_nil, List.size_toArray, List.length_cons, List.length_nil, Option.map_some, Option.map_none, Option.bind_some, true_implies, Bool.false_eq_true, Bool.true_eq_false, false_implies, Bool.not_true, Bool.not_false, List.getElem?_cons_zero, List.getElem?_cons_succ, implies_true, and_self, Bool.and_true, Bool.true_and, BEq.rfl, and_assoc, Option.isSome_some, Option.isSome_none, List.take_succ_cons, List.take_zero, List.set_cons_zero, List.set_cons_succ, List.forall_mem_cons, List.not_mem_nil, forall_const, List.range, List.range.loop, ne_eq, not_false_eq_true, not_true_eq_false, List.cons.injEq, Prod.mk.injEq, List.append_nil, List.nil_append, List.cons_append, false_and, and_false, Bool.false_and, Bool.and_false, Nat.reduceBNe, Nat.reduceBEq, beq_self_eq_true, bne_self_eq_false, Nat.reduceBeqDiff, Bool.or_false, Bool.false_or, Bool.or_true, Bool.true_or, vs0, vs1, vs2, vs3, vs4, tys, gl0, Tryd.ntmps20, Tryd.results20, boxF, reach, getAll, posN, addN, D.ids, D.idsL, D.tks, D.tksL, ownTk, backN, enumS, zipS, BF.toR, D.ren, D.rens, renO, nodupB, List.contains_cons, List.contains_nil, Bool.or_false, Bool.or_true, Bool.false_or, Bool.true_or, List.getElem?_nil, List.append_assoc, List.cons_append, List.elem_cons, List.elem_nil, PF.toR, gives, givesIf, arrs_length, strips_arrs, hs_arrs, d1, d2, hV, hii, hn2, hst, spec_rows, sp_rows, c_rows, b_rows]
  exact ⟨hne, ⟨l, rfl, hl⟩, hlen, by omega, by omega⟩
theorem foldV_form (h : List Int) (i n : Int) (b : L2) : ∃ A B, foldV h i n b = .tup [.arr .u8 32 A, .bool B] := by
  unfold foldV
  split <;> exact ⟨_, _, rfl⟩
theorem branch_h32 {l : L2} {i : Nat} (hl : h32 l) (h : i < l.length) : ∀ k, h32 (branchTo l i k)
  | 0 => fun x hx => absurd hx List.not_mem_nil
  | k + 1 => fun x hx => by
    rcases List.mem_append.1 hx with h1 | h1
    · exact branch_h32 hl h k x h1
    · unfold brOf at h1
      split at h1
      · exact absurd h1 List.not_mem_nil
      · simp at h1
        rw [h1]
        exact partner_len (row_h32 hl k) (iAt_lt h k)
theorem c_lawMBranches : Contract E 6 := by
  refine contract_see hE hgl (show E.P.funcs[6]? = some Tryd.f6 from Tryd.func6) rfl (p := sp_lawMBranches) (fun _ _ _ => rfl) ?_
  intro args hv
  unfold sp_lawMBranches at hv ⊢
  split at hv
  case h_2 => exact hv.elim
  rename_i es i h j n fs
  refine ⟨by simp, Nat.le_of_ble_eq_true rfl, ?_⟩
  simp only [givesIf] at hv
  obtain ⟨⟨l0, rfl, hl0⟩, by0, ⟨f0, rfl, hf0⟩, by1, hh, bh⟩ := hv
  rw [hs_arrs] at by0 by1
  change awp E Tryd.f6.ntmps _ (retQ E Tryd.f6 (D.bool true)) _ _
  have hcut : ∀ l0 : L2, h32 l0 → (∀ h ∈ l0, bytes h) → ∃ l, l = l0.take 60 ∧ h32 l ∧ l.length ≤ 60 ∧ ∀ h ∈ l, bytes h := fun l0 hl0 hb => ⟨_, rfl, fun h hm => hl0 h (List.mem_of_mem_take hm), by simp; omega, fun h hm => hb h (List.mem_of_mem_take hm)⟩
  obtain ⟨l, el, hl, hlen, hby⟩ := hcut l0 hl0 by0
  obtain ⟨f, ef, hf, hfl, hfb⟩ := hcut f0 hf0 by1
  have hi0 : isH (arrs l0) := ⟨l0, rfl, hl0⟩
  have hi1 : isH (arrs f0) := ⟨f0, rfl, hf0⟩
  have hi32 : isH (arrs l) := ⟨l, rfl, hl⟩
  have hif : isH (arrs f) := ⟨f, rfl, hf⟩
  obtain ⟨A, B, hF⟩ := foldV_form h j n f
  have dA : decide (A = A) = true := decide_eq_true rfl
  have dB : decide (B = B) = true := decide_eq_true rfl
  by_cases hc : i < 0 ∨ i ≥ l.length
  · have hV : branchV l i = .tup [.sl .full 0 [], .bool false] := if_pos hc
    have dE : decide (([] : L2) = []) = true := decide_eq_true rfl
    simp (config := {dsimp := false}) only [↓a_range, ↓roundQ_normal, ↓roundQ_ret, ↓roundQ_exit, ↓a_skip, ↓a_exit, ↓a_ret, ↓a_seq, ↓a_cond, ↓a_block, ↓a_loop, ↓a_region, ↓a_draw, ↓a_region', ↓a_draw', ↓then_key, ↓with_key, ↓withY_key, ↓cond_key, ↓one_key, ↓thenQ_normal, ↓thenQ_exit, ↓thenQ_ret, ↓blockQ_normal, ↓blockQ_exit, ↓blockQ_ret, ↓aops, ↓aopsD, ↓imp_tt, ↓imp_ff, ↓imp_tf, ↓imp_ft, ↓imp_tnt, ↓imp_tnf, ↓imp_fnt, ↓imp_fnf, look, setL, resQ, argSlots, buildSt, buildArr, intsOf, eqB, keepSl, bindM, bindP, opR, okIf, ok, bad, ev, ofConst, putS, updS, S.upd, dstOk, yieldD, yieldY, strBin, isShift, cellD, retQ, resD, stripO, convR, conv2R, makeR, indexR, indexAddrR, fieldAddrR, loadR, storeR, allocR, boxR, pickR, buildR, buildSliceR, lenR, nilCheckR, extractR, funcR, ipSlice, sliceR, appendR, callR, minR, maxR, S.box, S.tok, TK.sh, known, tsize, destI, ownTok, srcI, isIn, isSl, isSt, appendI, appendL, bnd, aggBin, nilD, isPtr, fieldOf, sized, enumS, seeR, seeL, hasB, flat, flats, List.foldl_nil, List.foldl_cons, Option.getD_some, Option.getD_none, if_true, if_false, reduceIte, reduceCtorEq, Nat.reduceEqDiff, Nat.reduceAdd, Nat.reduceMul, Nat.reduceLT, Nat.reduceSub, Nat.reduceLeDiff, true_and, and_true, List.map_cons, List.map_nil, List.size_toArray, List.length_cons, List.length_nil, Option.map_some, Option.map_none, Option.bind_some, true_implies, Bool.false_eq_true, Bool.true_eq_false, false_implies, Bool.not_true, Bool.not_false, List.getElem?_cons_zero, List.getElem?_cons_succ, implies_true, and_self, Bool.and_true, Bool.true_and, BEq.rfl, and_assoc, Option.isSome_some, Option.isSome_none, List.take_succ_cons, List.take_zero, List.set_cons_zero, List.set_cons_succ, List.forall_mem_cons, List.not_mem_nil, forall_const, List.range, List.range.loop, ne_eq, not_false_eq_true, not_true_eq_false, List.cons.injEq, Prod.mk.injEq, List.append_nil, List.nil_append, List.cons_append, false_and, and_false, Bool.false_and, Bool.and_false, Nat.reduceBNe, Nat.reduceBEq, beq_self_eq_true, bne_self_eq_false, Nat.reduceBeqDiff, Bool.or_false, Bool.false_or, Bool.or_true, Bool.true_or, vs0, vs1, vs2, vs3, vs4, tys, gl0, Tryd.ntmps6, Tryd.results6, PF.toR, gives, givesIf, strips_arrs, hs_arrs, arrs_length, ← el, hV, spec_cut, sp_cut, c_cut, b_cut, spec_branch, sp_branch, c_branch, b_branch, spec_refBranch, sp_refBranch, c_refBranch, b_refBranch]
    refine ⟨hi0, hi32, by omega, hi32, by omega, hby, ?_⟩
    refine drawX [5, 7, 8, 9, 10] [(13, [0, 1, 2, 3, 4, 5, 6, 7, 8, 9, 10, 11, 12]), (14, [12])] [(14, [136])] (by kernel_rfl) (wild_of rfl) ?_
    simp (config := {dsimp := false}) only [↓a_range, ↓roundQ_normal, ↓roundQ_ret, ↓roundQ_exit, ↓a_skip, ↓a_exit, ↓a_ret, ↓a_seq, ↓a_cond, ↓a_block, ↓a_loop, ↓a_region, ↓a_draw, ↓a_region', ↓a_draw', ↓then_key, ↓with_key, ↓withY_key, ↓cond_key, ↓one_key, ↓thenQ_normal, ↓thenQ_exit, ↓thenQ_ret, ↓blockQ_normal, ↓blockQ_exit, ↓blockQ_ret, ↓aops, ↓aopsD, ↓imp_tt, ↓imp_ff, ↓imp_tf, ↓imp_ft, ↓imp_tnt, ↓imp_tnf, ↓imp_fnt, ↓imp_fnf, look, setL, resQ, argSlots, buildSt, buildArr, intsOf, eqB, keepSl, bindM, bindP, opR, okIf, ok, bad, ev, ofConst, putS, updS, S.upd, dstOk, yieldD, yieldY, strBin, isShift, cellD, retQ, resD, stripO, convR, conv2R, makeR, indexR, indexAddrR, fieldAddrR, loadR, storeR, allocR, boxR, pickR, buildR, buildSliceR, lenR, nilCheckR, extractR, funcR, ipSlice, sliceR, appendR, callR, minR, maxR, S.box, S.tok, TK.sh, known, tsize, destI, ownTok, srcI, isIn, isSl, isSt, appendI, appendL, bnd, aggBin, nilD, isPtr, fieldOf, sized, enumS, seeR, seeL, hasB, flat, flats, List.foldl_nil, List.foldl_cons, Option.getD_some, Option.getD_none, if_true, if_false, reduceIte, reduceCtorEq, Nat.reduceEqDiff, Nat.reduceAdd, Nat.reduceMul, Nat.reduceLT, Nat.reduceSub, Nat.reduceLeDiff, true_and, and_true, List.map_cons, List.map_nil, List.size_toArray, List.length_cons, List.length_nil, Option.map_some, Option.map_none, Option.bind_some, true_implies, Bool.false_eq_true, Bool.true_eq_false, false_implies, Bool.not_true, Bool.not_false, List.getElem?_cons_zero, List.getElem?_cons_succ, implies_true, and_self, Bool.and_true, Bool.true_and, BEq.rfl, and_assoc, Option.isSome_some, Option.isSome_none, List.take_succ_cons, List.take_zero, List.set_cons_zero, List.set_cons_succ, List.forall_mem_cons, List.not_mem_nil, forall_const, List.range, List.range.loop, ne_eq, not_false_eq_true, not_true_eq_false, List.cons.injEq, Prod.mk.injEq, List.append_nil, List.nil_append, List.cons_append, false_and, and_false, Bool.false_and, Bool.and_false, Nat.reduceBNe, Nat.reduceBEq, beq_self_eq_true, bne_self_eq_false, Nat.reduceBeqDiff, Bool.or_false, Bool.false_or, Bool.or_true, Bool.true_or, vs0, vs1, vs2, vs3, vs4, tys, gl0, Tryd.ntmps6, Tryd.results6, boxF, reach, getAll, posN, addN, D.ids, D.idsL, D.tks, D.tksL, ownTk, backN, enumS, zipS, BF.toR, D.ren, D.rens, renO, nodupB, List.contains_cons, List.contains_nil, Bool.or_false, Bool.or_true, Bool.false_or, Bool.true_or, List.getElem?_nil, List.append_assoc, List.cons_append, List.elem_cons, List.elem_nil, ↓aopsX, okX_nil, okX_u, okX_t, stateAt, S.drop, dropK, wildIds, finalS, List.filter_cons, List.filter_nil, List.flatMap_cons, List.flatMap_nil, List.contains_cons, List.contains_nil, List.elem_cons, List.elem_nil, Bool.or_false, Bool.or_true, Bool.false_or, Bool.true_or, PF.toR, gives, givesIf, strips_arrs, hs_arrs, arrs_length, ← ef, hF, hh, spec_cut, sp_cut, c_cut, b_cut, spec_fold, sp_fold, c_fold, b_fold]
    refine ⟨hi1, .inr trivial, hif, okUps_of (by kernel_rfl) rfl, okUps_of (by kernel_rfl) rfl, ?_⟩
    refine drawX [5, 7, 8, 9, 10, 11, 12] [(13, [0, 1, 2, 3, 4, 5, 6, 7, 8, 9, 10, 11, 12]), (14, [12])] [(14, [200])] (by kernel_rfl) (wild_of rfl) ?_
    simp (config := {dsimp := false}) only [↓a_range, ↓roundQ_normal, ↓roundQ_ret, ↓roundQ_exit, ↓a_skip, ↓a_exit, ↓a_ret, ↓a_seq, ↓a_cond, ↓a_block, ↓a_loop, ↓a_region, ↓a_draw, ↓a_region', ↓a_draw', ↓then_key, ↓with_key, ↓withY_key, ↓cond_key, ↓one_key, ↓thenQ_normal, ↓thenQ_exit, ↓thenQ_ret, ↓blockQ_normal, ↓blockQ_exit, ↓blockQ_ret, ↓aops, ↓aopsD, ↓imp_tt, ↓imp_ff, ↓imp_tf, ↓imp_ft, ↓imp_tnt, ↓imp_tnf, ↓imp_fnt, ↓imp_fnf, look, setL, resQ, argSlots, buildSt, buildArr, intsOf, eqB, keepSl, bindM, bindP, opR, okIf, ok, bad, ev, ofConst, putS, updS, S.upd, dstOk, yieldD, yieldY, strBin, isShift, cellD, retQ, resD, stripO, convR, conv2R, makeR, indexR, indexAddrR, fieldAddrR, loadR, storeR, allocR, boxR, pickR, buildR, buildSliceR, lenR, nilCheckR, extractR, funcR, ipSlice, sliceR, appendR, callR, minR, maxR, S.box, S.tok, TK.sh, known, tsize, destI, ownTok, srcI, isIn, isSl, isSt, appendI, appendL, bnd, aggBin, nilD, isPtr, fieldOf, sized, enumS, seeR, seeL, hasB, flat, flats, List.foldl_nil, List.foldl_cons, Option.getD_some, Option.getD_none, if_true, if_false, reduceIte, reduceCtorEq, Nat.reduceEqDiff, Nat.reduceAdd, Nat.reduceMul, Nat.reduceLT, Nat.reduceSub, Nat.reduceLeDiff, true_and, and_true, List.map_cons, List.map_nil, List.size_toArray, List.length_cons, List.length_nil, Option.map_some, Option.map_none, Option.bind_some, true_implies, Bool.false_eq_true, Bool.true_eq_false, false_implies, Bool.not_true, Bool.not_false, List.getElem?_cons_zero, List.getElem?_cons_succ, implies_true, and_self, Bool.and_true, Bool.true_and, BEq.rfl, and_assoc, Option.isSome_some, Option.isSome_none, List.take_succ_cons, List.take_zero, List.set_cons_zero, List.set_cons_succ, List.forall_mem_cons, List.not_mem_nil, forall_const, List.range, List.range.loop, ne_eq, not_false_eq_true, not_true_eq_false, List.cons.injEq, Prod.mk.injEq, List.append_nil, List.nil_append, List.cons_append, false_and, and_false, Bool.false_and, Bool.and_false, Nat.reduceBNe, Nat.reduceBEq, beq_self_eq_true, bne_self_eq_false, Nat.reduceBeqDiff, Bool.or_false, Bool.false_or, Bool.or_true, Bool.true_or, vs0, vs1, vs2, vs3, vs4, tys, gl0, Tryd.ntmps6, Tryd.results6, boxF, reach, getAll, posN, addN, D.ids, D.idsL, D.tks, D.tksL, ownTk, backN, enumS, zipS, BF.toR, D.ren, D.rens, renO, nodupB, List.contains_cons, List.contains_nil, Bool.or_false, Bool.or_true, Bool.false_or, Bool.true_or, List.getElem?_nil, List.append_assoc, List.cons_append, List.elem_cons, List.elem_nil, ↓aopsX, okX_nil, okX_u, okX_t, stateAt, S.drop, dropK, wildIds, finalS, List.filter_cons, List.filter_nil, List.flatMap_cons, List.flatMap_nil, List.contains_cons, List.contains_nil, List.elem_cons, List.elem_nil, Bool.or_false, Bool.or_true, Bool.false_or, Bool.true_or, PF.toR, gives, givesIf, strips_arrs, hs_arrs, arrs_length, ← ef, hF, hh, decide_true, show hs [] = [] from rfl, spec_cut, sp_cut, c_cut, b_cut, spec_refFold, sp_refFold, c_refFold, b_refFold, spec_hashes, sp_hashes, c_hashes, b_hashes, spec_works, sp_works, c_works, b_works]
    exact ⟨hi1, .inr trivial, hif, by omega, bh, hfb, okUps_of (by kernel_rfl) rfl, okUps_of (by kernel_rfl) rfl, .inl trivial, .inl trivial, ⟨[], rfl, fun x hx => absurd hx List.not_mem_nil⟩⟩
  · obtain ⟨G, hG, hGl, hV⟩ : ∃ G, h32 G ∧ G.length < 1000000 ∧ branchV l i = .tup [.sl .no 32 (arrs G), .bool true] := ⟨_, branch_h32 hl (by omega) _, by have := branchTo_le l i.toNat (dep l.length); have := dep_lt l.length (by omega); omega, if_neg hc⟩
    have dE : decide (G = G) = true := decide_eq_true rfl
    simp (config := {dsimp := false}) only [↓a_range, ↓roundQ_normal, ↓roundQ_ret, ↓roundQ_exit, ↓a_skip, ↓a_exit, ↓a_ret, ↓a_seq, ↓a_cond, ↓a_block, ↓a_loop, ↓a_region, ↓a_draw, ↓a_region', ↓a_draw', ↓then_key, ↓with_key, ↓withY_key, ↓cond_key, ↓one_key, ↓thenQ_normal, ↓thenQ_exit, ↓thenQ_ret, ↓blockQ_normal, ↓blockQ_exit, ↓blockQ_ret, ↓aops, ↓aopsD, ↓imp_tt, ↓imp_ff, ↓imp_tf, ↓imp_ft, ↓imp_tnt, ↓imp_tnf, ↓imp_fnt, ↓imp_fnf, look, setL, resQ, argSlots, buildSt, buildArr, intsOf, eqB, keepSl, bindM, bindP, opR, okIf, ok, bad, ev, ofConst, putS, updS, S.upd, dstOk, yieldD, yieldY, strBin, isShift, cellD, retQ, resD, stripO, convR, conv2R, makeR, indexR, indexAddrR, fieldAddrR, loadR, storeR, allocR, boxR, pickR, buildR, buildSliceR, lenR, nilCheckR, extractR, funcR, ipSlice, sliceR, appendR, callR, minR, maxR, S.box, S.tok, TK.sh, known, tsize, destI, ownTok, srcI, isIn, isSl, isSt, appendI, appendL, bnd, aggBin, nilD, isPtr, fieldOf, sized, enumS, seeR, seeL, hasB, flat, flats, List.foldl_nil, List.foldl_cons, Option.getD_some, Option.getD_none, if_true, if_false, reduceIte, reduceCtorEq, Nat.reduceEqDiff, Nat.reduceAdd, Nat.reduceMul, Nat.reduceLT, Nat.reduceSub, Nat.reduceLeDiff, true_and, and_true, List.map_cons, List.map_nil, List.size_toArray, List.length_cons, List.length_nil, Option.map_some, Option.map_none, Option.bind_some, true_implies, Bool.false_eq_true, Bool.true_eq_false, false_implies, Bool.not_true, Bool.not_false, List.getElem?_cons_zero, List.getElem?_cons_succ, implies_true, and_self, Bool.and_true, Bool.true_and, BEq.rfl, and_assoc, Option.isSome_some, Option.isSome_none, List.take_succ_cons, List.take_zero, List.set_cons_zero, List.set_cons_succ, List.forall_mem_cons, List.not_mem_nil, forall_const, List.range, List.range.loop, ne_eq, not_false_eq_true, not_true_eq_false, List.cons.injEq, Prod.mk.injEq, List.append_nil, List.nil_append, List.cons_append, false_and, and_false, Bool.false_and, Bool.and_false, Nat.reduceBNe, Nat.reduceBEq, beq_self_eq_true, bne_self_eq_false, Nat.reduceBeqDiff, Bool.or_false, Bool.false_or, Bool.or_true, Bool.true_or, vs0, vs1, vs2, vs3, vs4, tys, gl0, Tryd.ntmps6, Tryd.results6, PF.toR, gives, givesIf, strips_arrs, hs_arrs, arrs_length, ← el, hV, spec_cut, sp_cut, c_cut, b_cut, spec_branch, sp_branch, c_branch, b_branch, spec_refBranch, sp_refBranch, c_refBranch, b_refBranch]
    refine ⟨hi0, hi32, by omega, hi32, by omega, hby, ?_⟩
    refine drawX [5, 7, 8, 9, 10] [(13, [0, 1, 2, 3, 4, 5, 6, 7, 8, 9, 10, 11, 12]), (14, [12])] [(14, [136])] (by kernel_rfl) (wild_of rfl) ?_
    simp (config := {dsimp := false}) only [↓a_range, ↓roundQ_normal, ↓roundQ_ret, ↓roundQ_exit, ↓a_skip, ↓a_exit, ↓a_ret, ↓a_seq, ↓a_cond, ↓a_block, ↓a_loop, ↓a_region, ↓a_draw, ↓a_region', ↓a_draw', ↓then_key, ↓with_key, ↓withY_key, ↓cond_key, ↓one_key, ↓thenQ_normal, ↓thenQ_exit, ↓thenQ_ret, ↓blockQ_normal, ↓blockQ_exit, ↓blockQ_ret, ↓aops, ↓aopsD, ↓imp_tt, ↓imp_ff, ↓imp_tf, ↓imp_ft, ↓imp_tnt, ↓imp_tnf, ↓imp_fnt, ↓imp_fnf, look, setL, resQ, argSlots, buildSt, buildArr, intsOf, eqB, keepSl, bindM, bindP, opR, okIf, ok, bad, ev, ofConst, putS, updS, S.upd, dstOk, yieldD, yieldY, strBin, isShift, cellD, retQ, resD, stripO, convR, conv2R, makeR, indexR, indexAddrR, fieldAddrR, loadR, storeR, allocR, boxR, pickR, buildR, buildSliceR, lenR, nilCheckR, extractR, funcR, ipSlice, sliceR, appendR, callR, minR, maxR, S.box, S.tok, TK.sh, known, tsize, destI, ownTok, srcI, isIn, isSl, isSt, appendI, appendL, bnd, aggBin, nilD, isPtr, fieldOf, sized, enumS, seeR, seeL, hasB, flat, flats, List.foldl_nil, List.foldl_cons, Option.getD_some, Option.getD_none, if_true, if_false, reduceIte, reduceCtorEq, Nat.reduceEqDiff, Nat.reduceAdd, Nat.reduceMul, Nat.reduceLT, Nat.reduceSub, Nat.reduceLeDiff, true_and, and_true, List.map_cons, List.map_nil, List.size_toArray, List.length_cons, List.length_nil, Option.map_some, Option.map_none, Option.bind_some, true_implies, Bool.false_eq_true, Bool.true_eq_false, false_implies, Bool.not_true, Bool.not_false, List.getElem?_cons_zero, List.getElem?_cons_succ, implies_true, and_self, Bool.and_true, Bool.true_and, BEq.rfl, and_assoc, Option.isSome_some, Option.isSome_none, List.take_succ_cons, List.take_zero, List.set_cons_zero, List.set_cons_succ, List.forall_mem_cons, List.not_mem_nil, forall_const, List.range, List.range.loop, ne_eq, not_false_eq_true, not_true_eq_false, List.cons.injEq, Prod.mk.injEq, List.append_nil, List.nil_append, List.cons_append, false_and, and_false, Bool.false_and, Bool.and_false, Nat.reduceBNe, Nat.reduceBEq, beq_self_eq_true, bne_self_eq_false, Nat.reduceBeqDiff, Bool.or_false, Bool.false_or, Bool.or_true, Bool.true_or, vs0, vs1, vs2, vs3, vs4, tys, gl0, Tryd.ntmps6, Tryd.results6, boxF, reach, getAll, posN, addN, D.ids, D.idsL, D.tks, D.tksL, ownTk, backN, enumS, zipS, BF.toR, D.ren, D.rens, renO, nodupB, List.contains_cons, List.contains_nil, Bool.or_false, Bool.or_true, Bool.false_or, Bool.true_or, List.getElem?_nil, List.append_assoc, List.cons_append, List.elem_cons, List.elem_nil, ↓aopsX, okX_nil, okX_u, okX_t, stateAt, S.drop, dropK, wildIds, finalS, List.filter_cons, List.filter_nil, List.flatMap_cons, List.flatMap_nil, List.contains_cons, List.contains_nil, List.elem_cons, List.elem_nil, Bool.or_false, Bool.or_true, Bool.false_or, Bool.true_or, PF.toR, gives, givesIf, strips_arrs, hs_arrs, arrs_length, ← ef, hF, hh, spec_cut, sp_cut, c_cut, b_cut, spec_fold, sp_fold, c_fold, b_fold]
    refine ⟨hi1, .inr trivial, hif, okUps_of (by kernel_rfl) rfl, okUps_of (by kernel_rfl) rfl, ?_⟩
    refine drawX [5, 7, 8, 9, 10, 11, 12] [(13, [0, 1, 2, 3, 4, 5, 6, 7, 8, 9, 10, 11, 12]), (14, [12])] [(14, [200])] (by kernel_rfl) (wild_of rfl) ?_
    simp (config := {dsimp := false}) only [↓a_range, ↓roundQ_normal, ↓roundQ_ret, ↓roundQ_exit, ↓a_skip, ↓a_exit, ↓a_ret, ↓a_seq, ↓a_cond, ↓a_block, ↓a_loop, ↓a_region, ↓a_draw, ↓a_region', ↓a_draw', ↓then_key, ↓with_key, ↓withY_key, ↓cond_key, ↓one_key, ↓thenQ_normal, ↓thenQ_exit, ↓thenQ_ret, ↓blockQ_normal, ↓blockQ_exit, ↓blockQ_ret, ↓aops, ↓aopsD, ↓imp_tt, ↓imp_ff, ↓imp_tf, ↓imp_ft, ↓imp_tnt, ↓imp_tnf, ↓imp_fnt, ↓imp_fnf, look, setL, resQ, argSlots, buildSt, buildArr, intsOf, eqB, keepSl, bindM, bindP, opR, okIf, ok, bad, ev, ofConst, putS, updS, S.upd, dstOk, yieldD, yieldY, strBin, isShift, cellD, retQ, resD, stripO, convR, conv2R, makeR, indexR, indexAddrR, fieldAddrR, loadR, storeR, allocR, boxR, pickR, buildR, buildSliceR, lenR, nilCheckR, extractR, funcR, ipSlice, sliceR, appendR, callR, minR, maxR, S.box, S.tok, TK.sh, known, tsize, destI, ownTok, srcI, isIn, isSl, isSt, appendI, appendL, bnd, aggBin, nilD, isPtr, fieldOf, sized, enumS, seeR, seeL, hasB, flat, flats, List.foldl_nil, List.foldl_cons, Option.getD_some, Option.getD_none, if_true, if_false, reduceIte, reduceCtorEq, Nat.reduceEqDiff, Nat.reduceAdd, Nat.reduceMul, Nat.reduceLT, Nat.reduceSub, Nat.reduceLeDiff, true_and, and_true, List.map_cons, List.map_nil, List.size_toArray, List.length_cons, List.length_nil, Option.map_some, Option.map_none, Option.bind_some, true_implies, Bool.false_eq_true, Bool.true_eq_false, false_implies, Bool.not_true, Bool.not_false, List.getElem?_cons_zero, List.getElem?_cons_succ, implies_true, and_self, Bool.and_true, Bool.true_and, BEq.rfl, and_assoc, Option.isSome_some, Option.isSome_none, List.take_succ_cons, List.take_zero, List.set_cons_zero, List.set_cons_succ, List.forall_mem_cons, List.not_mem_nil, forall_const, List.range, List.range.loop, ne_eq, not_false_eq_true, not_true_eq_false, List.cons.injEq, Prod.mk.injEq, List.append_nil, List.nil_append, List.cons_append, false_and, and_false, Bool.false_and, Bool.and_false, Nat.reduceBNe, Nat.reduceBEq, beq_self_eq_true, bne_self_eq_false, Nat.reduceBeqDiff, Bool.or_false, Bool.false_or, Bool.or_true, Bool.true_or, vs0, vs1, vs2, vs3, vs4, tys, gl0, Tryd.ntmps6, Tryd.results6, boxF, reach, getAll, posN, addN, D.ids, D.idsL, D.tks, D.tksL, ownTk, backN, enumS, zipS, BF.toR, D.ren, D.rens, renO, nodupB, List.contains_cons, List.contains_nil, Bool.or_false, Bool.or_true, Bool.false_or, Bool.true_or, List.getElem?_nil, List.append_assoc, List.cons_append, List.elem_cons, List.elem_nil, ↓aopsX, okX_nil, okX_u, okX_t, stateAt, S.drop, dropK, wildIds, finalS, List.filter_cons, List.filter_nil, List.flatMap_cons, List.flatMap_nil, List.contains_cons, List.contains_nil, List.elem_cons, List.elem_nil, Bool.or_false, Bool.or_true, Bool.false_or, Bool.true_or, PF.toR, gives, givesIf, strips_arrs, hs_arrs, arrs_length, ← ef, hF, hh, decide_true, spec_cut, sp_cut, c_cut, b_cut, spec_refFold, sp_refFold, c_refFold, b_refFold, spec_hashes, sp_hashes, c_hashes, b_hashes, spec_works, sp_works, c_works, b_works]
    exact ⟨hi1, .inr trivial, hif, by omega, bh, hfb, okUps_of (by kernel_rfl) rfl, okUps_of (by kernel_rfl) rfl, .inr trivial, .inr trivial, ⟨_, rfl, hG⟩, ⟨_, rfl, hG⟩, hGl⟩
end Go.Vi.C8
end

section
/-
  A HASH's BRANCH IS ITS PROOF.
-/
set_option linter.unusedVariables false
namespace Go.Vi

theorem branchTo_front (l : L2) (i : Nat) : ∀ k, branchTo l i (k + 1) = brOf l i ++ branchTo (aboveP l) (i / 2) k
  | 0 => by simp [branchTo, rowAt, iAt]
  | k + 1 => by
    have hi : ∀ k, iAt i (k + 1) = iAt (i / 2) k := by
      intro k
      induction k with
      | zero => rfl
      | succ k ih => simp only [iAt] at ih ⊢; rw [ih]
    rw [branchTo, branchTo_front l i k, rowAt_succ, hi, List.append_assoc]
    rfl
def branchP (l : L2) (i : Nat) : L2 := branchTo l i (dep l.length)
theorem branchP_gt {l : L2} {i : Nat} (h : 1 < l.length) : branchP l i = brOf l i ++ branchP (aboveP l) (i / 2) := by
  unfold branchP
  rw [dep_gt h, Nat.add_comm, branchTo_front, above_len]
theorem branchP_one {l : L2} {i : Nat} (h : l.length ≤ 1) : branchP l i = [] := by
  unfold branchP
  rw [dep_le h]
  rfl
theorem nd_one {i n : Nat} (h : n ≤ 1) : needsN i n = 0 := by rw [needsN]; simp [h]
theorem nd_gt {i n : Nat} (h : ¬ n ≤ 1) : needsN i n = (if aloneN i n = true then 0 else 1) + needsN (i / 2) ((n + 1) / 2) := by rw [needsN]; simp [h]
theorem fd_one {i n : Nat} {x : List Int} {b : L2} (h : n ≤ 1) : foldN x i n b = x := by rw [foldN]; simp [h]
theorem fd_gt {i n : Nat} {x : List Int} {b : L2} (h : ¬ n ≤ 1) : foldN x i n b = foldN (sumP (sumP (stepT x i n b))) (i / 2) ((n + 1) / 2) (stepR i n b) := by
  rw [foldN]
  simp only [h, dif_neg, not_false_eq_true]
  unfold stepT stepR
  by_cases ha : aloneN i n = true
  · simp only [ha, if_true]; rfl
  · simp only [ha, if_false, Bool.false_eq_true]
    split <;> rfl
theorem fo_one {i n : Nat} {x : List Int} {b : L2} (h : n ≤ 1) : foldedN x i n b = [] := by rw [foldedN]; simp [h]
theorem fo_gt {i n : Nat} {x : List Int} {b : L2} (h : ¬ n ≤ 1) : foldedN x i n b = stepT x i n b :: foldedN (sumP (sumP (stepT x i n b))) (i / 2) ((n + 1) / 2) (stepR i n b) := by rw [foldedN]; simp [h]

theorem alone_iff {i n : Nat} : aloneN i n = true ↔ i % 2 = 0 ∧ i + 1 = n := by
  unfold aloneN
  rw [Bool.and_eq_true, decide_eq_true_eq, decide_eq_true_eq]
/-- The row's own text at a hash's place. -/
theorem step_true {l : L2} {i : Nat} (hi : i < l.length) (rest : L2) : stepT (l.getD i []) i l.length (brOf l i ++ rest) = textOf (pairAt l (i / 2)) ∧ stepR i l.length (brOf l i ++ rest) = rest := by
  by_cases ha : aloneN i l.length = true
  · obtain ⟨h1, h2⟩ := alone_iff.1 ha
    unfold stepT stepR brOf
    simp only [ha, if_true, List.nil_append, and_true]
    unfold textOf pairAt
    simp only
    rw [if_neg (by omega), show 2 * (i / 2) = i by omega]
  · have hb : brOf l i = [partnerP l i] := if_neg ha
    rw [hb]
    unfold stepT stepR
    simp only [ha, if_false, Bool.false_eq_true, List.cons_append, List.nil_append, List.getD_cons_zero, List.drop_succ_cons, List.drop_zero, and_true]
    have hn : ¬ (i % 2 = 0 ∧ i + 1 = l.length) := fun e => ha (alone_iff.2 e)
    unfold textOf pairAt partnerP
    simp only
    rcases Nat.mod_two_eq_zero_or_one i with h | h
    · rw [if_pos h, if_neg (show ¬ i % 2 = 1 by omega), if_neg (by omega), if_pos (by omega), show 2 * (i / 2) = i by omega]
    · rw [if_neg (show ¬ i % 2 = 0 by omega), if_pos h, if_neg (by omega), if_pos (by omega), show 2 * (i / 2) = i - 1 by omega, show i - 1 + 1 = i by omega]
theorem above_at {l : L2} {i : Nat} (hi : i < l.length) : (aboveP l).getD (i / 2) [] = sumP (sumP (textOf (pairAt l (i / 2)))) := by
  have : i / 2 < (l.length + 1) / 2 := by omega
  simp only [aboveP, pairsOf, List.map_map]
  simp [List.getD, this]
  rfl
theorem root_one {l : L2} {i : Nat} (h : l.length ≤ 1) (hi : i < l.length) : rootP l = l.getD i [] := by
  obtain rfl : i = 0 := by omega
  have hne : l ≠ [] := by intro e; subst e; simp at hi
  rw [rootP, if_neg hne, dep_le h]
  rfl
/-- A hash's branch folds to the root, and is as long as is needed. -/
theorem fold_branch : ∀ (n : Nat) (l : L2) (i : Nat), l.length = n → i < n → foldN (l.getD i []) i n (branchP l i) = rootP l ∧ (branchP l i).length = needsN i n := by
  intro n
  induction n using Nat.strongRecOn with
  | _ n ih =>
    intro l i hl hi
    subst hl
    rcases Nat.lt_or_ge 1 l.length with hn | hn
    · obtain ⟨e1, e2⟩ := ih ((l.length + 1) / 2) (by omega) (aboveP l) (i / 2) (above_len l) (by omega)
      obtain ⟨s1, s2⟩ := step_true hi (branchP (aboveP l) (i / 2))
      rw [branchP_gt hn]
      constructor
      · rw [fd_gt (by omega), s1, s2, ← above_at hi, e1, ← rootP_above hn]
      · rw [List.length_append, e2, nd_gt (i := i) (n := l.length) (by omega)]
        unfold brOf
        split <;> simp
    · rw [branchP_one hn, fd_one hn, nd_one hn]
      exact ⟨(root_one hn hi).symm, rfl⟩
theorem app_inj {a b c d : List Int} (h : a ++ b = c ++ d) (hl : a.length = c.length) : a = c ∧ b = d := List.append_inj h hl
/-- **Another hash, or another branch, that folds to the root: a clash.** -/
theorem proves : ∀ (n : Nat) (l : L2) (i : Nat) (h : List Int) (b : L2), l.length = n → i < n → h32 l → h.length = 32 → h32 b → b.length = needsN i n → foldN h i n b = rootP l → (h ≠ l.getD i [] ∨ b ≠ branchP l i) →
    ∃ p ∈ allP l, ∃ u ∈ foldedN h i n b, textOf p ≠ u ∧ sumP (sumP (textOf p)) = sumP (sumP u) := by
  intro n
  induction n using Nat.strongRecOn with
  | _ n ih =>
    intro l i h b hl hi h1 h2 h3 hb hf hd
    subst hl
    rcases Nat.lt_or_ge 1 l.length with hn | hn
    · have hn' : ¬ l.length ≤ 1 := by omega
      have mp : pairAt l (i / 2) ∈ allP l := by
        rw [allP_above hn]
        exact List.mem_append_left _ (List.mem_map_of_mem (by simp; omega))
      rw [fd_gt hn'] at hf
      rw [fo_gt hn']
      by_cases hs : sumP (sumP (stepT h i l.length b)) = sumP (sumP (textOf (pairAt l (i / 2))))
      · by_cases ht : textOf (pairAt l (i / 2)) = stepT h i l.length b
        · -- the same text: the difference lies above
          have hsub : h = l.getD i [] ∧ ∃ r, b = brOf l i ++ r ∧ stepR i l.length b = r := by
            have tr := (step_true hi []).1
            rw [List.append_nil] at tr
            rw [← tr] at ht
            have hli := h1 _ (getD_mem hi)
            by_cases ha : aloneN i l.length = true
            · have hbr : brOf l i = [] := if_pos ha
              unfold stepT at ht
              simp only [ha, if_true] at ht
              refine ⟨(app_inj ht (by rw [hli, h2])).1.symm, b, by rw [hbr, List.nil_append], ?_⟩
              unfold stepR
              rw [if_pos ha]
            · have hbr : brOf l i = [partnerP l i] := if_neg ha
              rw [nd_gt hn', if_neg ha] at hb
              obtain ⟨y, r, rfl⟩ : ∃ y r, b = y :: r := by
                cases b with
                | nil => simp at hb; omega
                | cons y r => exact ⟨y, r, rfl⟩
              have hy := h3 y (List.mem_cons_self ..)
              have hpl : (partnerP l i).length = 32 := by
                unfold partnerP
                exact h1 _ (getD_mem (by split <;> (try split) <;> omega))
              rw [hbr] at ht
              unfold stepT at ht
              simp only [ha, if_false, Bool.false_eq_true, List.getD_cons_zero] at ht
              have hr : stepR i l.length (y :: r) = r := by unfold stepR; rw [if_neg ha]; rfl
              rcases Nat.mod_two_eq_zero_or_one i with e | e
              · simp only [e, if_true] at ht
                obtain ⟨q1, q2⟩ := app_inj ht (by rw [hli, h2])
                exact ⟨q1.symm, r, by rw [hbr, q2]; rfl, hr⟩
              · simp only [e, show ¬ (1 : Nat) = 0 by omega, if_false] at ht
                obtain ⟨q1, q2⟩ := app_inj ht (by rw [hpl, hy])
                exact ⟨q2.symm, r, by rw [hbr, q1]; rfl, hr⟩
          obtain ⟨e1, r, e2, e3⟩ := hsub
          have hr32 : h32 r := fun x hx => h3 x (by rw [e2]; exact List.mem_append_right _ hx)
          have hrl : r.length = needsN (i / 2) ((l.length + 1) / 2) := by
            rw [e2, List.length_append, nd_gt hn'] at hb
            have : (brOf l i).length = if aloneN i l.length = true then 0 else 1 := by unfold brOf; split <;> rfl
            omega
          rw [e3] at hf ⊢
          have hh := above_at hi
          rw [rootP_above hn] at hf
          obtain ⟨p, hp, u, hu, q⟩ := ih ((l.length + 1) / 2) (by omega) (aboveP l) (i / 2) _ r (above_len l) (by omega) (row_h32 h1 1) (sum_len _) hr32 hrl hf (.inr fun e => by
            rcases hd with hd | hd
            · exact hd e1
            · exact hd (by rw [e2, e, branchP_gt hn]))
          exact ⟨p, by rw [allP_above hn]; exact List.mem_append_right _ hp, u, List.mem_cons_of_mem _ hu, q⟩
        · exact ⟨_, mp, _, List.mem_cons_self .., ht, hs.symm⟩
      · -- another hash above
        rw [rootP_above hn] at hf
        have hrl : (stepR i l.length b).length = needsN (i / 2) ((l.length + 1) / 2) ∧ h32 (stepR i l.length b) := by
          rw [nd_gt hn'] at hb
          unfold stepR
          split
          · rename_i ha
            rw [if_pos ha] at hb
            exact ⟨by omega, h3⟩
          · rename_i ha
            rw [if_neg ha] at hb
            exact ⟨by rw [List.length_drop]; omega, fun x hx => h3 x (List.mem_of_mem_drop hx)⟩
        obtain ⟨p, hp, u, hu, q⟩ := ih ((l.length + 1) / 2) (by omega) (aboveP l) (i / 2) _ _ (above_len l) (by omega) (row_h32 h1 1) (sum_len _) hrl.2 hrl.1 hf (.inl (by rw [above_at hi]; exact hs))
        exact ⟨p, by rw [allP_above hn]; exact List.mem_append_right _ hp, u, List.mem_cons_of_mem _ hu, q⟩
    · exfalso
      rw [fd_one hn, root_one hn hi] at hf
      rw [nd_one hn] at hb
      rcases hd with hd | hd
      · exact hd hf
      · rw [branchP_one hn] at hd
        exact hd (List.eq_nil_of_length_eq_zero hb)
theorem folded_ok : ∀ (n i : Nat) (h : List Int) (b : L2), h.length = 32 → bytes h → h32 b → (∀ x ∈ b, bytes x) → b.length = needsN i n → ∀ u ∈ foldedN h i n b, u.length < 1000000 ∧ bytes u := by
  intro n
  induction n using Nat.strongRecOn with
  | _ n ih =>
    intro i h b h1 h2 h3 h4 hb u hu
    by_cases hn : n ≤ 1
    · rw [fo_one hn] at hu
      exact absurd hu List.not_mem_nil
    · rw [fo_gt hn] at hu
      rw [nd_gt hn] at hb
      have hst : (stepT h i n b).length = 64 ∧ bytes (stepT h i n b) := by
        unfold stepT
        split
        · exact ⟨by simp [h1], bytes_append h2 h2⟩
        · rename_i ha
          rw [if_neg ha] at hb
          have hm := getD_mem (l := b) (i := 0) (by omega)
          split
          · exact ⟨by rw [List.length_append, h1, h3 _ hm], bytes_append h2 (h4 _ hm)⟩
          · exact ⟨by rw [List.length_append, h1, h3 _ hm], bytes_append (h4 _ hm) h2⟩
      rcases List.mem_cons.1 hu with rfl | hu
      · exact ⟨by omega, hst.2⟩
      · refine ih ((n + 1) / 2) (by omega) (i / 2) _ _ (sum_len _) (bytes_sum _) ?_ ?_ ?_ u hu
        · unfold stepR
          split
          · exact h3
          · exact fun x hx => h3 x (List.mem_of_mem_drop hx)
        · unfold stepR
          split
          · exact h4
          · exact fun x hx => h4 x (List.mem_of_mem_drop hx)
        · unfold stepR
          split
          · rename_i ha; rw [if_pos ha] at hb; omega
          · rename_i ha; rw [if_neg ha] at hb; rw [List.length_drop]; omega
theorem folded_len : ∀ (n i : Nat) (h : List Int) (b : L2), (foldedN h i n b).length ≤ n := by
  intro n
  induction n using Nat.strongRecOn with
  | _ n ih =>
    intro i h b
    by_cases hn : n ≤ 1
    · rw [fo_one hn]; exact Nat.zero_le _
    · rw [fo_gt hn, List.length_cons]
      have := ih ((n + 1) / 2) (by omega) (i / 2) (sumP (sumP (stepT h i n b))) (stepR i n b)
      omega
end Go.Vi
end

section
/-
  THE CHAPTER's EXAMPLES.
-/
set_option linter.unusedVariables false
namespace Go.Vi
theorem pairs_three (a b c : List Int) : pairsOf [a, b, c] = [(a, b, false), (c, c, true)] := by simp [pairsOf, pairAt, List.range_succ]
theorem pairs_four (a b c d : List Int) : pairsOf [a, b, c, d] = [(a, b, false), (c, d, false)] := by simp [pairsOf, pairAt, List.range_succ]
theorem dep_three : dep 3 = 2 := by rw [dep_gt (by omega), show (3 + 1) / 2 = 2 from rfl, dep_two]
theorem dep_four : dep 4 = 2 := by rw [dep_gt (by omega), show (4 + 1) / 2 = 2 from rfl, dep_two]
theorem above_three (a b c : List Int) : aboveP [a, b, c] = [H2 a b, H2 c c] := by simp [aboveP, pairs_three, joinP]
theorem above_four (a b c d : List Int) : aboveP [a, b, c, d] = [H2 a b, H2 c d] := by simp [aboveP, pairs_four, joinP]
theorem root_1 (a : List Int) : rootP [a] = a := by rw [rootP, if_neg (by simp), show ([a] : L2).length = 1 from rfl, dep_le (by omega)]; rfl
theorem all_1 (a : List Int) : allP [a] = [] := by rw [allP, show ([a] : L2).length = 1 from rfl, dep_le (by omega)]; rfl
theorem root_3 (a b c : List Int) : rootP [a, b, c] = H2 (H2 a b) (H2 c c) := by rw [rootP_above (by simp), above_three, root_two]
theorem root_4 (a b c d : List Int) : rootP [a, b, c, d] = H2 (H2 a b) (H2 c d) := by rw [rootP_above (by simp), above_four, root_two]
theorem mut_3' {a b c x y : List Int} (h : aboveP [a, b, c] = [x, y]) : mutP (allP [a, b, c]) = (decide (a = b) || decide (x = y)) := by
  rw [mutP_above (by simp), h, pairs_three, all_two]
  simp [mutP, mutS]
theorem mut_3 (a b c : List Int) : mutP (allP [a, b, c]) = (decide (a = b) || decide (H2 a b = H2 c c)) := mut_3' (above_three a b c)
theorem mut_4' {a b c d x y : List Int} (h : aboveP [a, b, c, d] = [x, y]) : mutP (allP [a, b, c, d]) = (decide (a = b) || decide (c = d) || decide (x = y)) := by
  rw [mutP_above (by simp), h, pairs_four, all_two]
  simp [mutP, mutS]
theorem mut_4 (a b c d : List Int) : mutP (allP [a, b, c, d]) = (decide (a = b) || decide (c = d) || decide (H2 a b = H2 c d)) := mut_4' (above_four a b c d)
theorem br_3_2 (a b c : List Int) : branchP [a, b, c] 2 = [H2 a b] := by
  rw [branchP_gt (by simp), above_three, branchP_gt (by simp), branchP_one (by rw [above_len]; simp)]
  simp [brOf, aloneN, partnerP]
theorem br_3_0 (a b c : List Int) : branchP [a, b, c] 0 = [b, H2 c c] := by
  rw [branchP_gt (by simp), above_three, branchP_gt (by simp), branchP_one (by rw [above_len]; simp)]
  simp [brOf, aloneN, partnerP]
theorem br_1_0 (a : List Int) : branchP [a] 0 = [] := branchP_one (by simp)
theorem branchV_in {l : L2} {i : Nat} (h : i < l.length) : branchV l (i : Int) = .tup [.sl .no 32 (arrs (branchP l i)), .bool true] := if_neg (by omega)
theorem branchV_out {l : L2} {i : Int} (h : i ≥ l.length) : branchV l i = .tup [.sl .full 0 [], .bool false] := if_pos (.inr h)
theorem fold_own {l : L2} {i : Nat} (h : i < l.length) (hl : l.length ≤ 1048576) : foldV (l.getD i []) (i : Int) (l.length : Int) (branchP l i) = .tup [.arr .u8 32 (rootP l), .bool true] := by
  obtain ⟨h1, h2⟩ := fold_branch l.length l i rfl h
  unfold foldV
  rw [if_neg (by rw [show ((i : Nat) : Int).toNat = i from rfl, show ((l.length : Nat) : Int).toNat = l.length from rfl]; omega), show ((i : Nat) : Int).toNat = i from rfl, show ((l.length : Nat) : Int).toNat = l.length from rfl, h1]
theorem fold_out (x : List Int) {i n : Int} (b : L2) (h : i ≥ n ∨ n > 1048576) : foldV x i n b = .tup [.arr .u8 32 (List.replicate 32 0), .bool false] := if_pos (by omega)
def three32 : List Int := [3, 0, 0, 0, 0, 0, 0, 0, 0, 0, 0, 0, 0, 0, 0, 0, 0, 0, 0, 0, 0, 0, 0, 0, 0, 0, 0, 0, 0, 0, 0, 0]
end Go.Vi
end

section
/-
  THE EXAMPLES, as what the code is met with.
-/
set_option linter.unusedVariables false
namespace Go.Vi
set_option maxRecDepth 100000 in
theorem known_ne : decide (H2 one32 two32 = H2 three32 three32) = false := by kernel_rfl
theorem known_ne' : ¬ H2 one32 two32 = H2 three32 three32 := of_decide_eq_false known_ne
theorem known_12 : ¬ one32 = two32 := by decide
abbrev z32 : List Int := List.replicate 32 0
theorem known_ex {a b c : List Int} (h1 : ¬ a = b) (h2 : ¬ H2 a b = H2 c c) : ∃ P Q W, H2 a b = P ∧ H2 c c = Q ∧ H2 P Q = W ∧ P.length = 32 ∧ Q.length = 32 ∧ W.length = 32 ∧
    (rootP (hs [.arr .u8 32 a]) = a ∧ mutP (allP (hs [.arr .u8 32 a])) = false) ∧
    (rootP (hs [.arr .u8 32 a, .arr .u8 32 b]) = P ∧ mutP (allP (hs [.arr .u8 32 a, .arr .u8 32 b])) = false) ∧
    (rootP (hs [.arr .u8 32 a, .arr .u8 32 b, .arr .u8 32 c]) = W ∧ mutP (allP (hs [.arr .u8 32 a, .arr .u8 32 b, .arr .u8 32 c])) = false) ∧
    (rootP (hs [.arr .u8 32 a, .arr .u8 32 b, .arr .u8 32 c, .arr .u8 32 c]) = W ∧ mutP (allP (hs [.arr .u8 32 a, .arr .u8 32 b, .arr .u8 32 c, .arr .u8 32 c])) = true) ∧
    (branchV (hs [.arr .u8 32 a, .arr .u8 32 b, .arr .u8 32 c]) 2 = .tup [.sl .no 32 [.arr .u8 32 P], .bool true] ∧ branchV (hs [.arr .u8 32 a, .arr .u8 32 b, .arr .u8 32 c]) 0 = .tup [.sl .no 32 [.arr .u8 32 b, .arr .u8 32 Q], .bool true]) ∧
    (branchV (hs [.arr .u8 32 a]) 0 = .tup [.sl .no 32 [], .bool true] ∧ branchV (hs [.arr .u8 32 a]) 1 = .tup [.sl .full 0 [], .bool false]) ∧
    (foldV c 2 3 (hs [.arr .u8 32 P]) = .tup [.arr .u8 32 W, .bool true] ∧ foldV a 0 1 (hs []) = .tup [.arr .u8 32 a, .bool true] ∧ foldV a 1 1 (hs []) = .tup [.arr .u8 32 z32, .bool false]) := by
  refine ⟨_, _, _, rfl, rfl, rfl, H2_len _ _, H2_len _ _, H2_len _ _, ⟨root_1 a, ?_⟩, ⟨root_two a b, ?_⟩, ⟨root_3 a b c, ?_⟩, ⟨root_4 a b c c, ?_⟩, ⟨?_, ?_⟩, ⟨?_, ?_⟩, ?_, ?_, ?_⟩
  · change mutP (allP [a]) = false
    rw [all_1]; rfl
  · change mutP (allP [a, b]) = false
    rw [all_two]
    simp [mutP, mutS, h1]
  · change mutP (allP [a, b, c]) = false
    rw [mut_3, decide_eq_false h1, decide_eq_false h2]; rfl
  · change mutP (allP [a, b, c, c]) = true
    rw [mut_4, decide_eq_true (rfl : c = c)]; simp
  · change branchV [a, b, c] ((2 : Nat) : Int) = _
    rw [branchV_in (by simp), br_3_2]; rfl
  · change branchV [a, b, c] ((0 : Nat) : Int) = _
    rw [branchV_in (by simp), br_3_0]; rfl
  · change branchV [a] ((0 : Nat) : Int) = _
    rw [branchV_in (by simp), br_1_0]; rfl
  · change branchV [a] 1 = _
    rw [branchV_out (by simp)]
  · have := fold_own (l := [a, b, c]) (i := 2) (by simp) (by simp)
    rw [br_3_2, root_3] at this
    exact this
  · have := fold_own (l := [a]) (i := 0) (by simp) (by simp)
    rw [br_1_0, root_1] at this
    exact this
  · exact fold_out a [] (.inl (by simp))
theorem strips_rep (n : Nat) (xs : List Int) : D.strips false (List.replicate n (.arr .u8 32 xs)) = arrs (List.replicate n xs) := by
  rw [show List.replicate n (D.arr .u8 32 xs) = arrs (List.replicate n xs) by simp [arrs], strips_arrs]
end Go.Vi
end

section
set_option linter.unusedVariables false
set_option linter.unusedSimpArgs false
set_option maxHeartbeats 0
set_option maxRecDepth 20000
namespace Go.Vi.C8
open Go.Proofs

theorem c_commitment : Contract E 27 := by
  refine contract_see hE hgl (show E.P.funcs[27]? = some Tryd.f27 from Tryd.func27) rfl (p := sp_commitment) (fun _ _ _ => rfl) ?_
  intro args hv
  unfold sp_commitment at hv ⊢
  split at hv
  case h_2 => exact hv.elim
  rename_i hd
  refine ⟨by simp, Nat.le_of_ble_eq_true rfl, ?_⟩
  simp only [givesIf] at hv
  obtain ⟨h1, h2⟩ := hv
  simp (config := {dsimp := false}) only [↓a_range, ↓roundQ_normal, ↓roundQ_ret, ↓roundQ_exit, ↓a_skip, ↓a_exit, ↓a_ret, ↓a_seq, ↓a_cond, ↓a_block, ↓a_loop, ↓a_region, ↓a_draw, ↓a_region', ↓a_draw', ↓then_key, ↓with_key, ↓withY_key, ↓cond_key, ↓one_key, ↓thenQ_normal, ↓thenQ_exit, ↓thenQ_ret, ↓blockQ_normal, ↓blockQ_exit, ↓blockQ_ret, ↓aops, ↓aopsD, ↓imp_tt, ↓imp_ff, ↓imp_tf, ↓imp_ft, ↓imp_tnt, ↓imp_tnf, ↓imp_fnt, ↓imp_fnf, look, setL, resQ, argSlots, buildSt, buildArr, intsOf, eqB, keepSl, bindM, bindP, opR, okIf, ok, bad, ev, ofConst, putS, updS, S.upd, dstOk, yieldD, yieldY, strBin, isShift, cellD, retQ, resD, stripO, convR, conv2R, makeR, indexR, indexAddrR, fieldAddrR, loadR, storeR, allocR, boxR, pickR, buildR, buildSliceR, lenR, nilCheckR, extractR, funcR, ipSlice, sliceR, appendR, callR, minR, maxR, S.box, S.tok, TK.sh, known, tsize, destI, ownTok, srcI, isIn, isSl, isSt, appendI, appendL, bnd, aggBin, nilD, isPtr, fieldOf, sized, enumS, seeR, seeL, hasB, flat, flats, List.foldl_nil, List.foldl_cons, Option.getD_some, Option.getD_none, if_true, if_false, reduceIte, reduceCtorEq, Nat.reduceEqDiff, Nat.reduceAdd, Nat.reduceMul, Nat.reduceLT, Nat.reduceSub, Nat.reduceLeDiff, true_and, and_true, List.map_cons, List.map_nil, List.size_toArray, List.length_cons, List.length_nil, Option.map_some, Option.map_none, Option.bind_some, true_implies, Bool.false_eq_true, Bool.true_eq_false, false_implies, Bool.not_true, Bool.not_false, List.getElem?_cons_zero, List.getElem?_cons_succ, implies_true, and_self, Bool.and_true, Bool.true_and, BEq.rfl, and_assoc, Option.isSome_some, Option.isSome_none, List.take_succ_cons, List.take_zero, List.set_cons_zero, List.set_cons_succ, List.forall_mem_cons, List.not_mem_nil, forall_const, List.range, List.range.loop, ne_eq, not_false_eq_true, not_true_eq_false, List.cons.injEq, Prod.mk.injEq, List.append_nil, List.nil_append, List.cons_append, false_and, and_false, Bool.false_and, Bool.and_false, Nat.reduceBNe, Nat.reduceBEq, beq_self_eq_true, bne_self_eq_false, Nat.reduceBeqDiff, Bool.or_false, Bool.false_or, Bool.or_true, Bool.true_or, vs0, vs1, vs2, vs3, vs4, tys, gl0, Tryd.ntmps27, Tryd.results27, h1, h2, PF.toR, gives, givesIf]
  trivial
theorem c_wanted : Contract E 29 := by
  refine contract_see hE hgl (show E.P.funcs[29]? = some Tryd.f29 from Tryd.func29) rfl (p := sp_wanted) (fun _ _ _ => rfl) ?_
  intro args hv
  unfold sp_wanted at hv ⊢
  split at hv
  case h_2 => exact hv.elim
  rename_i hd
  refine ⟨by simp, Nat.le_of_ble_eq_true rfl, ?_⟩
  simp only [givesIf] at hv
  obtain ⟨h1, h2⟩ := hv
  simp (config := {dsimp := false}) only [↓a_range, ↓roundQ_normal, ↓roundQ_ret, ↓roundQ_exit, ↓a_skip, ↓a_exit, ↓a_ret, ↓a_seq, ↓a_cond, ↓a_block, ↓a_loop, ↓a_region, ↓a_draw, ↓a_region', ↓a_draw', ↓then_key, ↓with_key, ↓withY_key, ↓cond_key, ↓one_key, ↓thenQ_normal, ↓thenQ_exit, ↓thenQ_ret, ↓blockQ_normal, ↓blockQ_exit, ↓blockQ_ret, ↓aops, ↓aopsD, ↓imp_tt, ↓imp_ff, ↓imp_tf, ↓imp_ft, ↓imp_tnt, ↓imp_tnf, ↓imp_fnt, ↓imp_fnf, look, setL, resQ, argSlots, buildSt, buildArr, intsOf, eqB, keepSl, bindM, bindP, opR, okIf, ok, bad, ev, ofConst, putS, updS, S.upd, dstOk, yieldD, yieldY, strBin, isShift, cellD, retQ, resD, stripO, convR, conv2R, makeR, indexR, indexAddrR, fieldAddrR, loadR, storeR, allocR, boxR, pickR, buildR, buildSliceR, lenR, nilCheckR, extractR, funcR, ipSlice, sliceR, appendR, callR, minR, maxR, S.box, S.tok, TK.sh, known, tsize, destI, ownTok, srcI, isIn, isSl, isSt, appendI, appendL, bnd, aggBin, nilD, isPtr, fieldOf, sized, enumS, seeR, seeL, hasB, flat, flats, List.foldl_nil, List.foldl_cons, Option.getD_some, Option.getD_none, if_true, if_false, reduceIte, reduceCtorEq, Nat.reduceEqDiff, Nat.reduceAdd, Nat.reduceMul, Nat.reduceLT, Nat.reduceSub, Nat.reduceLeDiff, true_and, and_true, List.map_cons, List.map_nil, List.size_toArray, List.length_cons, List.length_nil, Option.map_some, Option.map_none, Option.bind_some, true_implies, Bool.false_eq_true, Bool.true_eq_false, false_implies, Bool.not_true, Bool.not_false, List.getElem?_cons_zero, List.getElem?_cons_succ, implies_true, and_self, Bool.and_true, Bool.true_and, BEq.rfl, and_assoc, Option.isSome_some, Option.isSome_none, List.take_succ_cons, List.take_zero, List.set_cons_zero, List.set_cons_succ, List.forall_mem_cons, List.not_mem_nil, forall_const, List.range, List.range.loop, ne_eq, not_false_eq_true, not_true_eq_false, List.cons.injEq, Prod.mk.injEq, List.append_nil, List.nil_append, List.cons_append, false_and, and_false, Bool.false_and, Bool.and_false, Nat.reduceBNe, Nat.reduceBEq, beq_self_eq_true, bne_self_eq_false, Nat.reduceBeqDiff, Bool.or_false, Bool.false_or, Bool.or_true, Bool.true_or, vs0, vs1, vs2, vs3, vs4, tys, gl0, Tryd.ntmps29, Tryd.results29, h1, h2, PF.toR, gives, givesIf]
  trivial
theorem c_lawMKnown : Contract E 9 := by
  refine contract_see hE hgl (show E.P.funcs[9]? = some Tryd.f9 from Tryd.func9) rfl (p := sp_lawMKnown) (fun _ _ _ => rfl) ?_
  intro args hv
  unfold sp_lawMKnown at hv ⊢
  split at hv
  case h_2 => exact hv.elim
  refine ⟨by simp, Nat.le_of_ble_eq_true rfl, ?_⟩
  obtain ⟨P, Q, W, hP, hQ, hW, lP, lQ, lW, ⟨r1, m1⟩, ⟨r2, m2⟩, ⟨r3, m3⟩, ⟨r4, m4⟩, ⟨b1, b2⟩, ⟨b3, b4⟩, f1, f2, f3⟩ := known_ex known_12 known_ne'
  have la : one32.length = 32 := rfl
  have lb : two32.length = 32 := rfl
  have lc : three32.length = 32 := rfl
  have o1 : (List.replicate 32 (0 : Int)).set 0 1 = one32 := rfl
  have o2 : (List.replicate 32 (0 : Int)).set 0 2 = two32 := rfl
  have o3 : (List.replicate 32 (0 : Int)).set 0 3 = three32 := rfl
  generalize one32 = a at *
  generalize two32 = b at *
  generalize three32 = c at *
  simp (config := {dsimp := false}) only [↓a_range, ↓roundQ_normal, ↓roundQ_ret, ↓roundQ_exit, ↓a_skip, ↓a_exit, ↓a_ret, ↓a_seq, ↓a_cond, ↓a_block, ↓a_loop, ↓a_region, ↓a_draw, ↓a_region', ↓a_draw', ↓then_key, ↓with_key, ↓withY_key, ↓cond_key, ↓one_key, ↓thenQ_normal, ↓thenQ_exit, ↓thenQ_ret, ↓blockQ_normal, ↓blockQ_exit, ↓blockQ_ret, ↓aops, ↓aopsD, ↓imp_tt, ↓imp_ff, ↓imp_tf, ↓imp_ft, ↓imp_tnt, ↓imp_tnf, ↓imp_fnt, ↓imp_fnf, look, setL, resQ, argSlots, buildSt, buildArr, intsOf, eqB, keepSl, bindM, bindP, opR, okIf, ok, bad, ev, ofConst, putS, updS, S.upd, dstOk, yieldD, yieldY, strBin, isShift, cellD, retQ, resD, stripO, convR, conv2R, makeR, indexR, indexAddrR, fieldAddrR, loadR, storeR, allocR, boxR, pickR, buildR, buildSliceR, lenR, nilCheckR, extractR, funcR, ipSlice, sliceR, appendR, callR, minR, maxR, S.box, S.tok, TK.sh, known, tsize, destI, ownTok, srcI, isIn, isSl, isSt, appendI, appendL, bnd, aggBin, nilD, isPtr, fieldOf, sized, enumS, seeR, seeL, hasB, flat, flats, List.foldl_nil, List.foldl_cons, Option.getD_some, Option.getD_none, if_true, if_false, reduceIte, reduceCtorEq, Nat.reduceEqDiff, Nat.reduceAdd, Nat.reduceMul, Nat.reduceLT, Nat.reduceSub, Nat.reduceLeDiff, true_and, and_true, List.map_cons, List.map_nil, List.size_toArray, List.length_cons, List.length_nil, Option.map_some, Option.map_none, Option.bind_some, true_implies, Bool.false_eq_true, Bool.true_eq_false, false_implies, Bool.not_true, Bool.not_false, List.getElem?_cons_zero, List.getElem?_cons_succ, implies_true, and_self, Bool.and_true, Bool.true_and, BEq.rfl, and_assoc, Option.isSome_some, Option.isSome_none, List.take_succ_cons, List.take_zero, List.set_cons_zero, List.set_cons_succ, List.forall_mem_cons, List.not_mem_nil, forall_const, List.range, List.range.loop, ne_eq, not_false_eq_true, not_true_eq_false, List.cons.injEq, Prod.mk.injEq, List.append_nil, List.nil_append, List.cons_append, false_and, and_false, Bool.false_and, Bool.and_false, Nat.reduceBNe, Nat.reduceBEq, beq_self_eq_true, bne_self_eq_false, Nat.reduceBeqDiff, Bool.or_false, Bool.false_or, Bool.or_true, Bool.true_or, vs0, vs1, vs2, vs3, vs4, tys, gl0, Tryd.ntmps9, Tryd.results9, boxF, reach, getAll, posN, addN, D.ids, D.idsL, D.tks, D.tksL, ownTk, backN, enumS, zipS, BF.toR, D.ren, D.rens, renO, nodupB, List.contains_cons, List.contains_nil, Bool.or_false, Bool.or_true, Bool.false_or, Bool.true_or, List.getElem?_nil, List.append_assoc, List.cons_append, List.elem_cons, List.elem_nil, PF.toR, gives, givesIf, bare_arr, o1, o2, o3, r1, m1, r2, m2, r3, m3, r4, m4, spec_root, sp_root, c_root, b_root]
  have hH : ∀ l : L2, h32 l → isH (arrs l) := fun l h => ⟨l, rfl, h⟩
  refine ⟨hH [a] (by intro x hx; simp at hx; subst hx; exact la), hH [a, b] (by intro x hx; simp at hx; rcases hx with rfl | rfl <;> assumption), hH [a, b, c] (by intro x hx; simp at hx; rcases hx with rfl | rfl | rfl <;> assumption), hH [a, b, c, c] (by intro x hx; simp at hx; rcases hx with rfl | rfl | rfl <;> assumption), ?_⟩
  refine drawX [1, 2, 3, 4, 5, 6, 7, 8, 9, 10, 11, 12, 13] [(7, [0, 1, 2, 3, 4, 5, 6])] [] (by kernel_rfl) (wild_of rfl) ?_
  simp (config := {dsimp := false}) only [↓a_range, ↓roundQ_normal, ↓roundQ_ret, ↓roundQ_exit, ↓a_skip, ↓a_exit, ↓a_ret, ↓a_seq, ↓a_cond, ↓a_block, ↓a_loop, ↓a_region, ↓a_draw, ↓a_region', ↓a_draw', ↓then_key, ↓with_key, ↓withY_key, ↓cond_key, ↓one_key, ↓thenQ_normal, ↓thenQ_exit, ↓thenQ_ret, ↓blockQ_normal, ↓blockQ_exit, ↓blockQ_ret, ↓aops, ↓aopsD, ↓imp_tt, ↓imp_ff, ↓imp_tf, ↓imp_ft, ↓imp_tnt, ↓imp_tnf, ↓imp_fnt, ↓imp_fnf, look, setL, resQ, argSlots, buildSt, buildArr, intsOf, eqB, keepSl, bindM, bindP, opR, okIf, ok, bad, ev, ofConst, putS, updS, S.upd, dstOk, yieldD, yieldY, strBin, isShift, cellD, retQ, resD, stripO, convR, conv2R, makeR, indexR, indexAddrR, fieldAddrR, loadR, storeR, allocR, boxR, pickR, buildR, buildSliceR, lenR, nilCheckR, extractR, funcR, ipSlice, sliceR, appendR, callR, minR, maxR, S.box, S.tok, TK.sh, known, tsize, destI, ownTok, srcI, isIn, isSl, isSt, appendI, appendL, bnd, aggBin, nilD, isPtr, fieldOf, sized, enumS, seeR, seeL, hasB, flat, flats, List.foldl_nil, List.foldl_cons, Option.getD_some, Option.getD_none, if_true, if_false, reduceIte, reduceCtorEq, Nat.reduceEqDiff, Nat.reduceAdd, Nat.reduceMul, Nat.reduceLT, Nat.reduceSub, Nat.reduceLeDiff, true_and, and_true, List.map_cons, List.map_nil, List.size_toArray, List.length_cons, List.length_nil, Option.map_some, Option.map_none, Option.bind_some, true_implies, Bool.false_eq_true, Bool.true_eq_false, false_implies, Bool.not_true, Bool.not_false, List.getElem?_cons_zero, List.getElem?_cons_succ, implies_true, and_self, Bool.and_true, Bool.true_and, BEq.rfl, and_assoc, Option.isSome_some, Option.isSome_none, List.take_succ_cons, List.take_zero, List.set_cons_zero, List.set_cons_succ, List.forall_mem_cons, List.not_mem_nil, forall_const, List.range, List.range.loop, ne_eq, not_false_eq_true, not_true_eq_false, List.cons.injEq, Prod.mk.injEq, List.append_nil, List.nil_append, List.cons_append, false_and, and_false, Bool.false_and, Bool.and_false, Nat.reduceBNe, Nat.reduceBEq, beq_self_eq_true, bne_self_eq_false, Nat.reduceBeqDiff, Bool.or_false, Bool.false_or, Bool.or_true, Bool.true_or, vs0, vs1, vs2, vs3, vs4, tys, gl0, Tryd.ntmps9, Tryd.results9, boxF, reach, getAll, posN, addN, D.ids, D.idsL, D.tks, D.tksL, ownTk, backN, enumS, zipS, BF.toR, D.ren, D.rens, renO, nodupB, List.contains_cons, List.contains_nil, Bool.or_false, Bool.or_true, Bool.false_or, Bool.true_or, List.getElem?_nil, List.append_assoc, List.cons_append, List.elem_cons, List.elem_nil, ↓aopsX, okX_nil, okX_u, okX_t, stateAt, S.drop, dropK, wildIds, finalS, List.filter_cons, List.filter_nil, List.flatMap_cons, List.flatMap_nil, List.contains_cons, List.contains_nil, List.elem_cons, List.elem_nil, Bool.or_false, Bool.or_true, Bool.false_or, Bool.true_or, PF.toR, gives, givesIf, la, lb, lc, lP, lQ, hP, hQ, hW, spec_join, sp_join, c_join, b_join]
  refine ⟨okUps_of (by kernel_rfl) rfl, okUps_all rfl (by kernel_rfl), ?_⟩
  refine drawI [1, 2, 3, 4, 5, 6, 7, 8, 9, 10, 11, 12, 13, 14] (by kernel_rfl) ?_
  simp (config := {dsimp := false}) only [↓a_range, ↓roundQ_normal, ↓roundQ_ret, ↓roundQ_exit, ↓a_skip, ↓a_exit, ↓a_ret, ↓a_seq, ↓a_cond, ↓a_block, ↓a_loop, ↓a_region, ↓a_draw, ↓a_region', ↓a_draw', ↓then_key, ↓with_key, ↓withY_key, ↓cond_key, ↓one_key, ↓thenQ_normal, ↓thenQ_exit, ↓thenQ_ret, ↓blockQ_normal, ↓blockQ_exit, ↓blockQ_ret, ↓aops, ↓aopsD, ↓imp_tt, ↓imp_ff, ↓imp_tf, ↓imp_ft, ↓imp_tnt, ↓imp_tnf, ↓imp_fnt, ↓imp_fnf, look, setL, resQ, argSlots, buildSt, buildArr, intsOf, eqB, keepSl, bindM, bindP, opR, okIf, ok, bad, ev, ofConst, putS, updS, S.upd, dstOk, yieldD, yieldY, strBin, isShift, cellD, retQ, resD, stripO, convR, conv2R, makeR, indexR, indexAddrR, fieldAddrR, loadR, storeR, allocR, boxR, pickR, buildR, buildSliceR, lenR, nilCheckR, extractR, funcR, ipSlice, sliceR, appendR, callR, minR, maxR, S.box, S.tok, TK.sh, known, tsize, destI, ownTok, srcI, isIn, isSl, isSt, appendI, appendL, bnd, aggBin, nilD, isPtr, fieldOf, sized, enumS, seeR, seeL, hasB, flat, flats, List.foldl_nil, List.foldl_cons, Option.getD_some, Option.getD_none, if_true, if_false, reduceIte, reduceCtorEq, Nat.reduceEqDiff, Nat.reduceAdd, Nat.reduceMul, Nat.reduceLT, Nat.reduceSub, Nat.reduceLeDiff, true_and, and_true, List.map_cons, List.map_nil, List.size_toArray, List.length_cons, List.length_nil, Option.map_some, Option.map_none, Option.bind_some, true_implies, Bool.false_eq_true, Bool.true_eq_false, false_implies, Bool.not_true, Bool.not_false, List.getElem?_cons_zero, List.getElem?_cons_succ, implies_true, and_self, Bool.and_true, Bool.true_and, BEq.rfl, and_assoc, Option.isSome_some, Option.isSome_none, List.take_succ_cons, List.take_zero, List.set_cons_zero, List.set_cons_succ, List.forall_mem_cons, List.not_mem_nil, forall_const, List.range, List.range.loop, ne_eq, not_false_eq_true, not_true_eq_false, List.cons.injEq, Prod.mk.injEq, List.append_nil, List.nil_append, List.cons_append, false_and, and_false, Bool.false_and, Bool.and_false, Nat.reduceBNe, Nat.reduceBEq, beq_self_eq_true, bne_self_eq_false, Nat.reduceBeqDiff, Bool.or_false, Bool.false_or, Bool.or_true, Bool.true_or, vs0, vs1, vs2, vs3, vs4, tys, gl0, Tryd.ntmps9, Tryd.results9, boxF, reach, getAll, posN, addN, D.ids, D.idsL, D.tks, D.tksL, ownTk, backN, enumS, zipS, BF.toR, D.ren, D.rens, renO, nodupB, List.contains_cons, List.contains_nil, Bool.or_false, Bool.or_true, Bool.false_or, Bool.true_or, List.getElem?_nil, List.append_assoc, List.cons_append, List.elem_cons, List.elem_nil, PF.toR, gives, givesIf, bare_arr, la, lb, lc, lP, lQ, hP, hQ, hW, eq_self, decide_true, b1, b2, b3, b4, f1, f2, f3, spec_join, sp_join, c_join, b_join, spec_branch, sp_branch, c_branch, b_branch, spec_fold, sp_fold, c_fold, b_fold]
  have hH3 := hH [a, b, c] (by intro x hx; simp at hx; rcases hx with rfl | rfl | rfl <;> assumption)
  have hH1 := hH [a] (by intro x hx; simp at hx; subst hx; exact la)
  have hH0 := hH [] (by simp [h32])
  have hHP := hH [P] (by intro x hx; simp at hx; subst hx; exact lP)
  refine ⟨hH3, hH3, hH1, hH1, .inr trivial, hHP, .inl trivial, hH0, .inl trivial, hH0, ?_⟩
  have tn : Int.toNat 21 = 21 := rfl
  have f8 : foldV a 0 1048577 (hs (arrs (List.replicate 21 (List.replicate 32 0)))) = .tup [.arr .u8 32 z32, .bool false] := fold_out a _ (.inr (by decide))
  refine drawX [1, 2, 3, 4, 5, 6, 7, 8, 9, 10, 11, 12, 13, 14, 15, 16, 17, 18, 19, 20, 21, 22, 23, 24, 25, 26, 27, 28] [(6, [0, 1, 2, 3, 4, 5]), (7, [5])] [(7, [704])] (by kernel_rfl) (wild_of rfl) ?_
  simp (config := {dsimp := false}) only [↓a_range, ↓roundQ_normal, ↓roundQ_ret, ↓roundQ_exit, ↓a_skip, ↓a_exit, ↓a_ret, ↓a_seq, ↓a_cond, ↓a_block, ↓a_loop, ↓a_region, ↓a_draw, ↓a_region', ↓a_draw', ↓then_key, ↓with_key, ↓withY_key, ↓cond_key, ↓one_key, ↓thenQ_normal, ↓thenQ_exit, ↓thenQ_ret, ↓blockQ_normal, ↓blockQ_exit, ↓blockQ_ret, ↓aops, ↓aopsD, ↓imp_tt, ↓imp_ff, ↓imp_tf, ↓imp_ft, ↓imp_tnt, ↓imp_tnf, ↓imp_fnt, ↓imp_fnf, look, setL, resQ, argSlots, buildSt, buildArr, intsOf, eqB, keepSl, bindM, bindP, opR, okIf, ok, bad, ev, ofConst, putS, updS, S.upd, dstOk, yieldD, yieldY, strBin, isShift, cellD, retQ, resD, stripO, convR, conv2R, makeR, indexR, indexAddrR, fieldAddrR, loadR, storeR, allocR, boxR, pickR, buildR, buildSliceR, lenR, nilCheckR, extractR, funcR, ipSlice, sliceR, appendR, callR, minR, maxR, S.box, S.tok, TK.sh, known, tsize, destI, ownTok, srcI, isIn, isSl, isSt, appendI, appendL, bnd, aggBin, nilD, isPtr, fieldOf, sized, enumS, seeR, seeL, hasB, flat, flats, List.foldl_nil, List.foldl_cons, Option.getD_some, Option.getD_none, if_true, if_false, reduceIte, reduceCtorEq, Nat.reduceEqDiff, Nat.reduceAdd, Nat.reduceMul, Nat.reduceLT, Nat.reduceSub, Nat.reduceLeDiff, true_and, and_true, List.map_cons, List.map_nil, List.size_toArray, List.length_cons, List.length_nil, Option.map_some, Option.map_none, Option.bind_some, true_implies, Bool.false_eq_true, Bool.true_eq_false, false_implies, Bool.not_true, Bool.not_false, List.getElem?_cons_zero, List.getElem?_cons_succ, implies_true, and_self, Bool.and_true, Bool.true_and, BEq.rfl, and_assoc, Option.isSome_some, Option.isSome_none, List.take_succ_cons, List.take_zero, List.set_cons_zero, List.set_cons_succ, List.forall_mem_cons, List.not_mem_nil, forall_const, List.range, List.range.loop, ne_eq, not_false_eq_true, not_true_eq_false, List.cons.injEq, Prod.mk.injEq, List.append_nil, List.nil_append, List.cons_append, false_and, and_false, Bool.false_and, Bool.and_false, Nat.reduceBNe, Nat.reduceBEq, beq_self_eq_true, bne_self_eq_false, Nat.reduceBeqDiff, Bool.or_false, Bool.false_or, Bool.or_true, Bool.true_or, vs0, vs1, vs2, vs3, vs4, tys, gl0, Tryd.ntmps9, Tryd.results9, boxF, reach, getAll, posN, addN, D.ids, D.idsL, D.tks, D.tksL, ownTk, backN, enumS, zipS, BF.toR, D.ren, D.rens, renO, nodupB, List.contains_cons, List.contains_nil, Bool.or_false, Bool.or_true, Bool.false_or, Bool.true_or, List.getElem?_nil, List.append_assoc, List.cons_append, List.elem_cons, List.elem_nil, ↓aopsX, okX_nil, okX_u, okX_t, stateAt, S.drop, dropK, wildIds, finalS, List.filter_cons, List.filter_nil, List.flatMap_cons, List.flatMap_nil, List.contains_cons, List.contains_nil, List.elem_cons, List.elem_nil, Bool.or_false, Bool.or_true, Bool.false_or, Bool.true_or, PF.toR, gives, givesIf, bare_arr, tn, strips_rep, la, f8, List.append_eq, spec_fold, sp_fold, c_fold, b_fold, spec_commitment, sp_commitment, c_commitment, b_commitment, spec_wanted, sp_wanted, c_wanted, b_wanted]
  have hHb := hH [b, Q] (by intro x hx; simp at hx; rcases hx with rfl | rfl <;> assumption)
  refine ⟨by decide, by decide, .inr trivial, hH _ (by intro x hx; rw [List.eq_of_mem_replicate hx]; rfl), okUps_of (by kernel_rfl) rfl, okUps_of (by kernel_rfl) rfl, ?_⟩
  refine drawI [1, 2, 3, 4, 5, 6, 7, 8, 9, 10, 11, 12, 13, 14, 15, 16, 17, 18, 19, 20, 21, 22, 23, 24, 25, 26, 27, 28, 29, 30, 31, 32, 33, 34] (by kernel_rfl) ?_
  simp (config := {dsimp := false}) only [↓a_range, ↓roundQ_normal, ↓roundQ_ret, ↓roundQ_exit, ↓a_skip, ↓a_exit, ↓a_ret, ↓a_seq, ↓a_cond, ↓a_block, ↓a_loop, ↓a_region, ↓a_draw, ↓a_region', ↓a_draw', ↓then_key, ↓with_key, ↓withY_key, ↓cond_key, ↓one_key, ↓thenQ_normal, ↓thenQ_exit, ↓thenQ_ret, ↓blockQ_normal, ↓blockQ_exit, ↓blockQ_ret, ↓aops, ↓aopsD, ↓imp_tt, ↓imp_ff, ↓imp_tf, ↓imp_ft, ↓imp_tnt, ↓imp_tnf, ↓imp_fnt, ↓imp_fnf, look, setL, resQ, argSlots, buildSt, buildArr, intsOf, eqB, keepSl, bindM, bindP, opR, okIf, ok, bad, ev, ofConst, putS, updS, S.upd, dstOk, yieldD, yieldY, strBin, isShift, cellD, retQ, resD, stripO, convR, conv2R, makeR, indexR, indexAddrR, fieldAddrR, loadR, storeR, allocR, boxR, pickR, buildR, buildSliceR, lenR, nilCheckR, extractR, funcR, ipSlice, sliceR, appendR, callR, minR, maxR, S.box, S.tok, TK.sh, known, tsize, destI, ownTok, srcI, isIn, isSl, isSt, appendI, appendL, bnd, aggBin, nilD, isPtr, fieldOf, sized, enumS, seeR, seeL, hasB, flat, flats, List.foldl_nil, List.foldl_cons, Option.getD_some, Option.getD_none, if_true, if_false, reduceIte, reduceCtorEq, Nat.reduceEqDiff, Nat.reduceAdd, Nat.reduceMul, Nat.reduceLT, Nat.reduceSub, Nat.reduceLeDiff, true_and, and_true, List.map_cons, List.map_nil, List.size_toArray, List.length_cons, List.length_nil, Option.map_some, Option.map_none, Option.bind_some, true_implies, Bool.false_eq_true, Bool.true_eq_false, false_implies, Bool.not_true, Bool.not_false, List.getElem?_cons_zero, List.getElem?_cons_succ, implies_true, and_self, Bool.and_true, Bool.true_and, BEq.rfl, and_assoc, Option.isSome_some, Option.isSome_none, List.take_succ_cons, List.take_zero, List.set_cons_zero, List.set_cons_succ, List.forall_mem_cons, List.not_mem_nil, forall_const, List.range, List.range.loop, ne_eq, not_false_eq_true, not_true_eq_false, List.cons.injEq, Prod.mk.injEq, List.append_nil, List.nil_append, List.cons_append, false_and, and_false, Bool.false_and, Bool.and_false, Nat.reduceBNe, Nat.reduceBEq, beq_self_eq_true, bne_self_eq_false, Nat.reduceBeqDiff, Bool.or_false, Bool.false_or, Bool.or_true, Bool.true_or, vs0, vs1, vs2, vs3, vs4, tys, gl0, Tryd.ntmps9, Tryd.results9, boxF, reach, getAll, posN, addN, D.ids, D.idsL, D.tks, D.tksL, ownTk, backN, enumS, zipS, BF.toR, D.ren, D.rens, renO, nodupB, List.contains_cons, List.contains_nil, Bool.or_false, Bool.or_true, Bool.false_or, Bool.true_or, List.getElem?_nil, List.append_assoc, List.cons_append, List.elem_cons, List.elem_nil, PF.toR, gives, givesIf, bare_arr, la, lb, lc, lP, lQ, hP, hQ, hW, eq_self, decide_true, List.append_eq, spec_join, sp_join, c_join, b_join, spec_same, sp_same, c_same, b_same, spec_works, sp_works, c_works, b_works]
  refine ⟨hHP, hHb, fun h => by simp at h⟩
end Go.Vi.C8
end

section
/-
  THE LIFT: a struct of a hash, two numbers and hashes.
-/
set_option linter.unusedVariables false
namespace Go.Vi
open Go.RowKit Go.WideShapes Go.ChangeShapes
theorem repCs_cons {g : Gh} {w : World} {d : D} {ds : List D} {cs : List Value} (n : Nat) (h : RepC g w d (cs.take n)) (h' : RepCs g w ds (cs.drop n)) : RepCs g w (d :: ds) cs :=
  ⟨cs.take n, cs.drop n, (List.take_append_drop n cs).symm, h, h'⟩
section
variable {H : Type} {enc : TypeId × Value → H} {P : Program} {W : World} {base : Nat}
theorem rep_claim {r : Reach} {b0 : Nat} {t u : TypeId} {v : Value} {d : DataW H} {ps : List MemPlace} {fs : Array Field} {f0 f1 f2 f3 : Field} (ht : P.underlying t = some (.struct fs)) (hs : fs.size = 4)
    (e0 : fs[0]? = some f0) (e1 : fs[1]? = some f1) (e2 : fs[2]? = some f2) (e3 : fs[3]? = some f3) (o0 : f0.offset = 0) (o1 : f1.offset = 32) (o2 : f2.offset = 33) (o3 : f3.offset = 34) (hc : P.cellsOf t = 35)
    (s0 : P.cellsOf f0.type = 32) (s1 : P.cellsOf f1.type = 1) (s2 : P.cellsOf f2.type = 1) (s3 : P.cellsOf f3.type = 1)
    (t0 : P.underlying f0.type = some (.array 32 u)) (hu : P.underlying u = some (.int .u8)) (cu : P.cellsOf u = 1) (t1 : P.underlying f1.type = some (.int .i64)) (t2 : P.underlying f2.type = some (.int .i64)) (t3 : P.underlying f3.type = some (.slice f0.type))
    (hval : Value.okWide P W r b0 t v) (hd : DataW.Trod enc P W base (fun _ => true) true t v d ps) :
    ∃ (h : List Int) (i n : Int) (bs : List (List Int)), Rep1 (g0 W) W (.agg [.arr .u8 32 h, .int .i64 i, .int .i64 n, .sl .no 32 (bs.map (D.arr .u8 32))]) v ∧ (h.length = 32 ∧ ∀ x ∈ h, (Lit.int .u8 x).wf = true) ∧ (∀ b ∈ bs, b.length = 32) ∧ ∀ b ∈ bs, ∀ x ∈ b, (Lit.int .u8 x).wf = true := by
  obtain ⟨fuel, hf⟩ := hd
  simp only [Value.okWide, ht] at hval
  obtain ⟨cs, rfl, hcs, _⟩ := hval
  obtain ⟨xs, m, _, _, hl, hx, hel⟩ := DataW.trod_struct ht hf
  have hcs' : (Value.agg cs).cells.toList = cs.toList := rfl
  rw [hcs'] at hel hl
  rw [hc] at hl
  have hLs : cs = cs.toList.toArray := by simp
  generalize cs.toList = L at hel hl hLs
  rw [hs] at hx
  have g0' := hel 0 f0 e0
  have g1' := hel 1 f1 e1
  have g2' := hel 2 f2 e2
  have g3' := hel 3 f3 e3
  rw [o0, s0, List.getElem?_eq_getElem (by omega)] at g0'
  rw [o1, s1, List.getElem?_eq_getElem (by omega)] at g1'
  rw [o2, s2, List.getElem?_eq_getElem (by omega)] at g2'
  rw [o3, s3, List.getElem?_eq_getElem (by omega)] at g3'
  obtain ⟨h, h1, h2, h3⟩ := repc_arr t0 hu cu s0 g0'
  obtain ⟨i, i1, _, _⟩ := DataW.trod_int t1 g1'
  obtain ⟨n, n1, _, _⟩ := DataW.trod_int t2 g2'
  obtain ⟨es, b1, b2, _⟩ := repc_slice (fun d => ∃ xs, d = D.arr .u8 32 xs ∧ (xs.length = 32 ∧ ∀ x ∈ xs, (Lit.int .u8 x).wf = true)) t3 s0 (fun m cs y hy => by
    obtain ⟨xs, q1, q2, q3⟩ := repc_arr t0 hu cu s0 hy
    exact ⟨D.arr .u8 32 xs, ⟨q2, q1⟩, xs, rfl, q2, q3⟩) g3'
  obtain ⟨bs, rfl, hb⟩ := map_of b2
  refine ⟨h, i, n, bs, ⟨L, by rw [hLs], ?_⟩, ⟨h2, h3⟩, fun b hm => (hb b hm).1, fun b hm => (hb b hm).2⟩
  refine repCs_cons 32 ⟨h2, by simpa using h1⟩ (repCs_cons 1 i1 (repCs_cons 1 ?_ (repCs_cons 1 ?_ ?_)))
  · rw [List.drop_drop]; exact n1
  · rw [List.drop_drop, List.drop_drop]; exact b1
  · have : ((List.drop 1 (List.drop 1 (List.drop 32 L))).drop 1).length = 0 := by simp; omega
    exact List.eq_nil_of_length_eq_zero this
end
end Go.Vi
end

section
set_option linter.unusedVariables false
set_option linter.unusedSimpArgs false
namespace Go.Proofs.YtnfcnphhcgmnmaaDoor
open Go.ChangeShapes Go.WideShapes Go.RowKit Go.Vi Go.Vi.C8

theorem Tryd.own : ownKnob Tryd.prog.godebug = none := by kernel_rfl
theorem Tryd.laidOut : laidOutB Tryd.prog = true := by kernel_rfl

theorem globs_of_laid {W : World} (h : laidMetH Tryd.prog [("spinney/sha.roundNumbers", Rows.laid_spinney_sha_roundNumbers)] W) : Globs Go.Vi.C8.E (g0 W) W := by
  rw [MakeChecks.laidMetH_plain _ _ _ (by kernel_rfl)] at h
  obtain ⟨ps, ⟨g, t, cs, fuel, p, q, hg, ht, hv, hd, _, _⟩, _, _⟩ := h
  obtain rfl := Option.some.inj ((show Tryd.prog.globalNamed "spinney/sha.roundNumbers" = some 0 by kernel_rfl).symm.trans hg)
  obtain rfl := Option.some.inj ((show (Tryd.prog.globals[0]?).map (·.type) = some 109 by kernel_rfl).symm.trans ht)
  obtain ⟨xs, m, _, ex, hcl, hl, hel⟩ := DataW.trod_array Tryd.underlying109 hd
  have c5 : Tryd.prog.cellsOf 42 = 1 := by kernel_rfl
  have hlen : kList.length = 64 := by decide
  have e3 : (xs.map (·.1)) = kList.map fun n => .lit (.int .u32 n) :=
    (DataW.agg.inj (Prod.mk.inj ex).1).symm
  have cell : ∀ r, r < 64 → cs.toList[r]? = some (.int .u32 (kList.getD r 0)) := by
    intro r hr
    have hE := hel r hr
    rw [c5, Nat.mul_one, List.getElem?_eq_getElem (by omega)] at hE
    obtain ⟨z, e1, e2, _⟩ := DataW.trod_int Tryd.underlying42 hE
    have e4 : (xs.map (·.1))[r]? = (kList.map fun n => (DataW.lit (.int .u32 n) : DataW Unit))[r]? := by rw [e3]
    rw [List.getElem?_map, List.getElem?_map, List.getElem?_eq_getElem (by omega : r < xs.length), List.getElem?_eq_getElem (by omega : r < kList.length), e2] at e4
    have hz : z = kList.getD r 0 := by
      simp only [Option.map_some, Option.some.injEq, DataW.lit.injEq, Lit.int.injEq, true_and] at e4
      rw [e4, List.getD, List.getElem?_eq_getElem (by omega : r < kList.length)]; rfl
    rw [← hz]
    have h0 : ((cs.toList.drop r).take 1)[0]? = some (.int .u32 z) := by rw [e1]; rfl
    simpa using h0
  have at0 : At W 0 0 (ints .u32 kList) := by
    intro i v hi
    simp only [ints, List.getElem?_map, Option.map_eq_some_iff] at hi
    obtain ⟨z, hz, rfl⟩ := hi
    have hil : i < 64 := by
      have := (List.getElem?_eq_some_iff.1 hz).1
      omega
    have := cell i hil
    rw [List.getD_eq_getElem?_getD, hz] at this
    rw [Nat.zero_add, World.var?_cell hg hv i]
    simpa using this
  intro i d hi
  change glC i = some d at hi
  unfold glC at hi
  split at hi <;> cases hi
  refine ⟨0, 0, ints .u32 kList, rfl, ⟨hlen, rfl⟩, ?_, at0⟩
  have := at0 63 _ (by rw [ints, List.getElem?_map, List.getElem?_eq_getElem (by omega : 63 < kList.length)]; rfl)
  have := cell_lt this
  show 0 + (ints .u32 kList).length ≤ rowSize W 0
  simp only [ints, List.length_map, hlen]
  omega

theorem bytes_of {xs : List Int} (h : ∀ x ∈ xs, (Lit.int .u8 x).wf = true) : Go.Vi.bytes xs := by
  intro x hx
  have := h x hx
  simp only [Lit.wf, Bool.and_eq_true, decide_eq_true_eq, show IntKind.u8.min = 0 from rfl, show IntKind.u8.max = 255 from rfl] at this
  omega

theorem hsB (bs : List (List Int)) (w : ∀ b ∈ bs, ∀ x ∈ b, (Lit.int .u8 x).wf = true) : ∀ h ∈ hs (D.strips false (arrs bs)), Go.Vi.bytes h := by
  rw [strips_arrs, hs_arrs]
  exact fun h hm => bytes_of (w h hm)
end Go.Proofs.YtnfcnphhcgmnmaaDoor
end
