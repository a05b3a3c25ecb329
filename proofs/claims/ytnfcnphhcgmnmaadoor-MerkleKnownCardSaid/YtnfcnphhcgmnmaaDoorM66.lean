/- Lemmas for the law proved in the text whose name ends with Law. -/
import Derived.Test.YtnfcnphhcgmnmaaDoorM65

section
set_option linter.unusedVariables false
set_option linter.unusedSimpArgs false
set_option maxHeartbeats 0
set_option maxRecDepth 20000
namespace Go.Vi.C8
open Go.Proofs

theorem c_three : Contract E 71 := by
  refine contract_see hE hgl (show E.P.funcs[71]? = some Tryd.f71 from Tryd.func71) rfl (p := sp_three) (fun _ _ _ => rfl) ?_
  intro args hv
  unfold sp_three at hv ⊢
  split at hv
  case h_2 => exact hv.elim
  refine ⟨by simp, Nat.le_of_ble_eq_true rfl, ?_⟩
  simp (config := {dsimp := false}) only [↓a_range, ↓roundQ_normal, ↓roundQ_ret, ↓roundQ_exit, ↓a_skip, ↓a_exit, ↓a_ret, ↓a_seq, ↓a_cond, ↓a_block, ↓a_loop, ↓a_region, ↓a_draw, ↓a_region', ↓a_draw', ↓then_key, ↓with_key, ↓withY_key, ↓cond_key, ↓one_key, ↓thenQ_normal, ↓thenQ_exit, ↓thenQ_ret, ↓blockQ_normal, ↓blockQ_exit, ↓blockQ_ret, ↓aops, ↓aopsD, ↓imp_tt, ↓imp_ff, ↓imp_tf, ↓imp_ft, ↓imp_tnt, ↓imp_tnf, ↓imp_fnt, ↓imp_fnf, look, setL, resQ, argSlots, buildSt, buildArr, intsOf, eqB, keepSl, bindM, bindP, opR, okIf, ok, bad, ev, ofConst, putS, updS, S.upd, dstOk, yieldD, yieldY, strBin, isShift, cellD, retQ, resD, stripO, convR, conv2R, makeR, indexR, indexAddrR, fieldAddrR, loadR, storeR, allocR, boxR, pickR, buildR, buildSliceR, lenR, nilCheckR, extractR, funcR, ipSlice, sliceR, appendR, callR, minR, maxR, S.box, S.tok, TK.sh, known, tsize, destI, ownTok, srcI, isIn, isSl, isSt, appendI, appendL, bnd, aggBin, nilD, isPtr, fieldOf, sized, enumS, seeR, seeL, hasB, flat, flats, List.foldl_nil, List.foldl_cons, Option.getD_some, Option.getD_none, if_true, if_false, reduceIte, reduceCtorEq, Nat.reduceEqDiff, Nat.reduceAdd, Nat.reduceMul, Nat.reduceLT, Nat.reduceSub, Nat.reduceLeDiff, true_and, and_true, List.map_cons, List.map_nil, List.size_toArray, List.length_cons, List.length_nil, Option.map_some, Option.map_none, Option.bind_some, true_implies, Bool.false_eq_true, Bool.true_eq_false, false_implies, Bool.not_true, Bool.not_false, List.getElem?_cons_zero, List.getElem?_cons_succ, implies_true, and_self, Bool.and_true, Bool.true_and, BEq.rfl, and_assoc, Option.isSome_some, Option.isSome_none, List.take_succ_cons, List.take_zero, List.set_cons_zero, List.set_cons_succ, List.forall_mem_cons, List.not_mem_nil, forall_const, List.range, List.range.loop, ne_eq, not_false_eq_true, not_true_eq_false, List.cons.injEq, Prod.mk.injEq, List.append_nil, List.nil_append, List.cons_append, false_and, and_false, Bool.false_and, Bool.and_false, Nat.reduceBNe, Nat.reduceBEq, beq_self_eq_true, bne_self_eq_false, Nat.reduceBeqDiff, Bool.or_false, Bool.false_or, Bool.or_true, Bool.true_or, vs0, vs1, vs2, vs3, vs4, tys, gl0, Tryd.ntmps71, Tryd.results71]
  rfl
theorem c_Right : Contract E 72 := by
  refine contract_see hE hgl (show E.P.funcs[72]? = some Tryd.f72 from Tryd.func72) rfl (p := sp_Right) (fun _ _ _ => rfl) ?_
  intro args hv
  unfold sp_Right at hv ⊢
  split at hv
  case h_2 => exact hv.elim
  rename_i x n
  refine ⟨by simp, Nat.le_of_ble_eq_true rfl, ?_⟩
  simp (config := {dsimp := false}) only [↓a_range, ↓roundQ_normal, ↓roundQ_ret, ↓roundQ_exit, ↓a_skip, ↓a_exit, ↓a_ret, ↓a_seq, ↓a_cond, ↓a_block, ↓a_loop, ↓a_region, ↓a_draw, ↓a_region', ↓a_draw', ↓then_key, ↓with_key, ↓withY_key, ↓cond_key, ↓one_key, ↓thenQ_normal, ↓thenQ_exit, ↓thenQ_ret, ↓blockQ_normal, ↓blockQ_exit, ↓blockQ_ret, ↓aops, ↓aopsD, ↓imp_tt, ↓imp_ff, ↓imp_tf, ↓imp_ft, ↓imp_tnt, ↓imp_tnf, ↓imp_fnt, ↓imp_fnf, look, setL, resQ, argSlots, buildSt, buildArr, intsOf, eqB, keepSl, bindM, bindP, opR, okIf, ok, bad, ev, ofConst, putS, updS, S.upd, dstOk, yieldD, yieldY, strBin, isShift, cellD, retQ, resD, stripO, convR, conv2R, makeR, indexR, indexAddrR, fieldAddrR, loadR, storeR, allocR, boxR, pickR, buildR, buildSliceR, lenR, nilCheckR, extractR, funcR, ipSlice, sliceR, appendR, callR, minR, maxR, S.box, S.tok, TK.sh, known, tsize, destI, ownTok, srcI, isIn, isSl, isSt, appendI, appendL, bnd, aggBin, nilD, isPtr, fieldOf, sized, enumS, seeR, seeL, hasB, flat, flats, List.foldl_nil, List.foldl_cons, Option.getD_some, Option.getD_none, if_true, if_false, reduceIte, reduceCtorEq, Nat.reduceEqDiff, Nat.reduceAdd, Nat.reduceMul, Nat.reduceLT, Nat.reduceSub, Nat.reduceLeDiff, true_and, and_true, List.map_cons, List.map_nil, List.size_toArray, List.length_cons, List.length_nil, Option.map_some, Option.map_none, Option.bind_some, true_implies, Bool.false_eq_true, Bool.true_eq_false, false_implies, Bool.not_true, Bool.not_false, List.getElem?_cons_zero, List.getElem?_cons_succ, implies_true, and_self, Bool.and_true, Bool.true_and, BEq.rfl, and_assoc, Option.isSome_some, Option.isSome_none, List.take_succ_cons, List.take_zero, List.set_cons_zero, List.set_cons_succ, List.forall_mem_cons, List.not_mem_nil, forall_const, List.range, List.range.loop, ne_eq, not_false_eq_true, not_true_eq_false, List.cons.injEq, Prod.mk.injEq, List.append_nil, List.nil_append, List.cons_append, false_and, and_false, Bool.false_and, Bool.and_false, Nat.reduceBNe, Nat.reduceBEq, beq_self_eq_true, bne_self_eq_false, Nat.reduceBeqDiff, Bool.or_false, Bool.false_or, Bool.or_true, Bool.true_or, vs0, vs1, vs2, vs3, vs4, tys, gl0, Tryd.ntmps72, Tryd.results72]
  simp only [givesIf] at hv
  refine loopI (Fin (n.toNat + 1)) (fun i => [(5, .int .i64 (i.1 : Int)), (0, .int .u32 (iterI rstep i.1 x)), (1, .int .i64 n)]) (fun _ => ⟨[], [], 8⟩) (fun i => n.toNat - i.1) 0 (fun _ => rfl) ?_ ?_
  · simp [Wk, wkSl, wkD, wkBs, wkTs, look, D.under, iterI]
  rintro ⟨i, hi⟩
  simp (config := {dsimp := false}) only [↓a_range, ↓roundQ_normal, ↓roundQ_ret, ↓roundQ_exit, ↓a_skip, ↓a_exit, ↓a_ret, ↓a_seq, ↓a_cond, ↓a_block, ↓a_loop, ↓a_region, ↓a_draw, ↓a_region', ↓a_draw', ↓then_key, ↓with_key, ↓withY_key, ↓cond_key, ↓one_key, ↓thenQ_normal, ↓thenQ_exit, ↓thenQ_ret, ↓blockQ_normal, ↓blockQ_exit, ↓blockQ_ret, ↓aops, ↓aopsD, ↓imp_tt, ↓imp_ff, ↓imp_tf, ↓imp_ft, ↓imp_tnt, ↓imp_tnf, ↓imp_fnt, ↓imp_fnf, look, setL, resQ, argSlots, buildSt, buildArr, intsOf, eqB, keepSl, bindM, bindP, opR, okIf, ok, bad, ev, ofConst, putS, updS, S.upd, dstOk, yieldD, yieldY, strBin, isShift, cellD, retQ, resD, stripO, convR, conv2R, makeR, indexR, indexAddrR, fieldAddrR, loadR, storeR, allocR, boxR, pickR, buildR, buildSliceR, lenR, nilCheckR, extractR, funcR, ipSlice, sliceR, appendR, callR, minR, maxR, S.box, S.tok, TK.sh, known, tsize, destI, ownTok, srcI, isIn, isSl, isSt, appendI, appendL, bnd, aggBin, nilD, isPtr, fieldOf, sized, enumS, seeR, seeL, hasB, flat, flats, List.foldl_nil, List.foldl_cons, Option.getD_some, Option.getD_none, if_true, if_false, reduceIte, reduceCtorEq, Nat.reduceEqDiff, Nat.reduceAdd, Nat.reduceMul, Nat.reduceLT, Nat.reduceSub, Nat.reduceLeDiff, true_and, and_true, List.map_cons, List.map_nil, List.size_toArray, List.length_cons, List.length_nil, Option.map_some, Option.map_none, Option.bind_some, true_implies, Bool.false_eq_true, Bool.true_eq_false, false_implies, Bool.not_true, Bool.not_false, List.getElem?_cons_zero, List.getElem?_cons_succ, implies_true, and_self, Bool.and_true, Bool.true_and, BEq.rfl, and_assoc, Option.isSome_some, Option.isSome_none, List.take_succ_cons, List.take_zero, List.set_cons_zero, List.set_cons_succ, List.forall_mem_cons, List.not_mem_nil, forall_const, List.range, List.range.loop, ne_eq, not_false_eq_true, not_true_eq_false, List.cons.injEq, Prod.mk.injEq, List.append_nil, List.nil_append, List.cons_append, false_and, and_false, Bool.false_and, Bool.and_false, Nat.reduceBNe, Nat.reduceBEq, beq_self_eq_true, bne_self_eq_false, Nat.reduceBeqDiff, Bool.or_false, Bool.false_or, Bool.or_true, Bool.true_or, vs0, vs1, vs2, vs3, vs4, tys, gl0, Tryd.ntmps72, Tryd.results72]
  refine ⟨fun h => ?_, fun h => ?_⟩
  · have h := of_decide_eq_true h
    refine ⟨by decide, by decide, ⟨i + 1, by omega⟩, ?_, by simp only; omega⟩
    simp [Wk, wkSl, wkD, wkBs, wkTs, look, D.under, iterI, rstep, IntWalk.i64_in ((i : Int) + 1) (by omega)]
  · have h := of_decide_eq_false h
    obtain rfl : i = n.toNat := by omega
    rfl
theorem c_Shift : Contract E 82 := by
  refine contract_see hE hgl (show E.P.funcs[82]? = some Tryd.f82 from Tryd.func82) rfl (p := sp_Shift) (fun _ _ _ => rfl) ?_
  intro args hv
  unfold sp_Shift at hv ⊢
  split at hv
  case h_2 => exact hv.elim
  rename_i x n
  refine ⟨by simp, Nat.le_of_ble_eq_true rfl, ?_⟩
  simp (config := {dsimp := false}) only [↓a_range, ↓roundQ_normal, ↓roundQ_ret, ↓roundQ_exit, ↓a_skip, ↓a_exit, ↓a_ret, ↓a_seq, ↓a_cond, ↓a_block, ↓a_loop, ↓a_region, ↓a_draw, ↓a_region', ↓a_draw', ↓then_key, ↓with_key, ↓withY_key, ↓cond_key, ↓one_key, ↓thenQ_normal, ↓thenQ_exit, ↓thenQ_ret, ↓blockQ_normal, ↓blockQ_exit, ↓blockQ_ret, ↓aops, ↓aopsD, ↓imp_tt, ↓imp_ff, ↓imp_tf, ↓imp_ft, ↓imp_tnt, ↓imp_tnf, ↓imp_fnt, ↓imp_fnf, look, setL, resQ, argSlots, buildSt, buildArr, intsOf, eqB, keepSl, bindM, bindP, opR, okIf, ok, bad, ev, ofConst, putS, updS, S.upd, dstOk, yieldD, yieldY, strBin, isShift, cellD, retQ, resD, stripO, convR, conv2R, makeR, indexR, indexAddrR, fieldAddrR, loadR, storeR, allocR, boxR, pickR, buildR, buildSliceR, lenR, nilCheckR, extractR, funcR, ipSlice, sliceR, appendR, callR, minR, maxR, S.box, S.tok, TK.sh, known, tsize, destI, ownTok, srcI, isIn, isSl, isSt, appendI, appendL, bnd, aggBin, nilD, isPtr, fieldOf, sized, enumS, seeR, seeL, hasB, flat, flats, List.foldl_nil, List.foldl_cons, Option.getD_some, Option.getD_none, if_true, if_false, reduceIte, reduceCtorEq, Nat.reduceEqDiff, Nat.reduceAdd, Nat.reduceMul, Nat.reduceLT, Nat.reduceSub, Nat.reduceLeDiff, true_and, and_true, List.map_cons, List.map_nil, List.size_toArray, List.length_cons, List.length_nil, Option.map_some, Option.map_none, Option.bind_some, true_implies, Bool.false_eq_true, Bool.true_eq_false, false_implies, Bool.not_true, Bool.not_false, List.getElem?_cons_zero, List.getElem?_cons_succ, implies_true, and_self, Bool.and_true, Bool.true_and, BEq.rfl, and_assoc, Option.isSome_some, Option.isSome_none, List.take_succ_cons, List.take_zero, List.set_cons_zero, List.set_cons_succ, List.forall_mem_cons, List.not_mem_nil, forall_const, List.range, List.range.loop, ne_eq, not_false_eq_true, not_true_eq_false, List.cons.injEq, Prod.mk.injEq, List.append_nil, List.nil_append, List.cons_append, false_and, and_false, Bool.false_and, Bool.and_false, Nat.reduceBNe, Nat.reduceBEq, beq_self_eq_true, bne_self_eq_false, Nat.reduceBeqDiff, Bool.or_false, Bool.false_or, Bool.or_true, Bool.true_or, vs0, vs1, vs2, vs3, vs4, tys, gl0, Tryd.ntmps82, Tryd.results82]
  simp only [givesIf] at hv
  refine loopI (Fin (n.toNat + 1)) (fun i => [(5, .int .i64 (i.1 : Int)), (0, .int .u32 (iterI hstep i.1 x)), (1, .int .i64 n)]) (fun _ => ⟨[], [], 8⟩) (fun i => n.toNat - i.1) 0 (fun _ => rfl) ?_ ?_
  · simp [Wk, wkSl, wkD, wkBs, wkTs, look, D.under, iterI]
  rintro ⟨i, hi⟩
  simp (config := {dsimp := false}) only [↓a_range, ↓roundQ_normal, ↓roundQ_ret, ↓roundQ_exit, ↓a_skip, ↓a_exit, ↓a_ret, ↓a_seq, ↓a_cond, ↓a_block, ↓a_loop, ↓a_region, ↓a_draw, ↓a_region', ↓a_draw', ↓then_key, ↓with_key, ↓withY_key, ↓cond_key, ↓one_key, ↓thenQ_normal, ↓thenQ_exit, ↓thenQ_ret, ↓blockQ_normal, ↓blockQ_exit, ↓blockQ_ret, ↓aops, ↓aopsD, ↓imp_tt, ↓imp_ff, ↓imp_tf, ↓imp_ft, ↓imp_tnt, ↓imp_tnf, ↓imp_fnt, ↓imp_fnf, look, setL, resQ, argSlots, buildSt, buildArr, intsOf, eqB, keepSl, bindM, bindP, opR, okIf, ok, bad, ev, ofConst, putS, updS, S.upd, dstOk, yieldD, yieldY, strBin, isShift, cellD, retQ, resD, stripO, convR, conv2R, makeR, indexR, indexAddrR, fieldAddrR, loadR, storeR, allocR, boxR, pickR, buildR, buildSliceR, lenR, nilCheckR, extractR, funcR, ipSlice, sliceR, appendR, callR, minR, maxR, S.box, S.tok, TK.sh, known, tsize, destI, ownTok, srcI, isIn, isSl, isSt, appendI, appendL, bnd, aggBin, nilD, isPtr, fieldOf, sized, enumS, seeR, seeL, hasB, flat, flats, List.foldl_nil, List.foldl_cons, Option.getD_some, Option.getD_none, if_true, if_false, reduceIte, reduceCtorEq, Nat.reduceEqDiff, Nat.reduceAdd, Nat.reduceMul, Nat.reduceLT, Nat.reduceSub, Nat.reduceLeDiff, true_and, and_true, List.map_cons, List.map_nil, List.size_toArray, List.length_cons, List.length_nil, Option.map_some, Option.map_none, Option.bind_some, true_implies, Bool.false_eq_true, Bool.true_eq_false, false_implies, Bool.not_true, Bool.not_false, List.getElem?_cons_zero, List.getElem?_cons_succ, implies_true, and_self, Bool.and_true, Bool.true_and, BEq.rfl, and_assoc, Option.isSome_some, Option.isSome_none, List.take_succ_cons, List.take_zero, List.set_cons_zero, List.set_cons_succ, List.forall_mem_cons, List.not_mem_nil, forall_const, List.range, List.range.loop, ne_eq, not_false_eq_true, not_true_eq_false, List.cons.injEq, Prod.mk.injEq, List.append_nil, List.nil_append, List.cons_append, false_and, and_false, Bool.false_and, Bool.and_false, Nat.reduceBNe, Nat.reduceBEq, beq_self_eq_true, bne_self_eq_false, Nat.reduceBeqDiff, Bool.or_false, Bool.false_or, Bool.or_true, Bool.true_or, vs0, vs1, vs2, vs3, vs4, tys, gl0, Tryd.ntmps82, Tryd.results82]
  refine ⟨fun h => ?_, fun h => ?_⟩
  · have h := of_decide_eq_true h
    refine ⟨by decide, ⟨i + 1, by omega⟩, ?_, by simp only; omega⟩
    simp [Wk, wkSl, wkD, wkBs, wkTs, look, D.under, iterI, hstep, IntWalk.i64_in ((i : Int) + 1) (by omega)]
  · have h := of_decide_eq_false h
    obtain rfl : i = n.toNat := by omega
    rfl
theorem toldL_pos (m : Nat) (h : 0 < m) : toldL m = ((m % 10 : Nat) : Int) :: toldL (m / 10) := by
  cases m with
  | zero => omega
  | succ m => rw [toldL]
theorem toldL_len : ∀ (k n : Nat), n < 10 ^ k → (toldL n).length ≤ k
  | 0, n, h => by
    have : n = 0 := by simpa using h
    subst this
    simp [toldL]
  | k + 1, n, h => by
    rcases Nat.eq_zero_or_pos n with e | e
    · subst e; simp [toldL]
    · rw [toldL_pos n e]
      have := toldL_len k (n / 10) (by rw [Nat.pow_succ] at h; omega)
      simp only [List.length_cons]
      omega
theorem c_refNumber : Contract E 70 := by
  refine contract_see hE hgl (show E.P.funcs[70]? = some Tryd.f70 from Tryd.func70) rfl (p := sp_refNumber) (fun _ _ _ => rfl) ?_
  intro args hv
  unfold sp_refNumber at hv ⊢
  split at hv
  case h_2 => exact hv.elim
  rename_i b ws i
  refine ⟨by simp, Nat.le_of_ble_eq_true rfl, ?_⟩
  simp (config := {dsimp := false}) only [↓a_range, ↓roundQ_normal, ↓roundQ_ret, ↓roundQ_exit, ↓a_skip, ↓a_exit, ↓a_ret, ↓a_seq, ↓a_cond, ↓a_block, ↓a_loop, ↓a_region, ↓a_draw, ↓a_region', ↓a_draw', ↓then_key, ↓with_key, ↓withY_key, ↓cond_key, ↓one_key, ↓thenQ_normal, ↓thenQ_exit, ↓thenQ_ret, ↓blockQ_normal, ↓blockQ_exit, ↓blockQ_ret, ↓aops, ↓aopsD, ↓imp_tt, ↓imp_ff, ↓imp_tf, ↓imp_ft, ↓imp_tnt, ↓imp_tnf, ↓imp_fnt, ↓imp_fnf, look, setL, resQ, argSlots, buildSt, buildArr, intsOf, eqB, keepSl, bindM, bindP, opR, okIf, ok, bad, ev, ofConst, putS, updS, S.upd, dstOk, yieldD, yieldY, strBin, isShift, cellD, retQ, resD, stripO, convR, conv2R, makeR, indexR, indexAddrR, fieldAddrR, loadR, storeR, allocR, boxR, pickR, buildR, buildSliceR, lenR, nilCheckR, extractR, funcR, ipSlice, sliceR, appendR, callR, minR, maxR, S.box, S.tok, TK.sh, known, tsize, destI, ownTok, srcI, isIn, isSl, isSt, appendI, appendL, bnd, aggBin, nilD, isPtr, fieldOf, sized, enumS, seeR, seeL, hasB, flat, flats, List.foldl_nil, List.foldl_cons, Option.getD_some, Option.getD_none, if_true, if_false, reduceIte, reduceCtorEq, Nat.reduceEqDiff, Nat.reduceAdd, Nat.reduceMul, Nat.reduceLT, Nat.reduceSub, Nat.reduceLeDiff, true_and, and_true, List.map_cons, List.map_nil, List.size_toArray, List.length_cons, List.length_nil, Option.map_some, Option.map_none, Option.bind_some, true_implies, Bool.false_eq_true, Bool.true_eq_false, false_implies, Bool.not_true, Bool.not_false, List.getElem?_cons_zero, List.getElem?_cons_succ, implies_true, and_self, Bool.and_true, Bool.true_and, BEq.rfl, and_assoc, Option.isSome_some, Option.isSome_none, List.take_succ_cons, List.take_zero, List.set_cons_zero, List.set_cons_succ, List.forall_mem_cons, List.not_mem_nil, forall_const, List.range, List.range.loop, ne_eq, not_false_eq_true, not_true_eq_false, List.cons.injEq, Prod.mk.injEq, List.append_nil, List.nil_append, List.cons_append, false_and, and_false, Bool.false_and, Bool.and_false, Nat.reduceBNe, Nat.reduceBEq, beq_self_eq_true, bne_self_eq_false, Nat.reduceBeqDiff, Bool.or_false, Bool.false_or, Bool.or_true, Bool.true_or, vs0, vs1, vs2, vs3, vs4, tys, gl0, Tryd.ntmps70, Tryd.results70]
  simp only [givesIf] at hv ⊢
  refine ⟨fun h => ?_, fun h => ?_⟩
  · have h := of_decide_eq_true h
    refine loopI (Fin 5) (fun j => [(7, .int .u32 (wordN b i.toNat j.1)), (8, .int .i64 (j.1 : Int)), (0, .sli .no .u8 b), (2, .int .i64 i)]) (fun _ => ⟨[], [], 20⟩) (fun j => 4 - j.1) 0 (fun _ => rfl) ?_ ?_
    · simp [Wk, wkSl, wkD, wkBs, wkTs, look, D.under, underO, wordN]
    rintro ⟨j, hj⟩
    simp (config := {dsimp := false}) only [↓a_range, ↓roundQ_normal, ↓roundQ_ret, ↓roundQ_exit, ↓a_skip, ↓a_exit, ↓a_ret, ↓a_seq, ↓a_cond, ↓a_block, ↓a_loop, ↓a_region, ↓a_draw, ↓a_region', ↓a_draw', ↓then_key, ↓with_key, ↓withY_key, ↓cond_key, ↓one_key, ↓thenQ_normal, ↓thenQ_exit, ↓thenQ_ret, ↓blockQ_normal, ↓blockQ_exit, ↓blockQ_ret, ↓aops, ↓aopsD, ↓imp_tt, ↓imp_ff, ↓imp_tf, ↓imp_ft, ↓imp_tnt, ↓imp_tnf, ↓imp_fnt, ↓imp_fnf, look, setL, resQ, argSlots, buildSt, buildArr, intsOf, eqB, keepSl, bindM, bindP, opR, okIf, ok, bad, ev, ofConst, putS, updS, S.upd, dstOk, yieldD, yieldY, strBin, isShift, cellD, retQ, resD, stripO, convR, conv2R, makeR, indexR, indexAddrR, fieldAddrR, loadR, storeR, allocR, boxR, pickR, buildR, buildSliceR, lenR, nilCheckR, extractR, funcR, ipSlice, sliceR, appendR, callR, minR, maxR, S.box, S.tok, TK.sh, known, tsize, destI, ownTok, srcI, isIn, isSl, isSt, appendI, appendL, bnd, aggBin, nilD, isPtr, fieldOf, sized, enumS, seeR, seeL, hasB, flat, flats, List.foldl_nil, List.foldl_cons, Option.getD_some, Option.getD_none, if_true, if_false, reduceIte, reduceCtorEq, Nat.reduceEqDiff, Nat.reduceAdd, Nat.reduceMul, Nat.reduceLT, Nat.reduceSub, Nat.reduceLeDiff, true_and, and_true, List.map_cons, List.map_nil, List.size_toArray, List.length_cons, List.length_nil, Option.map_some, Option.map_none, Option.bind_some, true_implies, Bool.false_eq_true, Bool.true_eq_false, false_implies, Bool.not_true, Bool.not_false, List.getElem?_cons_zero, List.getElem?_cons_succ, implies_true, and_self, Bool.and_true, Bool.true_and, BEq.rfl, and_assoc, Option.isSome_some, Option.isSome_none, List.take_succ_cons, List.take_zero, List.set_cons_zero, List.set_cons_succ, List.forall_mem_cons, List.not_mem_nil, forall_const, List.range, List.range.loop, ne_eq, not_false_eq_true, not_true_eq_false, List.cons.injEq, Prod.mk.injEq, List.append_nil, List.nil_append, List.cons_append, false_and, and_false, Bool.false_and, Bool.and_false, Nat.reduceBNe, Nat.reduceBEq, beq_self_eq_true, bne_self_eq_false, Nat.reduceBeqDiff, Bool.or_false, Bool.false_or, Bool.or_true, Bool.true_or, vs0, vs1, vs2, vs3, vs4, tys, gl0, Tryd.ntmps70, Tryd.results70]
    have hb := hv.2.2.1
    refine ⟨fun hj4 => ?_, fun hj4 => ?_⟩
    · have hj4 := of_decide_eq_true hj4
      have e : IntKind.wrap .i64 (IntKind.wrap .i64 (4 * i) + (j : Int)) = 4 * i + j := by rw [IntWalk.i64_in (4 * i) (by omega), IntWalk.i64_in _ (by omega)]
      have e2 : (4 * i + (j : Int)).toNat = 4 * i.toNat + j := by omega
      rw [e, e2]
      refine ⟨by omega, by omega, ⟨j + 1, by omega⟩, ?_, by simp only; omega⟩
      simp [Wk, wkSl, wkD, wkBs, wkTs, look, D.under, underO, wordN, a32, IntWalk.i64_in ((j : Int) + 1) (by omega)]
    · have hj4 := of_decide_eq_false hj4
      obtain rfl : j = 4 := by omega
      have : i.toNat < 16 := by omega
      simp [numI, this]
  · have h := of_decide_eq_false h
    have hw := hv.2.2.2 (by omega)
    have e15 : IntKind.wrap .i64 (i - 15) = i - 15 := IntWalk.i64_in _ (by omega)
    have e2 : IntKind.wrap .i64 (i - 2) = i - 2 := IntWalk.i64_in _ (by omega)
    have e16 : IntKind.wrap .i64 (i - 16) = i - 16 := IntWalk.i64_in _ (by omega)
    have e7 : IntKind.wrap .i64 (i - 7) = i - 7 := IntWalk.i64_in _ (by omega)
    rw [e15, e2]
    refine ⟨by omega, by omega, by omega, by omega, ?_⟩
    refine drawI [1, 2, 9, 10] (by kernel_rfl) ?_
    simp (config := {dsimp := false}) only [↓a_range, ↓roundQ_normal, ↓roundQ_ret, ↓roundQ_exit, ↓a_skip, ↓a_exit, ↓a_ret, ↓a_seq, ↓a_cond, ↓a_block, ↓a_loop, ↓a_region, ↓a_draw, ↓a_region', ↓a_draw', ↓then_key, ↓with_key, ↓withY_key, ↓cond_key, ↓one_key, ↓thenQ_normal, ↓thenQ_exit, ↓thenQ_ret, ↓blockQ_normal, ↓blockQ_exit, ↓blockQ_ret, ↓aops, ↓aopsD, ↓imp_tt, ↓imp_ff, ↓imp_tf, ↓imp_ft, ↓imp_tnt, ↓imp_tnf, ↓imp_fnt, ↓imp_fnf, look, setL, resQ, argSlots, buildSt, buildArr, intsOf, eqB, keepSl, bindM, bindP, opR, okIf, ok, bad, ev, ofConst, putS, updS, S.upd, dstOk, yieldD, yieldY, strBin, isShift, cellD, retQ, resD, stripO, convR, conv2R, makeR, indexR, indexAddrR, fieldAddrR, loadR, storeR, allocR, boxR, pickR, buildR, buildSliceR, lenR, nilCheckR, extractR, funcR, ipSlice, sliceR, appendR, callR, minR, maxR, S.box, S.tok, TK.sh, known, tsize, destI, ownTok, srcI, isIn, isSl, isSt, appendI, appendL, bnd, aggBin, nilD, isPtr, fieldOf, sized, enumS, seeR, seeL, hasB, flat, flats, List.foldl_nil, List.foldl_cons, Option.getD_some, Option.getD_none, if_true, if_false, reduceIte, reduceCtorEq, Nat.reduceEqDiff, Nat.reduceAdd, Nat.reduceMul, Nat.reduceLT, Nat.reduceSub, Nat.reduceLeDiff, true_and, and_true, List.map_cons, List.map_nil, List.size_toArray, List.length_cons, List.length_nil, Option.map_some, Option.map_none, Option.bind_some, true_implies, Bool.false_eq_true, Bool.true_eq_false, false_implies, Bool.not_true, Bool.not_false, List.getElem?_cons_zero, List.getElem?_cons_succ, implies_true, and_self, Bool.and_true, Bool.true_and, BEq.rfl, and_assoc, Option.isSome_some, Option.isSome_none, List.take_succ_cons, List.take_zero, List.set_cons_zero, List.set_cons_succ, List.forall_mem_cons, List.not_mem_nil, forall_const, List.range, List.range.loop, ne_eq, not_false_eq_true, not_true_eq_false, List.cons.injEq, Prod.mk.injEq, List.append_nil, List.nil_append, List.cons_append, false_and, and_false, Bool.false_and, Bool.and_false, Nat.reduceBNe, Nat.reduceBEq, beq_self_eq_true, bne_self_eq_false, Nat.reduceBeqDiff, Bool.or_false, Bool.false_or, Bool.or_true, Bool.true_or, vs0, vs1, vs2, vs3, vs4, tys, gl0, Tryd.ntmps70, Tryd.results70, PF.toR, gives, givesIf, e16, e7, spec_three, sp_three, c_three, b_three, spec_Right, sp_Right, c_Right, b_Right, spec_Shift, sp_Shift, c_Shift, b_Shift]
    have n15 : (i - 15).toNat = i.toNat - 15 := by omega
    have n2 : (i - 2).toNat = i.toNat - 2 := by omega
    have n16 : (i - 16).toNat = i.toNat - 16 := by omega
    have n7 : (i - 7).toNat = i.toNat - 7 := by omega
    have nn : ¬ i.toNat < 16 := by omega
    refine ⟨by omega, by omega, by decide, by decide, by decide, by decide, by decide, by decide, by omega, by omega, by decide, by decide, by decide, by decide, by decide, by decide, ?_⟩
    rw [n15, n2, n16, n7]
    unfold numI
    rw [if_neg nn]
    rfl
theorem c_refFirst : Contract E 63 := by
  refine contract_see hE hgl (show E.P.funcs[63]? = some Tryd.f63 from Tryd.func63) rfl (p := sp_refFirst) (fun _ _ _ => rfl) ?_
  intro args hv
  unfold sp_refFirst at hv ⊢
  split at hv
  case h_2 => exact hv.elim
  refine ⟨by simp, Nat.le_of_ble_eq_true rfl, ?_⟩
  simp (config := {dsimp := false}) only [↓a_range, ↓roundQ_normal, ↓roundQ_ret, ↓roundQ_exit, ↓a_skip, ↓a_exit, ↓a_ret, ↓a_seq, ↓a_cond, ↓a_block, ↓a_loop, ↓a_region, ↓a_draw, ↓a_region', ↓a_draw', ↓then_key, ↓with_key, ↓withY_key, ↓cond_key, ↓one_key, ↓thenQ_normal, ↓thenQ_exit, ↓thenQ_ret, ↓blockQ_normal, ↓blockQ_exit, ↓blockQ_ret, ↓aops, ↓aopsD, ↓imp_tt, ↓imp_ff, ↓imp_tf, ↓imp_ft, ↓imp_tnt, ↓imp_tnf, ↓imp_fnt, ↓imp_fnf, look, setL, resQ, argSlots, buildSt, buildArr, intsOf, eqB, keepSl, bindM, bindP, opR, okIf, ok, bad, ev, ofConst, putS, updS, S.upd, dstOk, yieldD, yieldY, strBin, isShift, cellD, retQ, resD, stripO, convR, conv2R, makeR, indexR, indexAddrR, fieldAddrR, loadR, storeR, allocR, boxR, pickR, buildR, buildSliceR, lenR, nilCheckR, extractR, funcR, ipSlice, sliceR, appendR, callR, minR, maxR, S.box, S.tok, TK.sh, known, tsize, destI, ownTok, srcI, isIn, isSl, isSt, appendI, appendL, bnd, aggBin, nilD, isPtr, fieldOf, sized, enumS, seeR, seeL, hasB, flat, flats, List.foldl_nil, List.foldl_cons, Option.getD_some, Option.getD_none, if_true, if_false, reduceIte, reduceCtorEq, Nat.reduceEqDiff, Nat.reduceAdd, Nat.reduceMul, Nat.reduceLT, Nat.reduceSub, Nat.reduceLeDiff, true_and, and_true, List.map_cons, List.map_nil, List.size_toArray, List.length_cons, List.length_nil, Option.map_some, Option.map_none, Option.bind_some, true_implies, Bool.false_eq_true, Bool.true_eq_false, false_implies, Bool.not_true, Bool.not_false, List.getElem?_cons_zero, List.getElem?_cons_succ, implies_true, and_self, Bool.and_true, Bool.true_and, BEq.rfl, and_assoc, Option.isSome_some, Option.isSome_none, List.take_succ_cons, List.take_zero, List.set_cons_zero, List.set_cons_succ, List.forall_mem_cons, List.not_mem_nil, forall_const, List.range, List.range.loop, ne_eq, not_false_eq_true, not_true_eq_false, List.cons.injEq, Prod.mk.injEq, List.append_nil, List.nil_append, List.cons_append, false_and, and_false, Bool.false_and, Bool.and_false, Nat.reduceBNe, Nat.reduceBEq, beq_self_eq_true, bne_self_eq_false, Nat.reduceBeqDiff, Bool.or_false, Bool.false_or, Bool.or_true, Bool.true_or, vs0, vs1, vs2, vs3, vs4, tys, gl0, Tryd.ntmps63, Tryd.results63]
  rfl
theorem c_refRoundNumbers : Contract E 62 := by
  refine contract_see hE hgl (show E.P.funcs[62]? = some Tryd.f62 from Tryd.func62) rfl (p := sp_refRoundNumbers) (fun _ _ _ => rfl) ?_
  intro args hv
  unfold sp_refRoundNumbers at hv ⊢
  split at hv
  case h_2 => exact hv.elim
  refine ⟨by simp, Nat.le_of_ble_eq_true rfl, ?_⟩
  simp (config := {dsimp := false}) only [↓a_range, ↓roundQ_normal, ↓roundQ_ret, ↓roundQ_exit, ↓a_skip, ↓a_exit, ↓a_ret, ↓a_seq, ↓a_cond, ↓a_block, ↓a_loop, ↓a_region, ↓a_draw, ↓a_region', ↓a_draw', ↓then_key, ↓with_key, ↓withY_key, ↓cond_key, ↓one_key, ↓thenQ_normal, ↓thenQ_exit, ↓thenQ_ret, ↓blockQ_normal, ↓blockQ_exit, ↓blockQ_ret, ↓aops, ↓aopsD, ↓imp_tt, ↓imp_ff, ↓imp_tf, ↓imp_ft, ↓imp_tnt, ↓imp_tnf, ↓imp_fnt, ↓imp_fnf, look, setL, resQ, argSlots, buildSt, buildArr, intsOf, eqB, keepSl, bindM, bindP, opR, okIf, ok, bad, ev, ofConst, putS, updS, S.upd, dstOk, yieldD, yieldY, strBin, isShift, cellD, retQ, resD, stripO, convR, conv2R, makeR, indexR, indexAddrR, fieldAddrR, loadR, storeR, allocR, boxR, pickR, buildR, buildSliceR, lenR, nilCheckR, extractR, funcR, ipSlice, sliceR, appendR, callR, minR, maxR, S.box, S.tok, TK.sh, known, tsize, destI, ownTok, srcI, isIn, isSl, isSt, appendI, appendL, bnd, aggBin, nilD, isPtr, fieldOf, sized, enumS, seeR, seeL, hasB, flat, flats, List.foldl_nil, List.foldl_cons, Option.getD_some, Option.getD_none, if_true, if_false, reduceIte, reduceCtorEq, Nat.reduceEqDiff, Nat.reduceAdd, Nat.reduceMul, Nat.reduceLT, Nat.reduceSub, Nat.reduceLeDiff, true_and, and_true, List.map_cons, List.map_nil, List.size_toArray, List.length_cons, List.length_nil, Option.map_some, Option.map_none, Option.bind_some, true_implies, Bool.false_eq_true, Bool.true_eq_false, false_implies, Bool.not_true, Bool.not_false, List.getElem?_cons_zero, List.getElem?_cons_succ, implies_true, and_self, Bool.and_true, Bool.true_and, BEq.rfl, and_assoc, Option.isSome_some, Option.isSome_none, List.take_succ_cons, List.take_zero, List.set_cons_zero, List.set_cons_succ, List.forall_mem_cons, List.not_mem_nil, forall_const, List.range, List.range.loop, ne_eq, not_false_eq_true, not_true_eq_false, List.cons.injEq, Prod.mk.injEq, List.append_nil, List.nil_append, List.cons_append, false_and, and_false, Bool.false_and, Bool.and_false, Nat.reduceBNe, Nat.reduceBEq, beq_self_eq_true, bne_self_eq_false, Nat.reduceBeqDiff, Bool.or_false, Bool.false_or, Bool.or_true, Bool.true_or, vs0, vs1, vs2, vs3, vs4, tys, gl0, Tryd.ntmps62, Tryd.results62]
  rfl
end Go.Vi.C8
end

section
set_option linter.unusedVariables false
set_option linter.unusedSimpArgs false
set_option maxHeartbeats 0
set_option maxRecDepth 20000
namespace Go.Vi.C8
open Go.Proofs

theorem chStep_len (st : List Int) (w k : Int) (h : st.length = 8) : (chStep st w k).length = 8 := by
  simp [chStep, h]
theorem chRun_len (st b ks : List Int) (h : st.length = 8) : ∀ i, (chRun st b ks i).1.length = i ∧ (chRun st b ks i).2.length = 8
  | 0 => ⟨rfl, h⟩
  | i + 1 => by
    obtain ⟨h1, h2⟩ := chRun_len st b ks h i
    exact ⟨by simp [chRun, h1], chStep_len _ _ _ h2⟩
theorem c_refChange : Contract E 64 := by
  refine contract_see hE hgl (show E.P.funcs[64]? = some Tryd.f64 from Tryd.func64) rfl (p := sp_refChange) (fun _ _ _ => rfl) ?_
  intro args hv
  unfold sp_refChange at hv ⊢
  split at hv
  case h_2 => exact hv.elim
  rename_i st b ks
  refine ⟨by simp, Nat.le_of_ble_eq_true rfl, ?_⟩
  simp (config := {dsimp := false}) only [↓a_range, ↓roundQ_normal, ↓roundQ_ret, ↓roundQ_exit, ↓a_skip, ↓a_exit, ↓a_ret, ↓a_seq, ↓a_cond, ↓a_block, ↓a_loop, ↓a_region, ↓a_draw, ↓a_region', ↓a_draw', ↓then_key, ↓with_key, ↓withY_key, ↓cond_key, ↓one_key, ↓thenQ_normal, ↓thenQ_exit, ↓thenQ_ret, ↓blockQ_normal, ↓blockQ_exit, ↓blockQ_ret, ↓aops, ↓aopsD, ↓imp_tt, ↓imp_ff, ↓imp_tf, ↓imp_ft, ↓imp_tnt, ↓imp_tnf, ↓imp_fnt, ↓imp_fnf, look, setL, resQ, argSlots, buildSt, buildArr, intsOf, eqB, keepSl, bindM, bindP, opR, okIf, ok, bad, ev, ofConst, putS, updS, S.upd, dstOk, yieldD, yieldY, strBin, isShift, cellD, retQ, resD, stripO, convR, conv2R, makeR, indexR, indexAddrR, fieldAddrR, loadR, storeR, allocR, boxR, pickR, buildR, buildSliceR, lenR, nilCheckR, extractR, funcR, ipSlice, sliceR, appendR, callR, minR, maxR, S.box, S.tok, TK.sh, known, tsize, destI, ownTok, srcI, isIn, isSl, isSt, appendI, appendL, bnd, aggBin, nilD, isPtr, fieldOf, sized, enumS, seeR, seeL, hasB, flat, flats, List.foldl_nil, List.foldl_cons, Option.getD_some, Option.getD_none, if_true, if_false, reduceIte, reduceCtorEq, Nat.reduceEqDiff, Nat.reduceAdd, Nat.reduceMul, Nat.reduceLT, Nat.reduceSub, Nat.reduceLeDiff, true_and, and_true, List.map_cons, List.map_nil, List.size_toArray, List.length_cons, List.length_nil, Option.map_some, Option.map_none, Option.bind_some, true_implies, Bool.false_eq_true, Bool.true_eq_false, false_implies, Bool.not_true, Bool.not_false, List.getElem?_cons_zero, List.getElem?_cons_succ, implies_true, and_self, Bool.and_true, Bool.true_and, BEq.rfl, and_assoc, Option.isSome_some, Option.isSome_none, List.take_succ_cons, List.take_zero, List.set_cons_zero, List.set_cons_succ, List.forall_mem_cons, List.not_mem_nil, forall_const, List.range, List.range.loop, ne_eq, not_false_eq_true, not_true_eq_false, List.cons.injEq, Prod.mk.injEq, List.append_nil, List.nil_append, List.cons_append, false_and, and_false, Bool.false_and, Bool.and_false, Nat.reduceBNe, Nat.reduceBEq, beq_self_eq_true, bne_self_eq_false, Nat.reduceBeqDiff, Bool.or_false, Bool.false_or, Bool.or_true, Bool.true_or, vs0, vs1, vs2, vs3, vs4, tys, gl0, Tryd.ntmps64, Tryd.results64]
  simp only [givesIf] at hv
  refine loopA [(7, some .u32, 0)] ?_
  simp only [adopt, look, reduceIte, Nat.reduceEqDiff, if_false, setL, Nat.reduceAdd]
  refine ⟨Fin 65, fun i => [(0, .sli .no .u32 st), (1, .sli .no .u8 b), (2, .sli .no .u32 ks), (7, .sli (.tok 20) .u32 (chRun st b ks i.1).1), (8, .sli .no .u32 (chRun st b ks i.1).2), (9, .int .i64 (i.1 : Int))], fun i => ⟨[], [(20, (i.1, 1))], 24⟩, fun i => 64 - i.1, 0, fun _ => rfl, ?_, ?_⟩
  · simp [Wk, wkSl, wkD, wkBs, wkTs, look, D.under, underO, S.tok, chRun]
  rintro ⟨i, hi⟩
  simp (config := {dsimp := false}) only [↓a_range, ↓roundQ_normal, ↓roundQ_ret, ↓roundQ_exit, ↓a_skip, ↓a_exit, ↓a_ret, ↓a_seq, ↓a_cond, ↓a_block, ↓a_loop, ↓a_region, ↓a_draw, ↓a_region', ↓a_draw', ↓then_key, ↓with_key, ↓withY_key, ↓cond_key, ↓one_key, ↓thenQ_normal, ↓thenQ_exit, ↓thenQ_ret, ↓blockQ_normal, ↓blockQ_exit, ↓blockQ_ret, ↓aops, ↓aopsD, ↓imp_tt, ↓imp_ff, ↓imp_tf, ↓imp_ft, ↓imp_tnt, ↓imp_tnf, ↓imp_fnt, ↓imp_fnf, look, setL, resQ, argSlots, buildSt, buildArr, intsOf, eqB, keepSl, bindM, bindP, opR, okIf, ok, bad, ev, ofConst, putS, updS, S.upd, dstOk, yieldD, yieldY, strBin, isShift, cellD, retQ, resD, stripO, convR, conv2R, makeR, indexR, indexAddrR, fieldAddrR, loadR, storeR, allocR, boxR, pickR, buildR, buildSliceR, lenR, nilCheckR, extractR, funcR, ipSlice, sliceR, appendR, callR, minR, maxR, S.box, S.tok, TK.sh, known, tsize, destI, ownTok, srcI, isIn, isSl, isSt, appendI, appendL, bnd, aggBin, nilD, isPtr, fieldOf, sized, enumS, seeR, seeL, hasB, flat, flats, List.foldl_nil, List.foldl_cons, Option.getD_some, Option.getD_none, if_true, if_false, reduceIte, reduceCtorEq, Nat.reduceEqDiff, Nat.reduceAdd, Nat.reduceMul, Nat.reduceLT, Nat.reduceSub, Nat.reduceLeDiff, true_and, and_true, List.map_cons, List.map_nil, List.size_toArray, List.length_cons, List.length_nil, Option.map_some, Option.map_none, Option.bind_some, true_implies, Bool.false_eq_true, Bool.true_eq_false, false_implies, Bool.not_true, Bool.not_false, List.getElem?_cons_zero, List.getElem?_cons_succ, implies_true, and_self, Bool.and_true, Bool.true_and, BEq.rfl, and_assoc, Option.isSome_some, Option.isSome_none, List.take_succ_cons, List.take_zero, List.set_cons_zero, List.set_cons_succ, List.forall_mem_cons, List.not_mem_nil, forall_const, List.range, List.range.loop, ne_eq, not_false_eq_true, not_true_eq_false, List.cons.injEq, Prod.mk.injEq, List.append_nil, List.nil_append, List.cons_append, false_and, and_false, Bool.false_and, Bool.and_false, Nat.reduceBNe, Nat.reduceBEq, beq_self_eq_true, bne_self_eq_false, Nat.reduceBeqDiff, Bool.or_false, Bool.false_or, Bool.or_true, Bool.true_or, vs0, vs1, vs2, vs3, vs4, tys, gl0, Tryd.ntmps64, Tryd.results64, PF.toR, givesIf, spec_refNumber, sp_refNumber, c_refNumber, b_refNumber]
  refine ⟨fun h => ?_, fun h => ?_⟩
  · have h := of_decide_eq_true h
    have hi64 : i < 64 := by omega
    obtain ⟨hl1, hl2⟩ := chRun_len st b ks hv.1 i
    refine ⟨by omega, by omega, by omega, by omega, by rw [hl1], by omega, by decide, by omega, ?_⟩
    refine drawI [0, 1, 2, 7, 8, 9, 10, 11] (by kernel_rfl) ?_
    simp (config := {dsimp := false}) only [↓a_range, ↓roundQ_normal, ↓roundQ_ret, ↓roundQ_exit, ↓a_skip, ↓a_exit, ↓a_ret, ↓a_seq, ↓a_cond, ↓a_block, ↓a_loop, ↓a_region, ↓a_draw, ↓a_region', ↓a_draw', ↓then_key, ↓with_key, ↓withY_key, ↓cond_key, ↓one_key, ↓thenQ_normal, ↓thenQ_exit, ↓thenQ_ret, ↓blockQ_normal, ↓blockQ_exit, ↓blockQ_ret, ↓aops, ↓aopsD, ↓imp_tt, ↓imp_ff, ↓imp_tf, ↓imp_ft, ↓imp_tnt, ↓imp_tnf, ↓imp_fnt, ↓imp_fnf, look, setL, resQ, argSlots, buildSt, buildArr, intsOf, eqB, keepSl, bindM, bindP, opR, okIf, ok, bad, ev, ofConst, putS, updS, S.upd, dstOk, yieldD, yieldY, strBin, isShift, cellD, retQ, resD, stripO, convR, conv2R, makeR, indexR, indexAddrR, fieldAddrR, loadR, storeR, allocR, boxR, pickR, buildR, buildSliceR, lenR, nilCheckR, extractR, funcR, ipSlice, sliceR, appendR, callR, minR, maxR, S.box, S.tok, TK.sh, known, tsize, destI, ownTok, srcI, isIn, isSl, isSt, appendI, appendL, bnd, aggBin, nilD, isPtr, fieldOf, sized, enumS, seeR, seeL, hasB, flat, flats, List.foldl_nil, List.foldl_cons, Option.getD_some, Option.getD_none, if_true, if_false, reduceIte, reduceCtorEq, Nat.reduceEqDiff, Nat.reduceAdd, Nat.reduceMul, Nat.reduceLT, Nat.reduceSub, Nat.reduceLeDiff, true_and, and_true, List.map_cons, List.map_nil, List.size_toArray, List.length_cons, List.length_nil, Option.map_some, Option.map_none, Option.bind_some, true_implies, Bool.false_eq_true, Bool.true_eq_false, false_implies, Bool.not_true, Bool.not_false, List.getElem?_cons_zero, List.getElem?_cons_succ, implies_true, and_self, Bool.and_true, Bool.true_and, BEq.rfl, and_assoc, Option.isSome_some, Option.isSome_none, List.take_succ_cons, List.take_zero, List.set_cons_zero, List.set_cons_succ, List.forall_mem_cons, List.not_mem_nil, forall_const, List.range, List.range.loop, ne_eq, not_false_eq_true, not_true_eq_false, List.cons.injEq, Prod.mk.injEq, List.append_nil, List.nil_append, List.cons_append, false_and, and_false, Bool.false_and, Bool.and_false, Nat.reduceBNe, Nat.reduceBEq, beq_self_eq_true, bne_self_eq_false, Nat.reduceBeqDiff, Bool.or_false, Bool.false_or, Bool.or_true, Bool.true_or, vs0, vs1, vs2, vs3, vs4, tys, gl0, Tryd.ntmps64, Tryd.results64, PF.toR, gives, givesIf, spec_three, sp_three, c_three, b_three, spec_Right, sp_Right, c_Right, b_Right]
    refine ⟨by omega, by omega, by omega, by omega, by omega, by omega, by omega, by omega, by omega, by omega, by omega, by omega, by omega, by omega, ?_⟩
    refine drawI [0, 1, 2, 7, 8, 9, 12] (by kernel_rfl) ?_
    simp (config := {dsimp := false}) only [↓a_range, ↓roundQ_normal, ↓roundQ_ret, ↓roundQ_exit, ↓a_skip, ↓a_exit, ↓a_ret, ↓a_seq, ↓a_cond, ↓a_block, ↓a_loop, ↓a_region, ↓a_draw, ↓a_region', ↓a_draw', ↓then_key, ↓with_key, ↓withY_key, ↓cond_key, ↓one_key, ↓thenQ_normal, ↓thenQ_exit, ↓thenQ_ret, ↓blockQ_normal, ↓blockQ_exit, ↓blockQ_ret, ↓aops, ↓aopsD, ↓imp_tt, ↓imp_ff, ↓imp_tf, ↓imp_ft, ↓imp_tnt, ↓imp_tnf, ↓imp_fnt, ↓imp_fnf, look, setL, resQ, argSlots, buildSt, buildArr, intsOf, eqB, keepSl, bindM, bindP, opR, okIf, ok, bad, ev, ofConst, putS, updS, S.upd, dstOk, yieldD, yieldY, strBin, isShift, cellD, retQ, resD, stripO, convR, conv2R, makeR, indexR, indexAddrR, fieldAddrR, loadR, storeR, allocR, boxR, pickR, buildR, buildSliceR, lenR, nilCheckR, extractR, funcR, ipSlice, sliceR, appendR, callR, minR, maxR, S.box, S.tok, TK.sh, known, tsize, destI, ownTok, srcI, isIn, isSl, isSt, appendI, appendL, bnd, aggBin, nilD, isPtr, fieldOf, sized, enumS, seeR, seeL, hasB, flat, flats, List.foldl_nil, List.foldl_cons, Option.getD_some, Option.getD_none, if_true, if_false, reduceIte, reduceCtorEq, Nat.reduceEqDiff, Nat.reduceAdd, Nat.reduceMul, Nat.reduceLT, Nat.reduceSub, Nat.reduceLeDiff, true_and, and_true, List.map_cons, List.map_nil, List.size_toArray, List.length_cons, List.length_nil, Option.map_some, Option.map_none, Option.bind_some, true_implies, Bool.false_eq_true, Bool.true_eq_false, false_implies, Bool.not_true, Bool.not_false, List.getElem?_cons_zero, List.getElem?_cons_succ, implies_true, and_self, Bool.and_true, Bool.true_and, BEq.rfl, and_assoc, Option.isSome_some, Option.isSome_none, List.take_succ_cons, List.take_zero, List.set_cons_zero, List.set_cons_succ, List.forall_mem_cons, List.not_mem_nil, forall_const, List.range, List.range.loop, ne_eq, not_false_eq_true, not_true_eq_false, List.cons.injEq, Prod.mk.injEq, List.append_nil, List.nil_append, List.cons_append, false_and, and_false, Bool.false_and, Bool.and_false, Nat.reduceBNe, Nat.reduceBEq, beq_self_eq_true, bne_self_eq_false, Nat.reduceBeqDiff, Bool.or_false, Bool.false_or, Bool.or_true, Bool.true_or, vs0, vs1, vs2, vs3, vs4, tys, gl0, Tryd.ntmps64, Tryd.results64, PF.toR, gives, givesIf, spec_three, sp_three, c_three, b_three, spec_Right, sp_Right, c_Right, b_Right]
    refine ⟨by omega, by omega, by omega, by omega, by omega, by omega, by omega, by omega, by omega, by omega, by omega, by omega, by omega, by omega, by omega, by omega, by omega, by omega, by omega, by omega, by omega, by omega, by omega, by omega, ?_⟩
    refine drawI [0, 1, 2, 7, 8, 9, 12, 13] (by kernel_rfl) ?_
    simp (config := {dsimp := false}) only [↓a_range, ↓roundQ_normal, ↓roundQ_ret, ↓roundQ_exit, ↓a_skip, ↓a_exit, ↓a_ret, ↓a_seq, ↓a_cond, ↓a_block, ↓a_loop, ↓a_region, ↓a_draw, ↓a_region', ↓a_draw', ↓then_key, ↓with_key, ↓withY_key, ↓cond_key, ↓one_key, ↓thenQ_normal, ↓thenQ_exit, ↓thenQ_ret, ↓blockQ_normal, ↓blockQ_exit, ↓blockQ_ret, ↓aops, ↓aopsD, ↓imp_tt, ↓imp_ff, ↓imp_tf, ↓imp_ft, ↓imp_tnt, ↓imp_tnf, ↓imp_fnt, ↓imp_fnf, look, setL, resQ, argSlots, buildSt, buildArr, intsOf, eqB, keepSl, bindM, bindP, opR, okIf, ok, bad, ev, ofConst, putS, updS, S.upd, dstOk, yieldD, yieldY, strBin, isShift, cellD, retQ, resD, stripO, convR, conv2R, makeR, indexR, indexAddrR, fieldAddrR, loadR, storeR, allocR, boxR, pickR, buildR, buildSliceR, lenR, nilCheckR, extractR, funcR, ipSlice, sliceR, appendR, callR, minR, maxR, S.box, S.tok, TK.sh, known, tsize, destI, ownTok, srcI, isIn, isSl, isSt, appendI, appendL, bnd, aggBin, nilD, isPtr, fieldOf, sized, enumS, seeR, seeL, hasB, flat, flats, List.foldl_nil, List.foldl_cons, Option.getD_some, Option.getD_none, if_true, if_false, reduceIte, reduceCtorEq, Nat.reduceEqDiff, Nat.reduceAdd, Nat.reduceMul, Nat.reduceLT, Nat.reduceSub, Nat.reduceLeDiff, true_and, and_true, List.map_cons, List.map_nil, List.size_toArray, List.length_cons, List.length_nil, Option.map_some, Option.map_none, Option.bind_some, true_implies, Bool.false_eq_true, Bool.true_eq_false, false_implies, Bool.not_true, Bool.not_false, List.getElem?_cons_zero, List.getElem?_cons_succ, implies_true, and_self, Bool.and_true, Bool.true_and, BEq.rfl, and_assoc, Option.isSome_some, Option.isSome_none, List.take_succ_cons, List.take_zero, List.set_cons_zero, List.set_cons_succ, List.forall_mem_cons, List.not_mem_nil, forall_const, List.range, List.range.loop, ne_eq, not_false_eq_true, not_true_eq_false, List.cons.injEq, Prod.mk.injEq, List.append_nil, List.nil_append, List.cons_append, false_and, and_false, Bool.false_and, Bool.and_false, Nat.reduceBNe, Nat.reduceBEq, beq_self_eq_true, bne_self_eq_false, Nat.reduceBeqDiff, Bool.or_false, Bool.false_or, Bool.or_true, Bool.true_or, vs0, vs1, vs2, vs3, vs4, tys, gl0, Tryd.ntmps64, Tryd.results64]
    refine ⟨by omega, by omega, by omega, by omega, by omega, by omega, by omega, by omega, by omega, by omega, by omega, by omega, by simp; omega, by kernel_rfl, ?_⟩
    refine ⟨⟨i + 1, by omega⟩, ⟨⟨wkD_eq rfl, rfl, wkD_eq rfl, rfl, wkD_eq rfl, rfl, wkD_eq rfl, rfl, .inr ⟨_, rfl⟩, rfl, wkD_eq ?_, rfl, trivial⟩, trivial, ⟨?_, Nat.le_of_ble_eq_true rfl, trivial⟩⟩, by simp only; omega⟩
    · exact congrArg (fun x => some (D.int .i64 x)) (IntWalk.i64_in ((i : Int) + 1) (by omega))
    · exact congrArg (fun x => some (x, 1)) (by simp [hl1])
  · have h := of_decide_eq_false h
    obtain rfl : i = 64 := by omega
    refine loopA [(14, some .u32, 0)] ?_
    simp only [adopt, look, reduceIte, Nat.reduceEqDiff, if_false, setL, Nat.reduceAdd]
    refine ⟨Fin 9, fun i => [(14, .sli (.tok 40) .u32 ((changeI st b ks).take i.1)), (0, .sli .no .u32 st), (8, .sli .no .u32 (chRun st b ks 64).2), (15, .int .i64 (i.1 : Int))], fun i => ⟨[], [(40, (i.1, 1))], 44⟩, fun i => 8 - i.1, 0, fun _ => rfl, ?_, ?_⟩
    · exact ⟨⟨wkD_eq rfl, rfl, wkD_eq rfl, rfl, wkD_eq rfl, rfl, wkD_eq rfl, rfl, trivial⟩, trivial, ⟨rfl, Nat.le_of_ble_eq_true rfl, trivial⟩⟩
    rintro ⟨i, hi⟩
    simp (config := {dsimp := false}) only [↓a_range, ↓roundQ_normal, ↓roundQ_ret, ↓roundQ_exit, ↓a_skip, ↓a_exit, ↓a_ret, ↓a_seq, ↓a_cond, ↓a_block, ↓a_loop, ↓a_region, ↓a_draw, ↓a_region', ↓a_draw', ↓then_key, ↓with_key, ↓withY_key, ↓cond_key, ↓one_key, ↓thenQ_normal, ↓thenQ_exit, ↓thenQ_ret, ↓blockQ_normal, ↓blockQ_exit, ↓blockQ_ret, ↓aops, ↓aopsD, ↓imp_tt, ↓imp_ff, ↓imp_tf, ↓imp_ft, ↓imp_tnt, ↓imp_tnf, ↓imp_fnt, ↓imp_fnf, look, setL, resQ, argSlots, buildSt, buildArr, intsOf, eqB, keepSl, bindM, bindP, opR, okIf, ok, bad, ev, ofConst, putS, updS, S.upd, dstOk, yieldD, yieldY, strBin, isShift, cellD, retQ, resD, stripO, convR, conv2R, makeR, indexR, indexAddrR, fieldAddrR, loadR, storeR, allocR, boxR, pickR, buildR, buildSliceR, lenR, nilCheckR, extractR, funcR, ipSlice, sliceR, appendR, callR, minR, maxR, S.box, S.tok, TK.sh, known, tsize, destI, ownTok, srcI, isIn, isSl, isSt, appendI, appendL, bnd, aggBin, nilD, isPtr, fieldOf, sized, enumS, seeR, seeL, hasB, flat, flats, List.foldl_nil, List.foldl_cons, Option.getD_some, Option.getD_none, if_true, if_false, reduceIte, reduceCtorEq, Nat.reduceEqDiff, Nat.reduceAdd, Nat.reduceMul, Nat.reduceLT, Nat.reduceSub, Nat.reduceLeDiff, true_and, and_true, List.map_cons, List.map_nil, List.size_toArray, List.length_cons, List.length_nil, Option.map_some, Option.map_none, Option.bind_some, true_implies, Bool.false_eq_true, Bool.true_eq_false, false_implies, Bool.not_true, Bool.not_false, List.getElem?_cons_zero, List.getElem?_cons_succ, implies_true, and_self, Bool.and_true, Bool.true_and, BEq.rfl, and_assoc, Option.isSome_some, Option.isSome_none, List.take_succ_cons, List.take_zero, List.set_cons_zero, List.set_cons_succ, List.forall_mem_cons, List.not_mem_nil, forall_const, List.range, List.range.loop, ne_eq, not_false_eq_true, not_true_eq_false, List.cons.injEq, Prod.mk.injEq, List.append_nil, List.nil_append, List.cons_append, false_and, and_false, Bool.false_and, Bool.and_false, Nat.reduceBNe, Nat.reduceBEq, beq_self_eq_true, bne_self_eq_false, Nat.reduceBeqDiff, Bool.or_false, Bool.false_or, Bool.or_true, Bool.true_or, vs0, vs1, vs2, vs3, vs4, tys, gl0, Tryd.ntmps64, Tryd.results64]
    have hl2 := (chRun_len st b ks hv.1 64).2
    have hcl : (changeI st b ks).length = 8 := by simp [changeI]
    refine ⟨fun h => ?_, fun h => ?_⟩
    · have h := of_decide_eq_true h
      refine drawI [0, 8, 14, 15] (by kernel_rfl) ?_
      simp (config := {dsimp := false}) only [↓a_range, ↓roundQ_normal, ↓roundQ_ret, ↓roundQ_exit, ↓a_skip, ↓a_exit, ↓a_ret, ↓a_seq, ↓a_cond, ↓a_block, ↓a_loop, ↓a_region, ↓a_draw, ↓a_region', ↓a_draw', ↓then_key, ↓with_key, ↓withY_key, ↓cond_key, ↓one_key, ↓thenQ_normal, ↓thenQ_exit, ↓thenQ_ret, ↓blockQ_normal, ↓blockQ_exit, ↓blockQ_ret, ↓aops, ↓aopsD, ↓imp_tt, ↓imp_ff, ↓imp_tf, ↓imp_ft, ↓imp_tnt, ↓imp_tnf, ↓imp_fnt, ↓imp_fnf, look, setL, resQ, argSlots, buildSt, buildArr, intsOf, eqB, keepSl, bindM, bindP, opR, okIf, ok, bad, ev, ofConst, putS, updS, S.upd, dstOk, yieldD, yieldY, strBin, isShift, cellD, retQ, resD, stripO, convR, conv2R, makeR, indexR, indexAddrR, fieldAddrR, loadR, storeR, allocR, boxR, pickR, buildR, buildSliceR, lenR, nilCheckR, extractR, funcR, ipSlice, sliceR, appendR, callR, minR, maxR, S.box, S.tok, TK.sh, known, tsize, destI, ownTok, srcI, isIn, isSl, isSt, appendI, appendL, bnd, aggBin, nilD, isPtr, fieldOf, sized, enumS, seeR, seeL, hasB, flat, flats, List.foldl_nil, List.foldl_cons, Option.getD_some, Option.getD_none, if_true, if_false, reduceIte, reduceCtorEq, Nat.reduceEqDiff, Nat.reduceAdd, Nat.reduceMul, Nat.reduceLT, Nat.reduceSub, Nat.reduceLeDiff, true_and, and_true, List.map_cons, List.map_nil, List.size_toArray, List.length_cons, List.length_nil, Option.map_some, Option.map_none, Option.bind_some, true_implies, Bool.false_eq_true, Bool.true_eq_false, false_implies, Bool.not_true, Bool.not_false, List.getElem?_cons_zero, List.getElem?_cons_succ, implies_true, and_self, Bool.and_true, Bool.true_and, BEq.rfl, and_assoc, Option.isSome_some, Option.isSome_none, List.take_succ_cons, List.take_zero, List.set_cons_zero, List.set_cons_succ, List.forall_mem_cons, List.not_mem_nil, forall_const, List.range, List.range.loop, ne_eq, not_false_eq_true, not_true_eq_false, List.cons.injEq, Prod.mk.injEq, List.append_nil, List.nil_append, List.cons_append, false_and, and_false, Bool.false_and, Bool.and_false, Nat.reduceBNe, Nat.reduceBEq, beq_self_eq_true, bne_self_eq_false, Nat.reduceBeqDiff, Bool.or_false, Bool.false_or, Bool.or_true, Bool.true_or, vs0, vs1, vs2, vs3, vs4, tys, gl0, Tryd.ntmps64, Tryd.results64]
      have hlt : ((changeI st b ks).take i).length = i := by simp; omega
      refine ⟨by omega, by omega, by omega, by omega, by rw [hlt], by omega, by kernel_rfl, ⟨i + 1, by omega⟩, ⟨⟨wkD_eq ?_, rfl, wkD_eq rfl, rfl, wkD_eq rfl, rfl, wkD_eq ?_, rfl, trivial⟩, trivial, ⟨?_, Nat.le_of_ble_eq_true rfl, trivial⟩⟩, by simp only; omega⟩
      · refine congrArg (fun x => some (D.sli (.tok 40) .u32 x)) ?_
        have : i < (changeI st b ks).length := by omega
        rw [List.take_add_one, List.getElem?_eq_getElem this]
        simp [changeI, a32]
      · exact congrArg (fun x => some (D.int .i64 x)) (IntWalk.i64_in ((i : Int) + 1) (by omega))
      · exact congrArg (fun x => some (x, 1)) (by rw [hlt])
    · have h := of_decide_eq_false h
      obtain rfl : i = 8 := by omega
      rw [List.take_of_length_le (by omega)]
      rfl
end Go.Vi.C8
end

section
set_option linter.unusedVariables false
set_option linter.unusedSimpArgs false
set_option maxHeartbeats 0
set_option maxRecDepth 20000
namespace Go.Vi.C8
open Go.Proofs

theorem changeI_len (s b k : List Int) : (changeI s b k).length = 8 := by simp [changeI]
theorem refBlocks_len (k all : List Int) (s : List Int) (h : s.length = 8) : ∀ i, (refBlocks k all i s).length = 8
  | 0 => h
  | i + 1 => changeI_len _ _ _
theorem refPadded_len (b : List Int) (h : b.length < 1000000000) : ∃ m, (refPadded b).length = 64 * m ∧ m < 16000000 := by
  have := refSize_len b.length 8
  refine ⟨(refPadded b).length / 64, ?_, ?_⟩ <;> simp [refPadded, this] <;> unfold pad <;> omega
theorem outBytes_len (s : List Int) : (outBytes s).length = 32 := by simp [outBytes]
theorem c_refSum : Contract E 51 := by
  refine contract_see hE hgl (show E.P.funcs[51]? = some Tryd.f51 from Tryd.func51) rfl (p := sp_refSum) (fun _ _ _ => rfl) ?_
  intro args hv
  unfold sp_refSum at hv ⊢
  split at hv
  case h_2 => exact hv.elim
  rename_i b
  refine ⟨by simp, Nat.le_of_ble_eq_true rfl, ?_⟩
  simp (config := {dsimp := false}) only [↓a_range, ↓roundQ_normal, ↓roundQ_ret, ↓roundQ_exit, ↓a_skip, ↓a_exit, ↓a_ret, ↓a_seq, ↓a_cond, ↓a_block, ↓a_loop, ↓a_region, ↓a_draw, ↓a_region', ↓a_draw', ↓then_key, ↓with_key, ↓withY_key, ↓cond_key, ↓one_key, ↓thenQ_normal, ↓thenQ_exit, ↓thenQ_ret, ↓blockQ_normal, ↓blockQ_exit, ↓blockQ_ret, ↓aops, ↓aopsD, ↓imp_tt, ↓imp_ff, ↓imp_tf, ↓imp_ft, ↓imp_tnt, ↓imp_tnf, ↓imp_fnt, ↓imp_fnf, look, setL, resQ, argSlots, buildSt, buildArr, intsOf, eqB, keepSl, bindM, bindP, opR, okIf, ok, bad, ev, ofConst, putS, updS, S.upd, dstOk, yieldD, yieldY, strBin, isShift, cellD, retQ, resD, stripO, convR, conv2R, makeR, indexR, indexAddrR, fieldAddrR, loadR, storeR, allocR, boxR, pickR, buildR, buildSliceR, lenR, nilCheckR, extractR, funcR, ipSlice, sliceR, appendR, callR, minR, maxR, S.box, S.tok, TK.sh, known, tsize, destI, ownTok, srcI, isIn, isSl, isSt, appendI, appendL, bnd, aggBin, nilD, isPtr, fieldOf, sized, enumS, seeR, seeL, hasB, flat, flats, List.foldl_nil, List.foldl_cons, Option.getD_some, Option.getD_none, if_true, if_false, reduceIte, reduceCtorEq, Nat.reduceEqDiff, Nat.reduceAdd, Nat.reduceMul, Nat.reduceLT, Nat.reduceSub, Nat.reduceLeDiff, true_and, and_true, List.map_cons, List.map_nil, List.size_toArray, List.length_cons, List.length_nil, Option.map_some, Option.map_none, Option.bind_some, true_implies, Bool.false_eq_true, Bool.true_eq_false, false_implies, Bool.not_true, Bool.not_false, List.getElem?_cons_zero, List.getElem?_cons_succ, implies_true, and_self, Bool.and_true, Bool.true_and, BEq.rfl, and_assoc, Option.isSome_some, Option.isSome_none, List.take_succ_cons, List.take_zero, List.set_cons_zero, List.set_cons_succ, List.forall_mem_cons, List.not_mem_nil, forall_const, List.range, List.range.loop, ne_eq, not_false_eq_true, not_true_eq_false, List.cons.injEq, Prod.mk.injEq, List.append_nil, List.nil_append, List.cons_append, false_and, and_false, Bool.false_and, Bool.and_false, Nat.reduceBNe, Nat.reduceBEq, beq_self_eq_true, bne_self_eq_false, Nat.reduceBeqDiff, Bool.or_false, Bool.false_or, Bool.or_true, Bool.true_or, vs0, vs1, vs2, vs3, vs4, tys, gl0, Tryd.ntmps51, Tryd.results51, PF.toR, gives, givesIf, spec_refClosing, sp_refClosing, c_refClosing, b_refClosing, spec_refRoundNumbers, sp_refRoundNumbers, c_refRoundNumbers, b_refRoundNumbers, spec_refFirst, sp_refFirst, c_refFirst, b_refFirst]
  simp only [givesIf] at hv ⊢
  obtain ⟨m, hm, hm2⟩ := refPadded_len b hv
  have hpl : b.length + (refPadded b).length < 3000000000 := by omega
  have hpd : b ++ 128 :: (List.replicate (pad b.length) 0 ++ (refSize b.length 8).1) = refPadded b := by simp [refPadded]
  have hlen : b.length + ((List.replicate (pad ↑b.length) (0 : Int) ++ (refSize (↑b.length) 8).fst).length + 1) = (refPadded b).length := by rw [← hpd]; simp
  refine ⟨by omega, by omega, by omega, by simp, by rw [hlen]; omega, ?_⟩
  rw [hpd, hlen]
  refine loopI (Fin (m + 1)) (fun i => [(6, .int .i64 (64 * (i.1 : Int))), (3, .sli (.tok 16) .u8 (refPadded b)), (4, .sli .full .u32 kList), (5, .sli .no .u32 (refBlocks kList (refPadded b) i.1 h0)), (2, .bp 0 0)]) (fun _ => ⟨[(0, .arr .u8 32 (List.replicate 32 0))], [(16, ((refPadded b).length, 1))], 68⟩) (fun i => m - i.1) 0 (fun _ => rfl) ?_ ?_
  · exact ⟨⟨wkD_eq rfl, rfl, wkD_eq rfl, rfl, wkD_eq rfl, rfl, .inr ⟨_, rfl⟩, rfl, wkD_eq rfl, rfl, trivial⟩, ⟨rfl, Nat.le_of_ble_eq_true rfl, rfl, trivial⟩, ⟨rfl, Nat.le_of_ble_eq_true rfl, trivial⟩⟩
  rintro ⟨i, hi⟩
  simp (config := {dsimp := false}) only [↓a_range, ↓roundQ_normal, ↓roundQ_ret, ↓roundQ_exit, ↓a_skip, ↓a_exit, ↓a_ret, ↓a_seq, ↓a_cond, ↓a_block, ↓a_loop, ↓a_region, ↓a_draw, ↓a_region', ↓a_draw', ↓then_key, ↓with_key, ↓withY_key, ↓cond_key, ↓one_key, ↓thenQ_normal, ↓thenQ_exit, ↓thenQ_ret, ↓blockQ_normal, ↓blockQ_exit, ↓blockQ_ret, ↓aops, ↓aopsD, ↓imp_tt, ↓imp_ff, ↓imp_tf, ↓imp_ft, ↓imp_tnt, ↓imp_tnf, ↓imp_fnt, ↓imp_fnf, look, setL, resQ, argSlots, buildSt, buildArr, intsOf, eqB, keepSl, bindM, bindP, opR, okIf, ok, bad, ev, ofConst, putS, updS, S.upd, dstOk, yieldD, yieldY, strBin, isShift, cellD, retQ, resD, stripO, convR, conv2R, makeR, indexR, indexAddrR, fieldAddrR, loadR, storeR, allocR, boxR, pickR, buildR, buildSliceR, lenR, nilCheckR, extractR, funcR, ipSlice, sliceR, appendR, callR, minR, maxR, S.box, S.tok, TK.sh, known, tsize, destI, ownTok, srcI, isIn, isSl, isSt, appendI, appendL, bnd, aggBin, nilD, isPtr, fieldOf, sized, enumS, seeR, seeL, hasB, flat, flats, List.foldl_nil, List.foldl_cons, Option.getD_some, Option.getD_none, if_true, if_false, reduceIte, reduceCtorEq, Nat.reduceEqDiff, Nat.reduceAdd, Nat.reduceMul, Nat.reduceLT, Nat.reduceSub, Nat.reduceLeDiff, true_and, and_true, List.map_cons, List.map_nil, List.size_toArray, List.length_cons, List.length_nil, Option.map_some, Option.map_none, Option.bind_some, true_implies, Bool.false_eq_true, Bool.true_eq_false, false_implies, Bool.not_true, Bool.not_false, List.getElem?_cons_zero, List.getElem?_cons_succ, implies_true, and_self, Bool.and_true, Bool.true_and, BEq.rfl, and_assoc, Option.isSome_some, Option.isSome_none, List.take_succ_cons, List.take_zero, List.set_cons_zero, List.set_cons_succ, List.forall_mem_cons, List.not_mem_nil, forall_const, List.range, List.range.loop, ne_eq, not_false_eq_true, not_true_eq_false, List.cons.injEq, Prod.mk.injEq, List.append_nil, List.nil_append, List.cons_append, false_and, and_false, Bool.false_and, Bool.and_false, Nat.reduceBNe, Nat.reduceBEq, beq_self_eq_true, bne_self_eq_false, Nat.reduceBeqDiff, Bool.or_false, Bool.false_or, Bool.or_true, Bool.true_or, vs0, vs1, vs2, vs3, vs4, tys, gl0, Tryd.ntmps51, Tryd.results51, PF.toR, gives, givesIf, spec_refChange, sp_refChange, c_refChange, b_refChange]
  have hbl := refBlocks_len kList (refPadded b) h0 rfl i
  refine ⟨fun h => ?_, fun h => ?_⟩
  · have h := of_decide_eq_true h
    have e1 : IntKind.wrap .i64 (64 * (i : Int) + 64) = 64 * i + 64 := IntWalk.i64_in _ (by omega)
    have e2 : (64 * (i : Int) + 64).toNat = 64 * i + 64 := by omega
    have e3 : (64 * (i : Int)).toNat = 64 * i := by omega
    rw [e1, e2, e3]
    have hd : 64 ≤ (List.drop (64 * i) (List.take (64 * i + 64) (refPadded b))).length := by simp; omega
    refine ⟨by omega, by omega, by omega, Int.le_refl _, hbl, hd, rfl, ⟨i + 1, by omega⟩, ⟨⟨wkD_eq ?_, rfl, wkD_eq rfl, rfl, wkD_eq rfl, rfl, wkD_eq rfl, rfl, wkD_eq rfl, rfl, trivial⟩, ⟨rfl, Nat.le_of_ble_eq_true rfl, rfl, trivial⟩, ⟨rfl, Nat.le_of_ble_eq_true rfl, trivial⟩⟩, by (try simp only); omega⟩
    exact some_int (by simp only; omega)
  · have h := of_decide_eq_false h
    obtain rfl : i = m := by omega
    generalize hst : refBlocks kList (refPadded b) i h0 = st at hbl ⊢
    refine loopI (Fin 33) (fun j => [(8, .int .i64 (j.1 : Int)), (7, .bp 84 0), (5, .sli .no .u32 st), (2, .bp 0 0)]) (fun j => ⟨[(0, .arr .u8 32 (List.replicate 32 0)), (84, .arr .u8 32 ((outBytes st).take j.1 ++ List.replicate (32 - j.1) 0))], [], 92⟩) (fun j => 32 - j.1) 0 (fun _ => rfl) ?_ ?_
    · exact ⟨⟨wkD_eq rfl, rfl, wkD_eq rfl, rfl, wkD_eq rfl, rfl, wkD_eq rfl, rfl, trivial⟩, ⟨rfl, Nat.le_of_ble_eq_true rfl, rfl, rfl, Nat.le_of_ble_eq_true rfl, rfl, trivial⟩, trivial⟩
    rintro ⟨j, hj⟩
    simp (config := {dsimp := false}) only [↓a_range, ↓roundQ_normal, ↓roundQ_ret, ↓roundQ_exit, ↓a_skip, ↓a_exit, ↓a_ret, ↓a_seq, ↓a_cond, ↓a_block, ↓a_loop, ↓a_region, ↓a_draw, ↓a_region', ↓a_draw', ↓then_key, ↓with_key, ↓withY_key, ↓cond_key, ↓one_key, ↓thenQ_normal, ↓thenQ_exit, ↓thenQ_ret, ↓blockQ_normal, ↓blockQ_exit, ↓blockQ_ret, ↓aops, ↓aopsD, ↓imp_tt, ↓imp_ff, ↓imp_tf, ↓imp_ft, ↓imp_tnt, ↓imp_tnf, ↓imp_fnt, ↓imp_fnf, look, setL, resQ, argSlots, buildSt, buildArr, intsOf, eqB, keepSl, bindM, bindP, opR, okIf, ok, bad, ev, ofConst, putS, updS, S.upd, dstOk, yieldD, yieldY, strBin, isShift, cellD, retQ, resD, stripO, convR, conv2R, makeR, indexR, indexAddrR, fieldAddrR, loadR, storeR, allocR, boxR, pickR, buildR, buildSliceR, lenR, nilCheckR, extractR, funcR, ipSlice, sliceR, appendR, callR, minR, maxR, S.box, S.tok, TK.sh, known, tsize, destI, ownTok, srcI, isIn, isSl, isSt, appendI, appendL, bnd, aggBin, nilD, isPtr, fieldOf, sized, enumS, seeR, seeL, hasB, flat, flats, List.foldl_nil, List.foldl_cons, Option.getD_some, Option.getD_none, if_true, if_false, reduceIte, reduceCtorEq, Nat.reduceEqDiff, Nat.reduceAdd, Nat.reduceMul, Nat.reduceLT, Nat.reduceSub, Nat.reduceLeDiff, true_and, and_true, List.map_cons, List.map_nil, List.size_toArray, List.length_cons, List.length_nil, Option.map_some, Option.map_none, Option.bind_some, true_implies, Bool.false_eq_true, Bool.true_eq_false, false_implies, Bool.not_true, Bool.not_false, List.getElem?_cons_zero, List.getElem?_cons_succ, implies_true, and_self, Bool.and_true, Bool.true_and, BEq.rfl, and_assoc, Option.isSome_some, Option.isSome_none, List.take_succ_cons, List.take_zero, List.set_cons_zero, List.set_cons_succ, List.forall_mem_cons, List.not_mem_nil, forall_const, List.range, List.range.loop, ne_eq, not_false_eq_true, not_true_eq_false, List.cons.injEq, Prod.mk.injEq, List.append_nil, List.nil_append, List.cons_append, false_and, and_false, Bool.false_and, Bool.and_false, Nat.reduceBNe, Nat.reduceBEq, beq_self_eq_true, bne_self_eq_false, Nat.reduceBeqDiff, Bool.or_false, Bool.false_or, Bool.or_true, Bool.true_or, vs0, vs1, vs2, vs3, vs4, tys, gl0, Tryd.ntmps51, Tryd.results51]
    refine ⟨fun h => ?_, fun h => ?_⟩
    · have h := of_decide_eq_true h
      have e4 : IntKind.wrap .i64 ((j : Int).tdiv 4) = j / 4 := by rw [Int.tdiv_eq_ediv_of_nonneg (by omega), IntWalk.i64_in _ (by omega)]
      have e5 : (j : Int).tmod 4 = ((j % 4 : Nat) : Int) := by rw [Int.tmod_eq_emod_of_nonneg (by omega)]; omega
      have e6 : ((j : Int) / 4).toNat = j / 4 := by omega
      rw [e4, e5, e6]
      refine ⟨by decide, by omega, by omega, by decide, ?_⟩
      refine loopI (Fin (4 - j % 4)) (fun k => [(10, .int .i64 (j % 4 + (k.1 : Int))), (9, .int .u32 (iterI (fun x => IntKind.wrap .u32 (x.tdiv 256)) k.1 (st.getD (j / 4) 0))), (8, .int .i64 (j : Int)), (7, .bp 84 0), (5, .sli .no .u32 st), (2, .bp 0 0)]) (fun _ => ⟨[(0, .arr .u8 32 (List.replicate 32 0)), (84, .arr .u8 32 ((outBytes st).take j ++ List.replicate (32 - j) 0))], [], 136⟩) (fun k => 4 - k.1) ⟨0, by omega⟩ (fun _ => rfl) ?_ ?_
      · refine ⟨⟨wkD_eq ?_, rfl, wkD_eq rfl, rfl, wkD_eq rfl, rfl, wkD_eq rfl, rfl, wkD_eq rfl, rfl, wkD_eq rfl, rfl, trivial⟩, ⟨rfl, Nat.le_of_ble_eq_true rfl, rfl, rfl, Nat.le_of_ble_eq_true rfl, rfl, trivial⟩, trivial⟩
        exact some_int (by simp)
      rintro ⟨k, hk⟩
      simp (config := {dsimp := false}) only [↓a_range, ↓roundQ_normal, ↓roundQ_ret, ↓roundQ_exit, ↓a_skip, ↓a_exit, ↓a_ret, ↓a_seq, ↓a_cond, ↓a_block, ↓a_loop, ↓a_region, ↓a_draw, ↓a_region', ↓a_draw', ↓then_key, ↓with_key, ↓withY_key, ↓cond_key, ↓one_key, ↓thenQ_normal, ↓thenQ_exit, ↓thenQ_ret, ↓blockQ_normal, ↓blockQ_exit, ↓blockQ_ret, ↓aops, ↓aopsD, ↓imp_tt, ↓imp_ff, ↓imp_tf, ↓imp_ft, ↓imp_tnt, ↓imp_tnf, ↓imp_fnt, ↓imp_fnf, look, setL, resQ, argSlots, buildSt, buildArr, intsOf, eqB, keepSl, bindM, bindP, opR, okIf, ok, bad, ev, ofConst, putS, updS, S.upd, dstOk, yieldD, yieldY, strBin, isShift, cellD, retQ, resD, stripO, convR, conv2R, makeR, indexR, indexAddrR, fieldAddrR, loadR, storeR, allocR, boxR, pickR, buildR, buildSliceR, lenR, nilCheckR, extractR, funcR, ipSlice, sliceR, appendR, callR, minR, maxR, S.box, S.tok, TK.sh, known, tsize, destI, ownTok, srcI, isIn, isSl, isSt, appendI, appendL, bnd, aggBin, nilD, isPtr, fieldOf, sized, enumS, seeR, seeL, hasB, flat, flats, List.foldl_nil, List.foldl_cons, Option.getD_some, Option.getD_none, if_true, if_false, reduceIte, reduceCtorEq, Nat.reduceEqDiff, Nat.reduceAdd, Nat.reduceMul, Nat.reduceLT, Nat.reduceSub, Nat.reduceLeDiff, true_and, and_true, List.map_cons, List.map_nil, List.size_toArray, List.length_cons, List.length_nil, Option.map_some, Option.map_none, Option.bind_some, true_implies, Bool.false_eq_true, Bool.true_eq_false, false_implies, Bool.not_true, Bool.not_false, List.getElem?_cons_zero, List.getElem?_cons_succ, implies_true, and_self, Bool.and_true, Bool.true_and, BEq.rfl, and_assoc, Option.isSome_some, Option.isSome_none, List.take_succ_cons, List.take_zero, List.set_cons_zero, List.set_cons_succ, List.forall_mem_cons, List.not_mem_nil, forall_const, List.range, List.range.loop, ne_eq, not_false_eq_true, not_true_eq_false, List.cons.injEq, Prod.mk.injEq, List.append_nil, List.nil_append, List.cons_append, false_and, and_false, Bool.false_and, Bool.and_false, Nat.reduceBNe, Nat.reduceBEq, beq_self_eq_true, bne_self_eq_false, Nat.reduceBeqDiff, Bool.or_false, Bool.false_or, Bool.or_true, Bool.true_or, vs0, vs1, vs2, vs3, vs4, tys, gl0, Tryd.ntmps51, Tryd.results51]
      refine ⟨fun h => ?_, fun h => ?_⟩
      · have h := of_decide_eq_true h
        refine ⟨by decide, ⟨k + 1, by omega⟩, ⟨⟨wkD_eq ?_, rfl, wkD_eq rfl, rfl, wkD_eq rfl, rfl, wkD_eq rfl, rfl, wkD_eq rfl, rfl, wkD_eq rfl, rfl, trivial⟩, ⟨rfl, Nat.le_of_ble_eq_true rfl, rfl, rfl, Nat.le_of_ble_eq_true rfl, rfl, trivial⟩, trivial⟩, by (try simp only); omega⟩
        exact some_i64 (by (try simp only); omega)
      · have h := of_decide_eq_false h
        obtain rfl : k = 3 - j % 4 := by omega
        refine ⟨by decide, by omega, by omega, ⟨j + 1, by omega⟩, ⟨⟨wkD_eq ?_, rfl, wkD_eq rfl, rfl, wkD_eq rfl, rfl, wkD_eq rfl, rfl, trivial⟩, ⟨rfl, Nat.le_of_ble_eq_true rfl, rfl, ?_, Nat.le_of_ble_eq_true rfl, rfl, trivial⟩, trivial⟩, by (try simp only); omega⟩
        · exact some_i64 (by (try simp only); omega)
        · refine some_arr ?_
          have hol := outBytes_len st
          have hj' : j < 32 := by omega
          have ht : ((outBytes st).take j).length = j := by simp; omega
          rw [show ((j : Int)).toNat = j from rfl, List.set_append_right _ _ (by omega), ht, Nat.sub_self, show 32 - j = (32 - (j + 1)) + 1 by omega, List.replicate_succ, List.set_cons_zero, List.take_add_one, List.getElem?_eq_getElem (by omega)]
          simp [outBytes]
    · have h := of_decide_eq_false h
      obtain rfl : j = 32 := by omega
      have hol := outBytes_len st
      rw [List.take_of_length_le (by omega)]
      subst hst
      have : (refPadded b).length / 64 = i := by omega
      simp [refSumI, this]
theorem c_refTwice : Contract E 43 := by
  refine contract_see hE hgl (show E.P.funcs[43]? = some Tryd.f43 from Tryd.func43) rfl (p := sp_refTwice) (fun _ _ _ => rfl) ?_
  intro args hv
  unfold sp_refTwice at hv ⊢
  split at hv
  case h_2 => exact hv.elim
  rename_i b
  refine ⟨by simp, Nat.le_of_ble_eq_true rfl, ?_⟩
  simp only [givesIf] at hv
  simp (config := {dsimp := false}) only [↓a_range, ↓roundQ_normal, ↓roundQ_ret, ↓roundQ_exit, ↓a_skip, ↓a_exit, ↓a_ret, ↓a_seq, ↓a_cond, ↓a_block, ↓a_loop, ↓a_region, ↓a_draw, ↓a_region', ↓a_draw', ↓then_key, ↓with_key, ↓withY_key, ↓cond_key, ↓one_key, ↓thenQ_normal, ↓thenQ_exit, ↓thenQ_ret, ↓blockQ_normal, ↓blockQ_exit, ↓blockQ_ret, ↓aops, ↓aopsD, ↓imp_tt, ↓imp_ff, ↓imp_tf, ↓imp_ft, ↓imp_tnt, ↓imp_tnf, ↓imp_fnt, ↓imp_fnf, look, setL, resQ, argSlots, buildSt, buildArr, intsOf, eqB, keepSl, bindM, bindP, opR, okIf, ok, bad, ev, ofConst, putS, updS, S.upd, dstOk, yieldD, yieldY, strBin, isShift, cellD, retQ, resD, stripO, convR, conv2R, makeR, indexR, indexAddrR, fieldAddrR, loadR, storeR, allocR, boxR, pickR, buildR, buildSliceR, lenR, nilCheckR, extractR, funcR, ipSlice, sliceR, appendR, callR, minR, maxR, S.box, S.tok, TK.sh, known, tsize, destI, ownTok, srcI, isIn, isSl, isSt, appendI, appendL, bnd, aggBin, nilD, isPtr, fieldOf, sized, enumS, seeR, seeL, hasB, flat, flats, List.foldl_nil, List.foldl_cons, Option.getD_some, Option.getD_none, if_true, if_false, reduceIte, reduceCtorEq, Nat.reduceEqDiff, Nat.reduceAdd, Nat.reduceMul, Nat.reduceLT, Nat.reduceSub, Nat.reduceLeDiff, true_and, and_true, List.map_cons, List.map_nil, List.size_toArray, List.length_cons, List.length_nil, Option.map_some, Option.map_none, Option.bind_some, true_implies, Bool.false_eq_true, Bool.true_eq_false, false_implies, Bool.not_true, Bool.not_false, List.getElem?_cons_zero, List.getElem?_cons_succ, implies_true, and_self, Bool.and_true, Bool.true_and, BEq.rfl, and_assoc, Option.isSome_some, Option.isSome_none, List.take_succ_cons, List.take_zero, List.set_cons_zero, List.set_cons_succ, List.forall_mem_cons, List.not_mem_nil, forall_const, List.range, List.range.loop, ne_eq, not_false_eq_true, not_true_eq_false, List.cons.injEq, Prod.mk.injEq, List.append_nil, List.nil_append, List.cons_append, false_and, and_false, Bool.false_and, Bool.and_false, Nat.reduceBNe, Nat.reduceBEq, beq_self_eq_true, bne_self_eq_false, Nat.reduceBeqDiff, Bool.or_false, Bool.false_or, Bool.or_true, Bool.true_or, vs0, vs1, vs2, vs3, vs4, tys, gl0, Tryd.ntmps43, Tryd.results43, PF.toR, gives, givesIf, spec_refSum, sp_refSum, c_refSum, b_refSum]
  refine ⟨hv, ?_⟩
  have hl : (refSumI b).length = 32 := outBytes_len _
  refine loopA [(4, some .u8, 0)] ?_
  simp only [adopt, look, reduceIte, Nat.reduceEqDiff, if_false, setL, Nat.reduceAdd]
  refine ⟨Fin 33, fun i => [(4, .sli (.tok 28) .u8 ((refSumI b).take i.1)), (5, .int .i64 (i.1 : Int)), (3, .bp 12 0), (2, .bp 0 0)], fun i => ⟨[(0, .arr .u8 32 (List.replicate 32 0)), (12, .arr .u8 32 (refSumI b))], [(28, (i.1, 1))], 32⟩, fun i => 32 - i.1, 0, fun _ => rfl, ⟨⟨wkD_eq rfl, rfl, wkD_eq rfl, rfl, wkD_eq rfl, rfl, wkD_eq rfl, rfl, trivial⟩, ⟨rfl, Nat.le_of_ble_eq_true rfl, rfl, rfl, Nat.le_of_ble_eq_true rfl, rfl, trivial⟩, ⟨rfl, Nat.le_of_ble_eq_true rfl, trivial⟩⟩, ?_⟩
  rintro ⟨i, hi⟩
  simp (config := {dsimp := false}) only [↓a_range, ↓roundQ_normal, ↓roundQ_ret, ↓roundQ_exit, ↓a_skip, ↓a_exit, ↓a_ret, ↓a_seq, ↓a_cond, ↓a_block, ↓a_loop, ↓a_region, ↓a_draw, ↓a_region', ↓a_draw', ↓then_key, ↓with_key, ↓withY_key, ↓cond_key, ↓one_key, ↓thenQ_normal, ↓thenQ_exit, ↓thenQ_ret, ↓blockQ_normal, ↓blockQ_exit, ↓blockQ_ret, ↓aops, ↓aopsD, ↓imp_tt, ↓imp_ff, ↓imp_tf, ↓imp_ft, ↓imp_tnt, ↓imp_tnf, ↓imp_fnt, ↓imp_fnf, look, setL, resQ, argSlots, buildSt, buildArr, intsOf, eqB, keepSl, bindM, bindP, opR, okIf, ok, bad, ev, ofConst, putS, updS, S.upd, dstOk, yieldD, yieldY, strBin, isShift, cellD, retQ, resD, stripO, convR, conv2R, makeR, indexR, indexAddrR, fieldAddrR, loadR, storeR, allocR, boxR, pickR, buildR, buildSliceR, lenR, nilCheckR, extractR, funcR, ipSlice, sliceR, appendR, callR, minR, maxR, S.box, S.tok, TK.sh, known, tsize, destI, ownTok, srcI, isIn, isSl, isSt, appendI, appendL, bnd, aggBin, nilD, isPtr, fieldOf, sized, enumS, seeR, seeL, hasB, flat, flats, List.foldl_nil, List.foldl_cons, Option.getD_some, Option.getD_none, if_true, if_false, reduceIte, reduceCtorEq, Nat.reduceEqDiff, Nat.reduceAdd, Nat.reduceMul, Nat.reduceLT, Nat.reduceSub, Nat.reduceLeDiff, true_and, and_true, List.map_cons, List.map_nil, List.size_toArray, List.length_cons, List.length_nil, Option.map_some, Option.map_none, Option.bind_some, true_implies, Bool.false_eq_true, Bool.true_eq_false, false_implies, Bool.not_true, Bool.not_false, List.getElem?_cons_zero, List.getElem?_cons_succ, implies_true, and_self, Bool.and_true, Bool.true_and, BEq.rfl, and_assoc, Option.isSome_some, Option.isSome_none, List.take_succ_cons, List.take_zero, List.set_cons_zero, List.set_cons_succ, List.forall_mem_cons, List.not_mem_nil, forall_const, List.range, List.range.loop, ne_eq, not_false_eq_true, not_true_eq_false, List.cons.injEq, Prod.mk.injEq, List.append_nil, List.nil_append, List.cons_append, false_and, and_false, Bool.false_and, Bool.and_false, Nat.reduceBNe, Nat.reduceBEq, beq_self_eq_true, bne_self_eq_false, Nat.reduceBeqDiff, Bool.or_false, Bool.false_or, Bool.or_true, Bool.true_or, vs0, vs1, vs2, vs3, vs4, tys, gl0, Tryd.ntmps43, Tryd.results43, PF.toR, gives, givesIf, spec_refSum, sp_refSum, c_refSum, b_refSum]
  have hti : ((refSumI b).take i).length = i := by simp; omega
  refine ⟨fun hh => ?_, fun hh => ?_⟩
  · have hh := of_decide_eq_true hh
    rw [hti]
    refine ⟨by omega, by omega, rfl, by omega, ⟨i + 1, by omega⟩, ⟨⟨wkD_eq ?_, rfl, wkD_eq ?_, rfl, wkD_eq rfl, rfl, wkD_eq rfl, rfl, trivial⟩, ⟨rfl, Nat.le_of_ble_eq_true rfl, rfl, rfl, Nat.le_of_ble_eq_true rfl, rfl, trivial⟩, ⟨?_, Nat.le_of_ble_eq_true rfl, trivial⟩⟩, by (try simp only); omega⟩
    · refine some_sli ?_
      rw [List.take_add_one, List.getElem?_eq_getElem (by omega)]
      simp [List.getD, List.getElem?_eq_getElem (show i < (refSumI b).length by omega)]
    · exact some_i64 (by (try simp only); omega)
    · rfl
  · have hh := of_decide_eq_false hh
    obtain rfl : i = 32 := by omega
    rw [List.take_of_length_le (by omega)]
    first | exact ⟨by omega, rfl⟩ | (rw [outBytes_len]; omega) | trace_state
theorem refTextI_len (h : List Int) : (refTextI h).length = 64 := by simp [refTextI]
theorem refTextI_at (h : List Int) (i : Nat) (hi : i < 64) : (refTextI h)[i]? = some (hexOf (if i % 2 = 1 then (h.getD (i / 2) 0).tmod 16 else IntKind.wrap .u8 ((h.getD (i / 2) 0).tdiv 16))) := by
  simp only [refTextI, List.getElem?_map, List.getElem?_range hi, Option.map_some]
theorem byteAt_range (s : ByteArray) (k : Int) : 0 ≤ byteAt s k ∧ byteAt s k < 256 := by
  unfold byteAt
  split
  · rename_i b _
    have := b.toNat_lt
    omega
  · omega
theorem refOf_none {s : ByteArray} {i : Nat} (h : refOfP s i = none) : ∀ j, i ≤ j → refOfP s j = none := by
  intro j hj
  induction j with
  | zero => obtain rfl : i = 0 := by omega
            exact h
  | succ j ih =>
    by_cases e : i = j + 1
    · subst e; exact h
    · simp only [refOfP, ih (by omega)]
theorem hexVal_le (c : Int) : hexVal c ≤ 15 ∧ -1 ≤ hexVal c := by
  unfold hexVal
  split
  · omega
  · split <;> omega
theorem of_none {s : ByteArray} {i : Nat} (h : ofP s i = none) : ∀ j, i ≤ j → ofP s j = none := by
  intro j hj
  induction j with
  | zero => obtain rfl : i = 0 := by omega
            exact h
  | succ j ih =>
    by_cases e : i = j + 1
    · subst e; exact h
    · simp only [ofP, ih (by omega)]
end Go.Vi.C8
end

section
/-
  A LAST HASH ONCE MORE; two lists with one root.
-/
set_option linter.unusedVariables false
namespace Go.Vi

theorem rootP_above {l : L2} (h : 1 < l.length) : rootP l = rootP (aboveP l) := by
  have h1 : l ≠ [] := by intro e; subst e; simp at h
  have h2 : aboveP l ≠ [] := by
    intro e
    have := above_len l
    rw [e] at this
    simp at this
    omega
  rw [rootP, if_neg h1, rootP, if_neg h2, dep_gt h, above_len, Nat.add_comm, rowAt_succ]
theorem pairsTo_succ (l : L2) : ∀ k, pairsTo l (k + 1) = pairsOf l ++ pairsTo (aboveP l) k
  | 0 => by simp [pairsTo, rowAt]
  | k + 1 => by
    rw [pairsTo, pairsTo_succ l k, rowAt_succ]
    simp only [pairsTo, List.append_assoc]
theorem allP_above {l : L2} (h : 1 < l.length) : allP l = pairsOf l ++ allP (aboveP l) := by
  rw [allP, dep_gt h, Nat.add_comm, pairsTo_succ, allP, above_len]
theorem mut_foldl : ∀ (xs : List Pr) (m : Bool), xs.foldl mutS m = (m || xs.any fun p => !p.2.2 && decide (p.1 = p.2.1))
  | [], m => by simp
  | p :: r, m => by simp only [List.foldl_cons, mut_foldl r, mutS, List.any_cons, Bool.or_assoc]
theorem mutP_eq (xs : List Pr) : mutP xs = xs.any fun p => !p.2.2 && decide (p.1 = p.2.1) := by rw [mutP, mut_foldl, Bool.false_or]
theorem mutP_append (xs ys : List Pr) : mutP (xs ++ ys) = (mutP xs || mutP ys) := by simp [mutP_eq]
theorem mutP_above {l : L2} (h : 1 < l.length) : mutP (allP l) = (mutP (pairsOf l) || mutP (allP (aboveP l))) := by rw [allP_above h, mutP_append]

theorem getD_left (l : L2) (x : L2) (i : Nat) (h : i < l.length) : (l ++ x).getD i [] = l.getD i [] := by simp [List.getD, List.getElem?_append_left h]
theorem pairAt_left (l x : L2) (i : Nat) (h : 2 * i + 2 ≤ l.length) : pairAt (l ++ x) i = pairAt l i := by
  simp only [pairAt, List.length_append]
  rw [if_pos (by omega), if_pos h, getD_left _ _ _ (by omega), getD_left _ _ _ (by omega)]
  simp [h]
  omega
/-- The last of an odd row, once more. -/
theorem above_odd {l : L2} {k : Nat} (hl : l.length = 2 * k + 1) : aboveP (l ++ [l.getD (2 * k) []]) = aboveP l ∧ mutP (pairsOf (l ++ [l.getD (2 * k) []])) = true := by
  have e1 : ((l ++ [l.getD (2 * k) []]).length + 1) / 2 = k + 1 := by simp; omega
  have e2 : (l.length + 1) / 2 = k + 1 := by omega
  have p1 : pairAt (l ++ [l.getD (2 * k) []]) k = (l.getD (2 * k) [], l.getD (2 * k) [], false) := by
    simp only [pairAt, List.length_append, List.length_singleton]
    rw [if_pos (by omega), getD_left _ _ _ (by omega)]
    have : (l ++ [l.getD (2 * k) []]).getD (2 * k + 1) [] = l.getD (2 * k) [] := by simp [List.getD, hl]
    rw [this]
    simp
    omega
  have p2 : pairAt l k = (l.getD (2 * k) [], l.getD (2 * k) [], true) := by
    simp only [pairAt]
    rw [if_neg (by omega)]
    simp
    omega
  constructor
  · unfold aboveP pairsOf
    rw [e1, e2, List.range_succ]
    simp only [List.map_append, List.map_cons, List.map_nil, p1, p2]
    congr 1
    simp only [List.map_map]
    apply List.map_congr_left
    intro i hi
    simp only [List.mem_range] at hi
    simp only [Function.comp, pairAt_left l _ i (by omega)]
  · rw [mutP_eq, List.any_eq_true]
    refine ⟨pairAt (l ++ [l.getD (2 * k) []]) k, ?_, by rw [p1]; simp⟩
    unfold pairsOf
    rw [e1]
    exact List.mem_map_of_mem (by simp)
theorem twice_odd {l : L2} {k : Nat} (hk : 1 ≤ k) (hl : l.length = 2 * k + 1) : rootP (l ++ [l.getD (2 * k) []]) = rootP l ∧ mutP (allP (l ++ [l.getD (2 * k) []])) = true := by
  obtain ⟨h1, h2⟩ := above_odd hl
  refine ⟨?_, ?_⟩
  · rw [rootP_above (by simp; omega), h1, ← rootP_above (by omega)]
  · rw [mutP_above (by simp; omega), h2, Bool.true_or]
theorem twice_two {l : L2} {k : Nat} (hk : 1 ≤ k) (hl : l.length = 4 * k + 2) : rootP (l ++ [l.getD (4 * k) [], l.getD (4 * k + 1) []]) = rootP l ∧ mutP (allP (l ++ [l.getD (4 * k) [], l.getD (4 * k + 1) []])) = true := by
  have e1 : ((l ++ [l.getD (4 * k) [], l.getD (4 * k + 1) []]).length + 1) / 2 = 2 * k + 2 := by simp; omega
  have e2 : (l.length + 1) / 2 = 2 * k + 1 := by omega
  have p2 : pairAt l (2 * k) = (l.getD (4 * k) [], l.getD (4 * k + 1) [], false) := by
    simp only [pairAt]
    rw [if_pos (by omega), show 2 * (2 * k) = 4 * k by omega]
    simp
    omega
  have p1 : pairAt (l ++ [l.getD (4 * k) [], l.getD (4 * k + 1) []]) (2 * k + 1) = (l.getD (4 * k) [], l.getD (4 * k + 1) [], false) := by
    simp only [pairAt, List.length_append, List.length_cons, List.length_nil]
    rw [if_pos (by omega), show 2 * (2 * k + 1) = l.length by omega]
    have h1 : ∀ a b : List Int, (l ++ [a, b]).getD l.length [] = a := by intro a b; simp [List.getD]
    have h2 : ∀ a b : List Int, (l ++ [a, b]).getD (l.length + 1) [] = b := by intro a b; simp [List.getD]
    rw [h1, h2]
    simp
  have ha : aboveP (l ++ [l.getD (4 * k) [], l.getD (4 * k + 1) []]) = aboveP l ++ [(aboveP l).getD (2 * k) []] := by
    have hl2 : aboveP l = (List.range (2 * k)).map (fun i => joinP (pairAt l i)) ++ [H2 (l.getD (4 * k) []) (l.getD (4 * k + 1) [])] := by
      unfold aboveP pairsOf
      rw [e2, List.range_succ]
      simp only [List.map_append, List.map_cons, List.map_nil, p2, List.map_map]
      rfl
    have hg : (aboveP l).getD (2 * k) [] = H2 (l.getD (4 * k) []) (l.getD (4 * k + 1) []) := by
      rw [hl2]
      simp [List.getD]
    rw [hg]
    conv => rhs; rw [hl2]
    unfold aboveP pairsOf
    rw [e1, List.range_succ, List.range_succ]
    simp only [List.map_append, List.map_cons, List.map_nil, p1, List.map_map, pairAt_left l _ (2 * k) (by omega), p2]
    congr 2
    apply List.map_congr_left
    intro i hi
    simp only [List.mem_range] at hi
    simp only [Function.comp, pairAt_left l _ i (by omega)]
  have := twice_odd (l := aboveP l) hk (by rw [above_len]; omega)
  refine ⟨?_, ?_⟩
  · rw [rootP_above (by simp), ha, this.1, ← rootP_above (by omega)]
  · rw [mutP_above (by simp), ha, this.2, Bool.or_true]

theorem apart : ∀ (n : Nat) (a b : L2), a.length = n → b.length = n → h32 a → h32 b → rootP a = rootP b → a ≠ b → ∃ p ∈ allP a, ∃ q ∈ allP b, textOf p ≠ textOf q ∧ joinP p = joinP q := by
  intro n
  induction n using Nat.strongRecOn with
  | _ n ih =>
    intro a b ha hb h1 h2 hr hne
    rcases Nat.lt_or_ge 1 n with hn | hn
    · by_cases he : aboveP a = aboveP b
      · obtain ⟨j, hj, hd⟩ : ∃ j, j < n ∧ a.getD j [] ≠ b.getD j [] := by
          apply Classical.byContradiction
          intro hno
          apply hne
          apply List.ext_getElem (by omega)
          intro j k1 k2
          apply Classical.byContradiction
          intro h3
          exact hno ⟨j, by omega, by simpa [List.getD, k1, k2] using h3⟩
        have hi : j / 2 < (n + 1) / 2 := by omega
        have mp : pairAt a (j / 2) ∈ allP a := by
          rw [allP_above (by omega)]
          exact List.mem_append_left _ (List.mem_map_of_mem (by rw [ha]; simpa using hi))
        have mq : pairAt b (j / 2) ∈ allP b := by
          rw [allP_above (by omega)]
          exact List.mem_append_left _ (List.mem_map_of_mem (by rw [hb]; simpa using hi))
        refine ⟨_, mp, _, mq, fun e => hd ?_, ?_⟩
        · have l1 : (pairAt a (j / 2)).1.length = (pairAt b (j / 2)).1.length := by
            simp only [pairAt]
            rw [h1 _ (getD_mem (by omega)), h2 _ (getD_mem (by omega))]
          obtain ⟨e1, e2⟩ := List.append_inj e l1
          simp only [pairAt] at e1 e2
          rcases Nat.mod_two_eq_zero_or_one j with h | h
          · rwa [show 2 * (j / 2) = j by omega] at e1
          · rw [if_pos (by omega), if_pos (by omega)] at e2
            rwa [show 2 * (j / 2) + 1 = j by omega] at e2
        · have := congrArg (fun l => l.getD (j / 2) []) he
          simp only [aboveP, pairsOf, List.map_map, ha, hb] at this
          simpa [List.getD, hi] using this
      · obtain ⟨p, hp, q, hq, h3⟩ := ih ((n + 1) / 2) (by omega) (aboveP a) (aboveP b) (by rw [above_len, ha]) (by rw [above_len, hb]) (row_h32 h1 1) (row_h32 h2 1) (by rw [← rootP_above (by omega), ← rootP_above (by omega)]; exact hr) he
        exact ⟨p, by rw [allP_above (by omega)]; exact List.mem_append_right _ hp, q, by rw [allP_above (by omega)]; exact List.mem_append_right _ hq, h3⟩
    · exfalso
      match a, b, ha, hb with
      | [], [], _, _ => exact hne rfl
      | [], _ :: _, e1, e2 => simp at e1 e2; omega
      | _ :: _, [], e1, e2 => simp at e1 e2; omega
      | [x], [y], _, _ =>
        apply hne
        have e1 : ∀ z : List Int, rootP [z] = z := fun z => by rw [rootP, if_neg (by simp), show ([z] : L2).length = 1 from rfl, dep_le (by omega)]; rfl
        rw [e1, e1] at hr
        rw [hr]
      | _ :: _ :: _, _, e1, _ => simp at e1; omega
      | _, _ :: _ :: _, _, e2 => simp at e2; omega
theorem row_bytes {l : L2} (h : ∀ x ∈ l, bytes x) : ∀ k, ∀ x ∈ rowAt l k, bytes x
  | 0 => h
  | k + 1 => fun x hx => by
    obtain ⟨p, _, rfl⟩ := List.mem_map.1 hx
    exact bytes_sum _
theorem pair_ok {l : L2} (h1 : h32 l) (h2 : ∀ x ∈ l, bytes x) {p : Pr} (hp : p ∈ pairsOf l) : (p.1.length = 32 ∧ p.2.1.length = 32) ∧ bytes p.1 ∧ bytes p.2.1 := by
  obtain ⟨i, hi, rfl⟩ := List.mem_map.1 hp
  simp only [List.mem_range] at hi
  have hm := getD_mem (l := l) (i := 2 * i) (by omega)
  simp only [pairAt]
  split
  · have hm2 := getD_mem (l := l) (i := 2 * i + 1) (by omega)
    exact ⟨⟨h1 _ hm, h1 _ hm2⟩, h2 _ hm, h2 _ hm2⟩
  · exact ⟨⟨h1 _ hm, h1 _ hm⟩, h2 _ hm, h2 _ hm⟩
theorem all_ok {l : L2} (h1 : h32 l) (h2 : ∀ x ∈ l, bytes x) {p : Pr} (hp : p ∈ allP l) : (p.1.length = 32 ∧ p.2.1.length = 32) ∧ bytes p.1 ∧ bytes p.2.1 := by
  have key : ∀ k, p ∈ pairsTo l k → (p.1.length = 32 ∧ p.2.1.length = 32) ∧ bytes p.1 ∧ bytes p.2.1 := by
    intro k
    induction k with
    | zero => intro h; simp [pairsTo] at h
    | succ k ih =>
      intro h
      rcases List.mem_append.1 h with h | h
      · exact ih h
      · exact pair_ok (row_h32 h1 k) (row_bytes h2 k) h
  exact key _ hp
theorem text_ok {l : L2} (h1 : h32 l) (h2 : ∀ x ∈ l, bytes x) : ∀ x ∈ (allP l).map textOf, x.length < 1000000 ∧ bytes x := by
  intro x hx
  obtain ⟨p, hp, rfl⟩ := List.mem_map.1 hx
  obtain ⟨⟨e1, e2⟩, e3, e4⟩ := all_ok h1 h2 hp
  exact ⟨by simp [textOf, e1, e2], bytes_append e3 e4⟩
theorem all_len {l : L2} (h : l.length ≤ 1000) : ((allP l).map textOf).length < 1000000 := by
  rw [List.length_map]
  have := pairsTo_len l (by omega) (dep l.length) (Nat.le_refl _)
  rcases Nat.lt_or_ge l.length 1 with h1 | h1
  · rw [dep_le (by omega)] at this; unfold allP; rw [dep_le (by omega)]; omega
  · have := dep_lt l.length h1
    unfold allP
    omega
theorem clash_of {a b : L2} (h : ∃ p ∈ allP a, ∃ q ∈ allP b, textOf p ≠ textOf q ∧ joinP p = joinP q) : clashP ((allP a).map textOf) ((allP b).map textOf) = true := by
  obtain ⟨p, hp, q, hq, h1, h2⟩ := h
  unfold clashP
  rw [List.any_eq_true]
  refine ⟨_, List.mem_map_of_mem hp, ?_⟩
  rw [List.any_eq_true]
  refine ⟨_, List.mem_map_of_mem hq, ?_⟩
  rw [decide_eq_false h1, decide_eq_true (show sumP (sumP (textOf p)) = sumP (sumP (textOf q)) from h2)]
  rfl
end Go.Vi
end

section
set_option linter.unusedVariables false
set_option linter.unusedSimpArgs false
set_option maxHeartbeats 0
set_option maxRecDepth 20000
namespace Go.Vi.C8
open Go.Proofs

theorem arrs_eq_nil {l : L2} (e : arrs l = []) : l.length = 0 := by
  have := congrArg List.length e
  rwa [arrs_length] at this
theorem slis_eq_nil {l : L2} (e : slis l = []) : l.length = 0 := by
  have := congrArg List.length e
  rwa [slis_length] at this
theorem partner_pair (l : L2) (i : Nat) (h : 2 * i < l.length) : partnerP l (2 * i) = (pairAt l i).2.1 ∧ (pairAt l i).1 = l.getD (2 * i) [] := by
  refine ⟨?_, rfl⟩
  unfold partnerP pairAt
  rw [if_neg (show ¬ 2 * i % 2 = 1 by omega)]
  by_cases h2 : 2 * i + 2 ≤ l.length
  · rw [if_neg (by omega)]; simp [h2]
  · rw [if_pos (by omega)]; simp [h2]
theorem above_get (l : L2) (i : Nat) (h : i < (l.length + 1) / 2) : (aboveP l).getD i [] = joinP (pairAt l i) := by
  simp [aboveP, pairsOf, List.getD, h]
theorem w2i {i : Nat} (h : i < 100000) : IntKind.wrap .i64 (2 * (i : Int) + 2) = 2 * ((i + 1 : Nat) : Int) := by rw [IntWalk.i64_in _ (by omega)]; omega
theorem bare_sli (k : IntKind) (xs : List Int) : (D.sli .no k xs).bare = D.sli .no k xs := rfl
theorem c_refPartner : Contract E 38 := by
  refine contract_see hE hgl (show E.P.funcs[38]? = some Tryd.f38 from Tryd.func38) rfl (p := sp_refPartner) (fun _ _ _ => rfl) ?_
  intro args hv
  unfold sp_refPartner at hv ⊢
  split at hv
  case h_2 => exact hv.elim
  rename_i es i
  refine ⟨by simp, Nat.le_of_ble_eq_true rfl, ?_⟩
  simp only [givesIf] at hv
  obtain ⟨⟨l, rfl, hl⟩, hlen, h0, h1⟩ := hv
  obtain ⟨n, rfl⟩ : ∃ n : Nat, i = (n : Int) := ⟨i.toNat, by omega⟩
  simp only [arrs_length] at hlen h1
  have w1 : IntKind.wrap .i64 ((n : Int) + 1) = ((n + 1 : Nat) : Int) := w64' (by omega) (by omega)
  rcases Nat.mod_two_eq_zero_or_one n with hm | hm
  · have c1 : decide ((n : Int).tmod 2 = 1) = false := by rw [Int.tmod_eq_emod_of_nonneg (by omega)]; simp; omega
    by_cases h2 : n + 1 < l.length
    · have c2 : decide (((n + 1 : Nat) : Int) ≥ (l.length : Int)) = false := decide_eq_false (by omega)
      have g := arrs_get l (n + 1) (by omega)
      have hp : partnerP l n = l.getD (n + 1) [] := by unfold partnerP; rw [if_neg (show ¬ n % 2 = 1 by omega), if_neg (by omega)]
      simp (config := {dsimp := false}) only [↓a_range, ↓roundQ_normal, ↓roundQ_ret, ↓roundQ_exit, ↓a_skip, ↓a_exit, ↓a_ret, ↓a_seq, ↓a_cond, ↓a_block, ↓a_loop, ↓a_region, ↓a_draw, ↓a_region', ↓a_draw', ↓then_key, ↓with_key, ↓withY_key, ↓cond_key, ↓one_key, ↓thenQ_normal, ↓thenQ_exit, ↓thenQ_ret, ↓blockQ_normal, ↓blockQ_exit, ↓blockQ_ret, ↓aops, ↓aopsD, ↓imp_tt, ↓imp_ff, ↓imp_tf, ↓imp_ft, ↓imp_tnt, ↓imp_tnf, ↓imp_fnt, ↓imp_fnf, look, setL, resQ, argSlots, buildSt, buildArr, intsOf, eqB, keepSl, bindM, bindP, opR, okIf, ok, bad, ev, ofConst, putS, updS, S.upd, dstOk, yieldD, yieldY, strBin, isShift, cellD, retQ, resD, stripO, convR, conv2R, makeR, indexR, indexAddrR, fieldAddrR, loadR, storeR, allocR, boxR, pickR, buildR, buildSliceR, lenR, nilCheckR, extractR, funcR, ipSlice, sliceR, appendR, callR, minR, maxR, S.box, S.tok, TK.sh, known, tsize, destI, ownTok, srcI, isIn, isSl, isSt, appendI, appendL, bnd, aggBin, nilD, isPtr, fieldOf, sized, enumS, seeR, seeL, hasB, flat, flats, List.foldl_nil, List.foldl_cons, Option.getD_some, Option.getD_none, if_true, if_false, reduceIte, reduceCtorEq, Nat.reduceEqDiff, Nat.reduceAdd, Nat.reduceMul, Nat.reduceLT, Nat.reduceSub, Nat.reduceLeDiff, true_and, and_true, List.map_cons, List.map_nil, List.size_toArray, List.length_cons, List.length_nil, Option.map_some, Option.map_none, Option.bind_some, true_implies, Bool.false_eq_true, Bool.true_eq_false, false_implies, Bool.not_true, Bool.not_false, List.getElem?_cons_zero, List.getElem?_cons_succ, implies_true, and_self, Bool.and_true, Bool.true_and, BEq.rfl, and_assoc, Option.isSome_some, Option.isSome_none, List.take_succ_cons, List.take_zero, List.set_cons_zero, List.set_cons_succ, List.forall_mem_cons, List.not_mem_nil, forall_const, List.range, List.range.loop, ne_eq, not_false_eq_true, not_true_eq_false, List.cons.injEq, Prod.mk.injEq, List.append_nil, List.nil_append, List.cons_append, false_and, and_false, Bool.false_and, Bool.and_false, Nat.reduceBNe, Nat.reduceBEq, beq_self_eq_true, bne_self_eq_false, Nat.reduceBeqDiff, Bool.or_false, Bool.false_or, Bool.or_true, Bool.true_or, vs0, vs1, vs2, vs3, vs4, tys, gl0, Tryd.ntmps38, Tryd.results38, arrs_length, w1, c1, c2, g, Int.toNat_natCast]
      rw [hs_arrs, hp]
      exact ⟨by decide, by omega, by omega, rfl⟩
    · have c2 : decide (((n + 1 : Nat) : Int) ≥ (l.length : Int)) = true := decide_eq_true (by omega)
      have g := arrs_get l n (by omega)
      have hp : partnerP l n = l.getD n [] := by unfold partnerP; rw [if_neg (show ¬ n % 2 = 1 by omega), if_pos (by omega)]
      simp (config := {dsimp := false}) only [↓a_range, ↓roundQ_normal, ↓roundQ_ret, ↓roundQ_exit, ↓a_skip, ↓a_exit, ↓a_ret, ↓a_seq, ↓a_cond, ↓a_block, ↓a_loop, ↓a_region, ↓a_draw, ↓a_region', ↓a_draw', ↓then_key, ↓with_key, ↓withY_key, ↓cond_key, ↓one_key, ↓thenQ_normal, ↓thenQ_exit, ↓thenQ_ret, ↓blockQ_normal, ↓blockQ_exit, ↓blockQ_ret, ↓aops, ↓aopsD, ↓imp_tt, ↓imp_ff, ↓imp_tf, ↓imp_ft, ↓imp_tnt, ↓imp_tnf, ↓imp_fnt, ↓imp_fnf, look, setL, resQ, argSlots, buildSt, buildArr, intsOf, eqB, keepSl, bindM, bindP, opR, okIf, ok, bad, ev, ofConst, putS, updS, S.upd, dstOk, yieldD, yieldY, strBin, isShift, cellD, retQ, resD, stripO, convR, conv2R, makeR, indexR, indexAddrR, fieldAddrR, loadR, storeR, allocR, boxR, pickR, buildR, buildSliceR, lenR, nilCheckR, extractR, funcR, ipSlice, sliceR, appendR, callR, minR, maxR, S.box, S.tok, TK.sh, known, tsize, destI, ownTok, srcI, isIn, isSl, isSt, appendI, appendL, bnd, aggBin, nilD, isPtr, fieldOf, sized, enumS, seeR, seeL, hasB, flat, flats, List.foldl_nil, List.foldl_cons, Option.getD_some, Option.getD_none, if_true, if_false, reduceIte, reduceCtorEq, Nat.reduceEqDiff, Nat.reduceAdd, Nat.reduceMul, Nat.reduceLT, Nat.reduceSub, Nat.reduceLeDiff, true_and, and_true, List.map_cons, List.map_nil, List.size_toArray, List.length_cons, List.length_nil, Option.map_some, Option.map_none, Option.bind_some, true_implies, Bool.false_eq_true, Bool.true_eq_false, false_implies, Bool.not_true, Bool.not_false, List.getElem?_cons_zero, List.getElem?_cons_succ, implies_true, and_self, Bool.and_true, Bool.true_and, BEq.rfl, and_assoc, Option.isSome_some, Option.isSome_none, List.take_succ_cons, List.take_zero, List.set_cons_zero, List.set_cons_succ, List.forall_mem_cons, List.not_mem_nil, forall_const, List.range, List.range.loop, ne_eq, not_false_eq_true, not_true_eq_false, List.cons.injEq, Prod.mk.injEq, List.append_nil, List.nil_append, List.cons_append, false_and, and_false, Bool.false_and, Bool.and_false, Nat.reduceBNe, Nat.reduceBEq, beq_self_eq_true, bne_self_eq_false, Nat.reduceBeqDiff, Bool.or_false, Bool.false_or, Bool.or_true, Bool.true_or, vs0, vs1, vs2, vs3, vs4, tys, gl0, Tryd.ntmps38, Tryd.results38, arrs_length, w1, c1, c2, g, Int.toNat_natCast]
      rw [hs_arrs, hp]
      exact ⟨by decide, by omega, by omega, rfl⟩
  · have c1 : decide ((n : Int).tmod 2 = 1) = true := by rw [Int.tmod_eq_emod_of_nonneg (by omega)]; simp; omega
    have w2 : IntKind.wrap .i64 ((n : Int) - 1) = ((n - 1 : Nat) : Int) := w64' (by omega) (by omega)
    have c2 : decide (((n - 1 : Nat) : Int) ≥ (l.length : Int)) = false := decide_eq_false (by omega)
    have g := arrs_get l (n - 1) (by omega)
    have hp : partnerP l n = l.getD (n - 1) [] := by unfold partnerP; rw [if_pos hm, if_neg (by omega)]
    simp (config := {dsimp := false}) only [↓a_range, ↓roundQ_normal, ↓roundQ_ret, ↓roundQ_exit, ↓a_skip, ↓a_exit, ↓a_ret, ↓a_seq, ↓a_cond, ↓a_block, ↓a_loop, ↓a_region, ↓a_draw, ↓a_region', ↓a_draw', ↓then_key, ↓with_key, ↓withY_key, ↓cond_key, ↓one_key, ↓thenQ_normal, ↓thenQ_exit, ↓thenQ_ret, ↓blockQ_normal, ↓blockQ_exit, ↓blockQ_ret, ↓aops, ↓aopsD, ↓imp_tt, ↓imp_ff, ↓imp_tf, ↓imp_ft, ↓imp_tnt, ↓imp_tnf, ↓imp_fnt, ↓imp_fnf, look, setL, resQ, argSlots, buildSt, buildArr, intsOf, eqB, keepSl, bindM, bindP, opR, okIf, ok, bad, ev, ofConst, putS, updS, S.upd, dstOk, yieldD, yieldY, strBin, isShift, cellD, retQ, resD, stripO, convR, conv2R, makeR, indexR, indexAddrR, fieldAddrR, loadR, storeR, allocR, boxR, pickR, buildR, buildSliceR, lenR, nilCheckR, extractR, funcR, ipSlice, sliceR, appendR, callR, minR, maxR, S.box, S.tok, TK.sh, known, tsize, destI, ownTok, srcI, isIn, isSl, isSt, appendI, appendL, bnd, aggBin, nilD, isPtr, fieldOf, sized, enumS, seeR, seeL, hasB, flat, flats, List.foldl_nil, List.foldl_cons, Option.getD_some, Option.getD_none, if_true, if_false, reduceIte, reduceCtorEq, Nat.reduceEqDiff, Nat.reduceAdd, Nat.reduceMul, Nat.reduceLT, Nat.reduceSub, Nat.reduceLeDiff, true_and, and_true, List.map_cons, List.map_nil, List.size_toArray, List.length_cons, List.length_nil, Option.map_some, Option.map_none, Option.bind_some, true_implies, Bool.false_eq_true, Bool.true_eq_false, false_implies, Bool.not_true, Bool.not_false, List.getElem?_cons_zero, List.getElem?_cons_succ, implies_true, and_self, Bool.and_true, Bool.true_and, BEq.rfl, and_assoc, Option.isSome_some, Option.isSome_none, List.take_succ_cons, List.take_zero, List.set_cons_zero, List.set_cons_succ, List.forall_mem_cons, List.not_mem_nil, forall_const, List.range, List.range.loop, ne_eq, not_false_eq_true, not_true_eq_false, List.cons.injEq, Prod.mk.injEq, List.append_nil, List.nil_append, List.cons_append, false_and, and_false, Bool.false_and, Bool.and_false, Nat.reduceBNe, Nat.reduceBEq, beq_self_eq_true, bne_self_eq_false, Nat.reduceBeqDiff, Bool.or_false, Bool.false_or, Bool.or_true, Bool.true_or, vs0, vs1, vs2, vs3, vs4, tys, gl0, Tryd.ntmps38, Tryd.results38, arrs_length, w1, w2, c1, c2, g, Int.toNat_natCast]
    rw [hs_arrs, hp]
    exact ⟨by decide, by omega, by omega, rfl⟩
theorem take_snoc {α : Type} (l : List α) (i : Nat) (h : i < l.length) (d : α) : l.take i ++ [l.getD i d] = l.take (i + 1) := by
  rw [List.take_add_one]
  simp [List.getD, h]
theorem c_refMText : Contract E 37 := by
  refine contract_see hE hgl (show E.P.funcs[37]? = some Tryd.f37 from Tryd.func37) rfl (p := sp_refMText) (fun _ _ _ => rfl) ?_
  intro args hv
  unfold sp_refMText at hv ⊢
  split at hv
  case h_2 => exact hv.elim
  rename_i a b
  refine ⟨by simp, Nat.le_of_ble_eq_true rfl, ?_⟩
  simp only [givesIf] at hv
  obtain ⟨ha, hb⟩ := hv
  simp (config := {dsimp := false}) only [↓a_range, ↓roundQ_normal, ↓roundQ_ret, ↓roundQ_exit, ↓a_skip, ↓a_exit, ↓a_ret, ↓a_seq, ↓a_cond, ↓a_block, ↓a_loop, ↓a_region, ↓a_draw, ↓a_region', ↓a_draw', ↓then_key, ↓with_key, ↓withY_key, ↓cond_key, ↓one_key, ↓thenQ_normal, ↓thenQ_exit, ↓thenQ_ret, ↓blockQ_normal, ↓blockQ_exit, ↓blockQ_ret, ↓aops, ↓aopsD, ↓imp_tt, ↓imp_ff, ↓imp_tf, ↓imp_ft, ↓imp_tnt, ↓imp_tnf, ↓imp_fnt, ↓imp_fnf, look, setL, resQ, argSlots, buildSt, buildArr, intsOf, eqB, keepSl, bindM, bindP, opR, okIf, ok, bad, ev, ofConst, putS, updS, S.upd, dstOk, yieldD, yieldY, strBin, isShift, cellD, retQ, resD, stripO, convR, conv2R, makeR, indexR, indexAddrR, fieldAddrR, loadR, storeR, allocR, boxR, pickR, buildR, buildSliceR, lenR, nilCheckR, extractR, funcR, ipSlice, sliceR, appendR, callR, minR, maxR, S.box, S.tok, TK.sh, known, tsize, destI, ownTok, srcI, isIn, isSl, isSt, appendI, appendL, bnd, aggBin, nilD, isPtr, fieldOf, sized, enumS, seeR, seeL, hasB, flat, flats, List.foldl_nil, List.foldl_cons, Option.getD_some, Option.getD_none, if_true, if_false, reduceIte, reduceCtorEq, Nat.reduceEqDiff, Nat.reduceAdd, Nat.reduceMul, Nat.reduceLT, Nat.reduceSub, Nat.reduceLeDiff, true_and, and_true, List.map_cons, List.map_nil, List.size_toArray, List.length_cons, List.length_nil, Option.map_some, Option.map_none, Option.bind_some, true_implies, Bool.false_eq_true, Bool.true_eq_false, false_implies, Bool.not_true, Bool.not_false, List.getElem?_cons_zero, List.getElem?_cons_succ, implies_true, and_self, Bool.and_true, Bool.true_and, BEq.rfl, and_assoc, Option.isSome_some, Option.isSome_none, List.take_succ_cons, List.take_zero, List.set_cons_zero, List.set_cons_succ, List.forall_mem_cons, List.not_mem_nil, forall_const, List.range, List.range.loop, ne_eq, not_false_eq_true, not_true_eq_false, List.cons.injEq, Prod.mk.injEq, List.append_nil, List.nil_append, List.cons_append, false_and, and_false, Bool.false_and, Bool.and_false, Nat.reduceBNe, Nat.reduceBEq, beq_self_eq_true, bne_self_eq_false, Nat.reduceBeqDiff, Bool.or_false, Bool.false_or, Bool.or_true, Bool.true_or, vs0, vs1, vs2, vs3, vs4, tys, gl0, Tryd.ntmps37, Tryd.results37]
  refine loopA [(5, some .u8, 0)] ?_
  simp (config := {dsimp := false}) only [↓a_range, ↓roundQ_normal, ↓roundQ_ret, ↓roundQ_exit, ↓a_skip, ↓a_exit, ↓a_ret, ↓a_seq, ↓a_cond, ↓a_block, ↓a_loop, ↓a_region, ↓a_draw, ↓a_region', ↓a_draw', ↓then_key, ↓with_key, ↓withY_key, ↓cond_key, ↓one_key, ↓thenQ_normal, ↓thenQ_exit, ↓thenQ_ret, ↓blockQ_normal, ↓blockQ_exit, ↓blockQ_ret, ↓aops, ↓aopsD, ↓imp_tt, ↓imp_ff, ↓imp_tf, ↓imp_ft, ↓imp_tnt, ↓imp_tnf, ↓imp_fnt, ↓imp_fnf, look, setL, resQ, argSlots, buildSt, buildArr, intsOf, eqB, keepSl, bindM, bindP, opR, okIf, ok, bad, ev, ofConst, putS, updS, S.upd, dstOk, yieldD, yieldY, strBin, isShift, cellD, retQ, resD, stripO, convR, conv2R, makeR, indexR, indexAddrR, fieldAddrR, loadR, storeR, allocR, boxR, pickR, buildR, buildSliceR, lenR, nilCheckR, extractR, funcR, ipSlice, sliceR, appendR, callR, minR, maxR, S.box, S.tok, TK.sh, known, tsize, destI, ownTok, srcI, isIn, isSl, isSt, appendI, appendL, bnd, aggBin, nilD, isPtr, fieldOf, sized, enumS, seeR, seeL, hasB, flat, flats, List.foldl_nil, List.foldl_cons, Option.getD_some, Option.getD_none, if_true, if_false, reduceIte, reduceCtorEq, Nat.reduceEqDiff, Nat.reduceAdd, Nat.reduceMul, Nat.reduceLT, Nat.reduceSub, Nat.reduceLeDiff, true_and, and_true, List.map_cons, List.map_nil, List.size_toArray, List.length_cons, List.length_nil, Option.map_some, Option.map_none, Option.bind_some, true_implies, Bool.false_eq_true, Bool.true_eq_false, false_implies, Bool.not_true, Bool.not_false, List.getElem?_cons_zero, List.getElem?_cons_succ, implies_true, and_self, Bool.and_true, Bool.true_and, BEq.rfl, and_assoc, Option.isSome_some, Option.isSome_none, List.take_succ_cons, List.take_zero, List.set_cons_zero, List.set_cons_succ, List.forall_mem_cons, List.not_mem_nil, forall_const, List.range, List.range.loop, ne_eq, not_false_eq_true, not_true_eq_false, List.cons.injEq, Prod.mk.injEq, List.append_nil, List.nil_append, List.cons_append, false_and, and_false, Bool.false_and, Bool.and_false, Nat.reduceBNe, Nat.reduceBEq, beq_self_eq_true, bne_self_eq_false, Nat.reduceBeqDiff, Bool.or_false, Bool.false_or, Bool.or_true, Bool.true_or, vs0, vs1, vs2, vs3, vs4, tys, gl0, Tryd.ntmps37, Tryd.results37, adopt]
  refine ⟨Fin 33, (fun i => [(5, .sli (.tok 20) .u8 (a.take i.1)), (6, .int .i64 (i.1 : Int)), (2, .bp 0 0), (3, .bp 4 0)]), (fun i => ⟨[(0, .arr .u8 32 a), (4, .arr .u8 32 b)], [(20, (i.1, 1))], 24⟩), (fun i => 32 - i.1), 0, (fun _ => rfl), ⟨⟨wkD_eq rfl, rfl, wkD_eq rfl, rfl, wkD_eq rfl, rfl, wkD_eq rfl, rfl, trivial⟩, ⟨rfl, Nat.le_of_ble_eq_true rfl, rfl, rfl, Nat.le_of_ble_eq_true rfl, rfl, trivial⟩, ⟨rfl, Nat.le_of_ble_eq_true rfl, trivial⟩⟩, ?_⟩
  rintro ⟨i, hi⟩
  have l1 : (a.take i).length = i := by rw [List.length_take]; omega
  simp (config := {dsimp := false}) only [↓a_range, ↓roundQ_normal, ↓roundQ_ret, ↓roundQ_exit, ↓a_skip, ↓a_exit, ↓a_ret, ↓a_seq, ↓a_cond, ↓a_block, ↓a_loop, ↓a_region, ↓a_draw, ↓a_region', ↓a_draw', ↓then_key, ↓with_key, ↓withY_key, ↓cond_key, ↓one_key, ↓thenQ_normal, ↓thenQ_exit, ↓thenQ_ret, ↓blockQ_normal, ↓blockQ_exit, ↓blockQ_ret, ↓aops, ↓aopsD, ↓imp_tt, ↓imp_ff, ↓imp_tf, ↓imp_ft, ↓imp_tnt, ↓imp_tnf, ↓imp_fnt, ↓imp_fnf, look, setL, resQ, argSlots, buildSt, buildArr, intsOf, eqB, keepSl, bindM, bindP, opR, okIf, ok, bad, ev, ofConst, putS, updS, S.upd, dstOk, yieldD, yieldY, strBin, isShift, cellD, retQ, resD, stripO, convR, conv2R, makeR, indexR, indexAddrR, fieldAddrR, loadR, storeR, allocR, boxR, pickR, buildR, buildSliceR, lenR, nilCheckR, extractR, funcR, ipSlice, sliceR, appendR, callR, minR, maxR, S.box, S.tok, TK.sh, known, tsize, destI, ownTok, srcI, isIn, isSl, isSt, appendI, appendL, bnd, aggBin, nilD, isPtr, fieldOf, sized, enumS, seeR, seeL, hasB, flat, flats, List.foldl_nil, List.foldl_cons, Option.getD_some, Option.getD_none, if_true, if_false, reduceIte, reduceCtorEq, Nat.reduceEqDiff, Nat.reduceAdd, Nat.reduceMul, Nat.reduceLT, Nat.reduceSub, Nat.reduceLeDiff, true_and, and_true, List.map_cons, List.map_nil, List.size_toArray, List.length_cons, List.length_nil, Option.map_some, Option.map_none, Option.bind_some, true_implies, Bool.false_eq_true, Bool.true_eq_false, false_implies, Bool.not_true, Bool.not_false, List.getElem?_cons_zero, List.getElem?_cons_succ, implies_true, and_self, Bool.and_true, Bool.true_and, BEq.rfl, and_assoc, Option.isSome_some, Option.isSome_none, List.take_succ_cons, List.take_zero, List.set_cons_zero, List.set_cons_succ, List.forall_mem_cons, List.not_mem_nil, forall_const, List.range, List.range.loop, ne_eq, not_false_eq_true, not_true_eq_false, List.cons.injEq, Prod.mk.injEq, List.append_nil, List.nil_append, List.cons_append, false_and, and_false, Bool.false_and, Bool.and_false, Nat.reduceBNe, Nat.reduceBEq, beq_self_eq_true, bne_self_eq_false, Nat.reduceBeqDiff, Bool.or_false, Bool.false_or, Bool.or_true, Bool.true_or, vs0, vs1, vs2, vs3, vs4, tys, gl0, Tryd.ntmps37, Tryd.results37, Int.toNat_natCast, l1]
  refine ⟨fun hh => ?_, fun hh => ?_⟩
  · have hh := of_decide_eq_true hh
    refine ⟨by omega, by omega, by omega, ⟨i + 1, by omega⟩, ⟨⟨wkD_eq ?_, rfl, wkD_eq ?_, rfl, wkD_eq rfl, rfl, wkD_eq rfl, rfl, trivial⟩, ⟨rfl, Nat.le_of_ble_eq_true rfl, rfl, rfl, Nat.le_of_ble_eq_true rfl, rfl, trivial⟩, ⟨rfl, Nat.le_of_ble_eq_true rfl, trivial⟩⟩, by (try simp only); omega⟩
    · exact congrArg (fun x => some (D.sli (.tok 20) .u8 x)) (take_snoc a i (by omega) 0)
    · exact some_i64 (by (try simp only); omega)
  have hh := of_decide_eq_false hh
  obtain rfl : i = 32 := by omega
  rw [List.take_of_length_le (by omega)]
  refine loopI (Fin 33) (fun i => [(5, .sli (.tok 20) .u8 (a ++ b.take i.1)), (7, .int .i64 (i.1 : Int)), (2, .bp 0 0), (3, .bp 4 0)]) (fun i => ⟨[(0, .arr .u8 32 a), (4, .arr .u8 32 b)], [(20, (32 + i.1, 1))], 36⟩) (fun i => 32 - i.1) 0 (fun _ => rfl) ?_ ?_
  · refine ⟨⟨wkD_eq ?_, rfl, wkD_eq rfl, rfl, wkD_eq rfl, rfl, wkD_eq rfl, rfl, trivial⟩, ⟨rfl, Nat.le_of_ble_eq_true rfl, rfl, rfl, Nat.le_of_ble_eq_true rfl, rfl, trivial⟩, ⟨rfl, Nat.le_of_ble_eq_true rfl, trivial⟩⟩
    rw [show ((0 : Fin 33) : Nat) = 0 from rfl, List.take_zero, List.append_nil]
    rfl
  rintro ⟨i, hi⟩
  have l2 : (b.take i).length = i := by rw [List.length_take]; omega
  simp (config := {dsimp := false}) only [↓a_range, ↓roundQ_normal, ↓roundQ_ret, ↓roundQ_exit, ↓a_skip, ↓a_exit, ↓a_ret, ↓a_seq, ↓a_cond, ↓a_block, ↓a_loop, ↓a_region, ↓a_draw, ↓a_region', ↓a_draw', ↓then_key, ↓with_key, ↓withY_key, ↓cond_key, ↓one_key, ↓thenQ_normal, ↓thenQ_exit, ↓thenQ_ret, ↓blockQ_normal, ↓blockQ_exit, ↓blockQ_ret, ↓aops, ↓aopsD, ↓imp_tt, ↓imp_ff, ↓imp_tf, ↓imp_ft, ↓imp_tnt, ↓imp_tnf, ↓imp_fnt, ↓imp_fnf, look, setL, resQ, argSlots, buildSt, buildArr, intsOf, eqB, keepSl, bindM, bindP, opR, okIf, ok, bad, ev, ofConst, putS, updS, S.upd, dstOk, yieldD, yieldY, strBin, isShift, cellD, retQ, resD, stripO, convR, conv2R, makeR, indexR, indexAddrR, fieldAddrR, loadR, storeR, allocR, boxR, pickR, buildR, buildSliceR, lenR, nilCheckR, extractR, funcR, ipSlice, sliceR, appendR, callR, minR, maxR, S.box, S.tok, TK.sh, known, tsize, destI, ownTok, srcI, isIn, isSl, isSt, appendI, appendL, bnd, aggBin, nilD, isPtr, fieldOf, sized, enumS, seeR, seeL, hasB, flat, flats, List.foldl_nil, List.foldl_cons, Option.getD_some, Option.getD_none, if_true, if_false, reduceIte, reduceCtorEq, Nat.reduceEqDiff, Nat.reduceAdd, Nat.reduceMul, Nat.reduceLT, Nat.reduceSub, Nat.reduceLeDiff, true_and, and_true, List.map_cons, List.map_nil, List.size_toArray, List.length_cons, List.length_nil, Option.map_some, Option.map_none, Option.bind_some, true_implies, Bool.false_eq_true, Bool.true_eq_false, false_implies, Bool.not_true, Bool.not_false, List.getElem?_cons_zero, List.getElem?_cons_succ, implies_true, and_self, Bool.and_true, Bool.true_and, BEq.rfl, and_assoc, Option.isSome_some, Option.isSome_none, List.take_succ_cons, List.take_zero, List.set_cons_zero, List.set_cons_succ, List.forall_mem_cons, List.not_mem_nil, forall_const, List.range, List.range.loop, ne_eq, not_false_eq_true, not_true_eq_false, List.cons.injEq, Prod.mk.injEq, List.append_nil, List.nil_append, List.cons_append, false_and, and_false, Bool.false_and, Bool.and_false, Nat.reduceBNe, Nat.reduceBEq, beq_self_eq_true, bne_self_eq_false, Nat.reduceBeqDiff, Bool.or_false, Bool.false_or, Bool.or_true, Bool.true_or, vs0, vs1, vs2, vs3, vs4, tys, gl0, Tryd.ntmps37, Tryd.results37, Int.toNat_natCast, List.length_append, l2, ha]
  refine ⟨fun hh => ?_, fun hh => ?_⟩
  · have hh := of_decide_eq_true hh
    refine ⟨by omega, by omega, by omega, ⟨i + 1, by omega⟩, ⟨⟨wkD_eq ?_, rfl, wkD_eq ?_, rfl, wkD_eq rfl, rfl, wkD_eq rfl, rfl, trivial⟩, ⟨rfl, Nat.le_of_ble_eq_true rfl, rfl, rfl, Nat.le_of_ble_eq_true rfl, rfl, trivial⟩, ⟨rfl, Nat.le_of_ble_eq_true rfl, trivial⟩⟩, by (try simp only); omega⟩
    · exact congrArg (fun x => some (D.sli (.tok 20) .u8 x)) ((List.append_assoc ..).trans (congrArg (a ++ ·) (take_snoc b i (by omega) 0)))
    · exact some_i64 (by (try simp only); omega)
  · have hh := of_decide_eq_false hh
    obtain rfl : i = 32 := by omega
    rw [List.take_of_length_le (by omega)]
    rfl
theorem c_hashes : Contract E 17 := by
  refine contract_see hE hgl (show E.P.funcs[17]? = some Tryd.f17 from Tryd.func17) rfl (p := sp_hashes) (fun _ _ _ => rfl) ?_
  intro args hv
  unfold sp_hashes at hv ⊢
  split at hv
  case h_2 => exact hv.elim
  rename_i z es y fs
  refine ⟨by simp, Nat.le_of_ble_eq_true rfl, ?_⟩
  simp only [givesIf] at hv
  obtain ⟨hz, hy, ⟨l, rfl, hl⟩, ⟨m, rfl, hm⟩, h3, h4⟩ := hv
  simp only [arrs_length] at h3 h4
  simp (config := {dsimp := false}) only [↓a_range, ↓roundQ_normal, ↓roundQ_ret, ↓roundQ_exit, ↓a_skip, ↓a_exit, ↓a_ret, ↓a_seq, ↓a_cond, ↓a_block, ↓a_loop, ↓a_region, ↓a_draw, ↓a_region', ↓a_draw', ↓then_key, ↓with_key, ↓withY_key, ↓cond_key, ↓one_key, ↓thenQ_normal, ↓thenQ_exit, ↓thenQ_ret, ↓blockQ_normal, ↓blockQ_exit, ↓blockQ_ret, ↓aops, ↓aopsD, ↓imp_tt, ↓imp_ff, ↓imp_tf, ↓imp_ft, ↓imp_tnt, ↓imp_tnf, ↓imp_fnt, ↓imp_fnf, look, setL, resQ, argSlots, buildSt, buildArr, intsOf, eqB, keepSl, bindM, bindP, opR, okIf, ok, bad, ev, ofConst, putS, updS, S.upd, dstOk, yieldD, yieldY, strBin, isShift, cellD, retQ, resD, stripO, convR, conv2R, makeR, indexR, indexAddrR, fieldAddrR, loadR, storeR, allocR, boxR, pickR, buildR, buildSliceR, lenR, nilCheckR, extractR, funcR, ipSlice, sliceR, appendR, callR, minR, maxR, S.box, S.tok, TK.sh, known, tsize, destI, ownTok, srcI, isIn, isSl, isSt, appendI, appendL, bnd, aggBin, nilD, isPtr, fieldOf, sized, enumS, seeR, seeL, hasB, flat, flats, List.foldl_nil, List.foldl_cons, Option.getD_some, Option.getD_none, if_true, if_false, reduceIte, reduceCtorEq, Nat.reduceEqDiff, Nat.reduceAdd, Nat.reduceMul, Nat.reduceLT, Nat.reduceSub, Nat.reduceLeDiff, true_and, and_true, List.map_cons, List.map_nil, List.size_toArray, List.length_cons, List.length_nil, Option.map_some, Option.map_none, Option.bind_some, true_implies, Bool.false_eq_true, Bool.true_eq_false, false_implies, Bool.not_true, Bool.not_false, List.getElem?_cons_zero, List.getElem?_cons_succ, implies_true, and_self, Bool.and_true, Bool.true_and, BEq.rfl, and_assoc, Option.isSome_some, Option.isSome_none, List.take_succ_cons, List.take_zero, List.set_cons_zero, List.set_cons_succ, List.forall_mem_cons, List.not_mem_nil, forall_const, List.range, List.range.loop, ne_eq, not_false_eq_true, not_true_eq_false, List.cons.injEq, Prod.mk.injEq, List.append_nil, List.nil_append, List.cons_append, false_and, and_false, Bool.false_and, Bool.and_false, Nat.reduceBNe, Nat.reduceBEq, beq_self_eq_true, bne_self_eq_false, Nat.reduceBeqDiff, Bool.or_false, Bool.false_or, Bool.or_true, Bool.true_or, vs0, vs1, vs2, vs3, vs4, tys, gl0, Tryd.ntmps17, Tryd.results17, arrs_length, givesIf, hs_arrs]
  refine ⟨fun h => ?_, fun h => ?_⟩
  · have : l ≠ m := fun e => by subst e; simp at h
    simp [this]
  have h : l.length = m.length := by simp at h; omega
  refine loopI {i : Nat // i ≤ l.length ∧ ∀ j, j < i → l.getD j [] = m.getD j []} (fun i => [(0, .sl .no z (arrs l)), (1, .sl .no y (arrs m)), (5, .int .i64 (i.1 : Nat))]) (fun _ => ⟨[], [], 28⟩) (fun i => l.length - i.1) ⟨0, by simp⟩ (fun _ => rfl) ?_ ?_
  · exact ⟨⟨wkD_eq rfl, rfl, wkD_eq rfl, rfl, wkD_eq rfl, rfl, trivial⟩, trivial, trivial⟩
  rintro ⟨i, hi, hj⟩
  simp (config := {dsimp := false}) only [↓a_range, ↓roundQ_normal, ↓roundQ_ret, ↓roundQ_exit, ↓a_skip, ↓a_exit, ↓a_ret, ↓a_seq, ↓a_cond, ↓a_block, ↓a_loop, ↓a_region, ↓a_draw, ↓a_region', ↓a_draw', ↓then_key, ↓with_key, ↓withY_key, ↓cond_key, ↓one_key, ↓thenQ_normal, ↓thenQ_exit, ↓thenQ_ret, ↓blockQ_normal, ↓blockQ_exit, ↓blockQ_ret, ↓aops, ↓aopsD, ↓imp_tt, ↓imp_ff, ↓imp_tf, ↓imp_ft, ↓imp_tnt, ↓imp_tnf, ↓imp_fnt, ↓imp_fnf, look, setL, resQ, argSlots, buildSt, buildArr, intsOf, eqB, keepSl, bindM, bindP, opR, okIf, ok, bad, ev, ofConst, putS, updS, S.upd, dstOk, yieldD, yieldY, strBin, isShift, cellD, retQ, resD, stripO, convR, conv2R, makeR, indexR, indexAddrR, fieldAddrR, loadR, storeR, allocR, boxR, pickR, buildR, buildSliceR, lenR, nilCheckR, extractR, funcR, ipSlice, sliceR, appendR, callR, minR, maxR, S.box, S.tok, TK.sh, known, tsize, destI, ownTok, srcI, isIn, isSl, isSt, appendI, appendL, bnd, aggBin, nilD, isPtr, fieldOf, sized, enumS, seeR, seeL, hasB, flat, flats, List.foldl_nil, List.foldl_cons, Option.getD_some, Option.getD_none, if_true, if_false, reduceIte, reduceCtorEq, Nat.reduceEqDiff, Nat.reduceAdd, Nat.reduceMul, Nat.reduceLT, Nat.reduceSub, Nat.reduceLeDiff, true_and, and_true, List.map_cons, List.map_nil, List.size_toArray, List.length_cons, List.length_nil, Option.map_some, Option.map_none, Option.bind_some, true_implies, Bool.false_eq_true, Bool.true_eq_false, false_implies, Bool.not_true, Bool.not_false, List.getElem?_cons_zero, List.getElem?_cons_succ, implies_true, and_self, Bool.and_true, Bool.true_and, BEq.rfl, and_assoc, Option.isSome_some, Option.isSome_none, List.take_succ_cons, List.take_zero, List.set_cons_zero, List.set_cons_succ, List.forall_mem_cons, List.not_mem_nil, forall_const, List.range, List.range.loop, ne_eq, not_false_eq_true, not_true_eq_false, List.cons.injEq, Prod.mk.injEq, List.append_nil, List.nil_append, List.cons_append, false_and, and_false, Bool.false_and, Bool.and_false, Nat.reduceBNe, Nat.reduceBEq, beq_self_eq_true, bne_self_eq_false, Nat.reduceBeqDiff, Bool.or_false, Bool.false_or, Bool.or_true, Bool.true_or, vs0, vs1, vs2, vs3, vs4, tys, gl0, Tryd.ntmps17, Tryd.results17, arrs_length]
  refine ⟨fun hh => ?_, fun hh => ?_⟩
  · have hh := of_decide_eq_true hh
    obtain rfl : z = 32 := hz.resolve_left (fun e => by have := arrs_eq_nil e; omega)
    obtain rfl : y = 32 := hy.resolve_left (fun e => by have := arrs_eq_nil e; omega)
    have g1 := arrs_get l i (by omega)
    have g2 := arrs_get m i (by omega)
    refine drawI [0, 1, 5] (by kernel_rfl) ?_
    simp (config := {dsimp := false}) only [↓a_range, ↓roundQ_normal, ↓roundQ_ret, ↓roundQ_exit, ↓a_skip, ↓a_exit, ↓a_ret, ↓a_seq, ↓a_cond, ↓a_block, ↓a_loop, ↓a_region, ↓a_draw, ↓a_region', ↓a_draw', ↓then_key, ↓with_key, ↓withY_key, ↓cond_key, ↓one_key, ↓thenQ_normal, ↓thenQ_exit, ↓thenQ_ret, ↓blockQ_normal, ↓blockQ_exit, ↓blockQ_ret, ↓aops, ↓aopsD, ↓imp_tt, ↓imp_ff, ↓imp_tf, ↓imp_ft, ↓imp_tnt, ↓imp_tnf, ↓imp_fnt, ↓imp_fnf, look, setL, resQ, argSlots, buildSt, buildArr, intsOf, eqB, keepSl, bindM, bindP, opR, okIf, ok, bad, ev, ofConst, putS, updS, S.upd, dstOk, yieldD, yieldY, strBin, isShift, cellD, retQ, resD, stripO, convR, conv2R, makeR, indexR, indexAddrR, fieldAddrR, loadR, storeR, allocR, boxR, pickR, buildR, buildSliceR, lenR, nilCheckR, extractR, funcR, ipSlice, sliceR, appendR, callR, minR, maxR, S.box, S.tok, TK.sh, known, tsize, destI, ownTok, srcI, isIn, isSl, isSt, appendI, appendL, bnd, aggBin, nilD, isPtr, fieldOf, sized, enumS, seeR, seeL, hasB, flat, flats, List.foldl_nil, List.foldl_cons, Option.getD_some, Option.getD_none, if_true, if_false, reduceIte, reduceCtorEq, Nat.reduceEqDiff, Nat.reduceAdd, Nat.reduceMul, Nat.reduceLT, Nat.reduceSub, Nat.reduceLeDiff, true_and, and_true, List.map_cons, List.map_nil, List.size_toArray, List.length_cons, List.length_nil, Option.map_some, Option.map_none, Option.bind_some, true_implies, Bool.false_eq_true, Bool.true_eq_false, false_implies, Bool.not_true, Bool.not_false, List.getElem?_cons_zero, List.getElem?_cons_succ, implies_true, and_self, Bool.and_true, Bool.true_and, BEq.rfl, and_assoc, Option.isSome_some, Option.isSome_none, List.take_succ_cons, List.take_zero, List.set_cons_zero, List.set_cons_succ, List.forall_mem_cons, List.not_mem_nil, forall_const, List.range, List.range.loop, ne_eq, not_false_eq_true, not_true_eq_false, List.cons.injEq, Prod.mk.injEq, List.append_nil, List.nil_append, List.cons_append, false_and, and_false, Bool.false_and, Bool.and_false, Nat.reduceBNe, Nat.reduceBEq, beq_self_eq_true, bne_self_eq_false, Nat.reduceBeqDiff, Bool.or_false, Bool.false_or, Bool.or_true, Bool.true_or, vs0, vs1, vs2, vs3, vs4, tys, gl0, Tryd.ntmps17, Tryd.results17, arrs_length, Int.toNat_natCast, g1, g2]
    refine ⟨by omega, by omega, by omega, by omega, fun h5 => ?_, fun h5 => ?_⟩
    · have h5 : ¬ l.getD i [] = m.getD i [] := by simpa using h5
      have : l ≠ m := fun e => by subst e; exact h5 rfl
      rw [hs_arrs, hs_arrs]
      simp [this]
      all_goals rfl
    · have h5 : l.getD i [] = m.getD i [] := by simpa using h5
      refine ⟨⟨i + 1, by omega, fun j h6 => ?_⟩, ⟨⟨wkD_eq rfl, rfl, wkD_eq rfl, rfl, wkD_eq ?_, rfl, trivial⟩, trivial, trivial⟩, by (try simp only); omega⟩
      · rcases Nat.lt_or_ge j i with h7 | h7
        · exact hj j h7
        · obtain rfl : j = i := by omega
          exact h5
      · exact some_i64 (by (try simp only); omega)
  · have hh := of_decide_eq_false hh
    obtain rfl : i = l.length := by omega
    have : l = m := by
      apply List.ext_getElem h
      intro j h6 h7
      have := hj j h6
      simpa [List.getD, h6, h7] using this
    subst this
    simp (config := {dsimp := false}) only [↓a_range, ↓roundQ_normal, ↓roundQ_ret, ↓roundQ_exit, ↓a_skip, ↓a_exit, ↓a_ret, ↓a_seq, ↓a_cond, ↓a_block, ↓a_loop, ↓a_region, ↓a_draw, ↓a_region', ↓a_draw', ↓then_key, ↓with_key, ↓withY_key, ↓cond_key, ↓one_key, ↓thenQ_normal, ↓thenQ_exit, ↓thenQ_ret, ↓blockQ_normal, ↓blockQ_exit, ↓blockQ_ret, ↓aops, ↓aopsD, ↓imp_tt, ↓imp_ff, ↓imp_tf, ↓imp_ft, ↓imp_tnt, ↓imp_tnf, ↓imp_fnt, ↓imp_fnf, look, setL, resQ, argSlots, buildSt, buildArr, intsOf, eqB, keepSl, bindM, bindP, opR, okIf, ok, bad, ev, ofConst, putS, updS, S.upd, dstOk, yieldD, yieldY, strBin, isShift, cellD, retQ, resD, stripO, convR, conv2R, makeR, indexR, indexAddrR, fieldAddrR, loadR, storeR, allocR, boxR, pickR, buildR, buildSliceR, lenR, nilCheckR, extractR, funcR, ipSlice, sliceR, appendR, callR, minR, maxR, S.box, S.tok, TK.sh, known, tsize, destI, ownTok, srcI, isIn, isSl, isSt, appendI, appendL, bnd, aggBin, nilD, isPtr, fieldOf, sized, enumS, seeR, seeL, hasB, flat, flats, List.foldl_nil, List.foldl_cons, Option.getD_some, Option.getD_none, if_true, if_false, reduceIte, reduceCtorEq, Nat.reduceEqDiff, Nat.reduceAdd, Nat.reduceMul, Nat.reduceLT, Nat.reduceSub, Nat.reduceLeDiff, true_and, and_true, List.map_cons, List.map_nil, List.size_toArray, List.length_cons, List.length_nil, Option.map_some, Option.map_none, Option.bind_some, true_implies, Bool.false_eq_true, Bool.true_eq_false, false_implies, Bool.not_true, Bool.not_false, List.getElem?_cons_zero, List.getElem?_cons_succ, implies_true, and_self, Bool.and_true, Bool.true_and, BEq.rfl, and_assoc, Option.isSome_some, Option.isSome_none, List.take_succ_cons, List.take_zero, List.set_cons_zero, List.set_cons_succ, List.forall_mem_cons, List.not_mem_nil, forall_const, List.range, List.range.loop, ne_eq, not_false_eq_true, not_true_eq_false, List.cons.injEq, Prod.mk.injEq, List.append_nil, List.nil_append, List.cons_append, false_and, and_false, Bool.false_and, Bool.and_false, Nat.reduceBNe, Nat.reduceBEq, beq_self_eq_true, bne_self_eq_false, Nat.reduceBeqDiff, Bool.or_false, Bool.false_or, Bool.or_true, Bool.true_or, vs0, vs1, vs2, vs3, vs4, tys, gl0, Tryd.ntmps17, Tryd.results17, hs_arrs]
    simp
    all_goals rfl
theorem c_refAbove : Contract E 35 := by
  refine contract_see hE hgl (show E.P.funcs[35]? = some Tryd.f35 from Tryd.func35) rfl (p := sp_refAbove) (fun _ _ _ => rfl) ?_
  intro args hv
  unfold sp_refAbove at hv ⊢
  split at hv
  case h_2 => exact hv.elim
  rename_i es
  refine ⟨by simp, Nat.le_of_ble_eq_true rfl, ?_⟩
  simp only [givesIf] at hv
  obtain ⟨⟨l, rfl, hl⟩, hlen, hby⟩ := hv
  rw [hs_arrs] at hby
  rw [arrs_length] at hlen
  simp (config := {dsimp := false}) only [↓a_range, ↓roundQ_normal, ↓roundQ_ret, ↓roundQ_exit, ↓a_skip, ↓a_exit, ↓a_ret, ↓a_seq, ↓a_cond, ↓a_block, ↓a_loop, ↓a_region, ↓a_draw, ↓a_region', ↓a_draw', ↓then_key, ↓with_key, ↓withY_key, ↓cond_key, ↓one_key, ↓thenQ_normal, ↓thenQ_exit, ↓thenQ_ret, ↓blockQ_normal, ↓blockQ_exit, ↓blockQ_ret, ↓aops, ↓aopsD, ↓imp_tt, ↓imp_ff, ↓imp_tf, ↓imp_ft, ↓imp_tnt, ↓imp_tnf, ↓imp_fnt, ↓imp_fnf, look, setL, resQ, argSlots, buildSt, buildArr, intsOf, eqB, keepSl, bindM, bindP, opR, okIf, ok, bad, ev, ofConst, putS, updS, S.upd, dstOk, yieldD, yieldY, strBin, isShift, cellD, retQ, resD, stripO, convR, conv2R, makeR, indexR, indexAddrR, fieldAddrR, loadR, storeR, allocR, boxR, pickR, buildR, buildSliceR, lenR, nilCheckR, extractR, funcR, ipSlice, sliceR, appendR, callR, minR, maxR, S.box, S.tok, TK.sh, known, tsize, destI, ownTok, srcI, isIn, isSl, isSt, appendI, appendL, bnd, aggBin, nilD, isPtr, fieldOf, sized, enumS, seeR, seeL, hasB, flat, flats, List.foldl_nil, List.foldl_cons, Option.getD_some, Option.getD_none, if_true, if_false, reduceIte, reduceCtorEq, Nat.reduceEqDiff, Nat.reduceAdd, Nat.reduceMul, Nat.reduceLT, Nat.reduceSub, Nat.reduceLeDiff, true_and, and_true, List.map_cons, List.map_nil, List.size_toArray, List.length_cons, List.length_nil, Option.map_some, Option.map_none, Option.bind_some, true_implies, Bool.false_eq_true, Bool.true_eq_false, false_implies, Bool.not_true, Bool.not_false, List.getElem?_cons_zero, List.getElem?_cons_succ, implies_true, and_self, Bool.and_true, Bool.true_and, BEq.rfl, and_assoc, Option.isSome_some, Option.isSome_none, List.take_succ_cons, List.take_zero, List.set_cons_zero, List.set_cons_succ, List.forall_mem_cons, List.not_mem_nil, forall_const, List.range, List.range.loop, ne_eq, not_false_eq_true, not_true_eq_false, List.cons.injEq, Prod.mk.injEq, List.append_nil, List.nil_append, List.cons_append, false_and, and_false, Bool.false_and, Bool.and_false, Nat.reduceBNe, Nat.reduceBEq, beq_self_eq_true, bne_self_eq_false, Nat.reduceBeqDiff, Bool.or_false, Bool.false_or, Bool.or_true, Bool.true_or, vs0, vs1, vs2, vs3, vs4, tys, gl0, Tryd.ntmps35, Tryd.results35, arrs_length]
  refine loopA [(3, none, 32)] ?_
  simp (config := {dsimp := false}) only [↓a_range, ↓roundQ_normal, ↓roundQ_ret, ↓roundQ_exit, ↓a_skip, ↓a_exit, ↓a_ret, ↓a_seq, ↓a_cond, ↓a_block, ↓a_loop, ↓a_region, ↓a_draw, ↓a_region', ↓a_draw', ↓then_key, ↓with_key, ↓withY_key, ↓cond_key, ↓one_key, ↓thenQ_normal, ↓thenQ_exit, ↓thenQ_ret, ↓blockQ_normal, ↓blockQ_exit, ↓blockQ_ret, ↓aops, ↓aopsD, ↓imp_tt, ↓imp_ff, ↓imp_tf, ↓imp_ft, ↓imp_tnt, ↓imp_tnf, ↓imp_fnt, ↓imp_fnf, look, setL, resQ, argSlots, buildSt, buildArr, intsOf, eqB, keepSl, bindM, bindP, opR, okIf, ok, bad, ev, ofConst, putS, updS, S.upd, dstOk, yieldD, yieldY, strBin, isShift, cellD, retQ, resD, stripO, convR, conv2R, makeR, indexR, indexAddrR, fieldAddrR, loadR, storeR, allocR, boxR, pickR, buildR, buildSliceR, lenR, nilCheckR, extractR, funcR, ipSlice, sliceR, appendR, callR, minR, maxR, S.box, S.tok, TK.sh, known, tsize, destI, ownTok, srcI, isIn, isSl, isSt, appendI, appendL, bnd, aggBin, nilD, isPtr, fieldOf, sized, enumS, seeR, seeL, hasB, flat, flats, List.foldl_nil, List.foldl_cons, Option.getD_some, Option.getD_none, if_true, if_false, reduceIte, reduceCtorEq, Nat.reduceEqDiff, Nat.reduceAdd, Nat.reduceMul, Nat.reduceLT, Nat.reduceSub, Nat.reduceLeDiff, true_and, and_true, List.map_cons, List.map_nil, List.size_toArray, List.length_cons, List.length_nil, Option.map_some, Option.map_none, Option.bind_some, true_implies, Bool.false_eq_true, Bool.true_eq_false, false_implies, Bool.not_true, Bool.not_false, List.getElem?_cons_zero, List.getElem?_cons_succ, implies_true, and_self, Bool.and_true, Bool.true_and, BEq.rfl, and_assoc, Option.isSome_some, Option.isSome_none, List.take_succ_cons, List.take_zero, List.set_cons_zero, List.set_cons_succ, List.forall_mem_cons, List.not_mem_nil, forall_const, List.range, List.range.loop, ne_eq, not_false_eq_true, not_true_eq_false, List.cons.injEq, Prod.mk.injEq, List.append_nil, List.nil_append, List.cons_append, false_and, and_false, Bool.false_and, Bool.and_false, Nat.reduceBNe, Nat.reduceBEq, beq_self_eq_true, bne_self_eq_false, Nat.reduceBeqDiff, Bool.or_false, Bool.false_or, Bool.or_true, Bool.true_or, vs0, vs1, vs2, vs3, vs4, tys, gl0, Tryd.ntmps35, Tryd.results35, adopt]
  refine ⟨Fin ((l.length + 1) / 2 + 1), (fun i => [(3, .sl (.tok 12) 32 (arrs ((aboveP l).take i.1))), (4, .int .i64 (2 * i.1 : Int)), (0, .sl .no 32 (arrs l))]), (fun i => ⟨[], [(12, (i.1, 32))], 16⟩), (fun i => l.length + 1 - 2 * i.1), 0, (fun _ => rfl), ⟨⟨wkD_eq rfl, rfl, wkD_eq rfl, rfl, wkD_eq rfl, rfl, trivial⟩, trivial, ⟨rfl, Nat.le_of_ble_eq_true rfl, trivial⟩⟩, ?_⟩
  rintro ⟨i, hi⟩
  simp (config := {dsimp := false}) only [↓a_range, ↓roundQ_normal, ↓roundQ_ret, ↓roundQ_exit, ↓a_skip, ↓a_exit, ↓a_ret, ↓a_seq, ↓a_cond, ↓a_block, ↓a_loop, ↓a_region, ↓a_draw, ↓a_region', ↓a_draw', ↓then_key, ↓with_key, ↓withY_key, ↓cond_key, ↓one_key, ↓thenQ_normal, ↓thenQ_exit, ↓thenQ_ret, ↓blockQ_normal, ↓blockQ_exit, ↓blockQ_ret, ↓aops, ↓aopsD, ↓imp_tt, ↓imp_ff, ↓imp_tf, ↓imp_ft, ↓imp_tnt, ↓imp_tnf, ↓imp_fnt, ↓imp_fnf, look, setL, resQ, argSlots, buildSt, buildArr, intsOf, eqB, keepSl, bindM, bindP, opR, okIf, ok, bad, ev, ofConst, putS, updS, S.upd, dstOk, yieldD, yieldY, strBin, isShift, cellD, retQ, resD, stripO, convR, conv2R, makeR, indexR, indexAddrR, fieldAddrR, loadR, storeR, allocR, boxR, pickR, buildR, buildSliceR, lenR, nilCheckR, extractR, funcR, ipSlice, sliceR, appendR, callR, minR, maxR, S.box, S.tok, TK.sh, known, tsize, destI, ownTok, srcI, isIn, isSl, isSt, appendI, appendL, bnd, aggBin, nilD, isPtr, fieldOf, sized, enumS, seeR, seeL, hasB, flat, flats, List.foldl_nil, List.foldl_cons, Option.getD_some, Option.getD_none, if_true, if_false, reduceIte, reduceCtorEq, Nat.reduceEqDiff, Nat.reduceAdd, Nat.reduceMul, Nat.reduceLT, Nat.reduceSub, Nat.reduceLeDiff, true_and, and_true, List.map_cons, List.map_nil, List.size_toArray, List.length_cons, List.length_nil, Option.map_some, Option.map_none, Option.bind_some, true_implies, Bool.false_eq_true, Bool.true_eq_false, false_implies, Bool.not_true, Bool.not_false, List.getElem?_cons_zero, List.getElem?_cons_succ, implies_true, and_self, Bool.and_true, Bool.true_and, BEq.rfl, and_assoc, Option.isSome_some, Option.isSome_none, List.take_succ_cons, List.take_zero, List.set_cons_zero, List.set_cons_succ, List.forall_mem_cons, List.not_mem_nil, forall_const, List.range, List.range.loop, ne_eq, not_false_eq_true, not_true_eq_false, List.cons.injEq, Prod.mk.injEq, List.append_nil, List.nil_append, List.cons_append, false_and, and_false, Bool.false_and, Bool.and_false, Nat.reduceBNe, Nat.reduceBEq, beq_self_eq_true, bne_self_eq_false, Nat.reduceBeqDiff, Bool.or_false, Bool.false_or, Bool.or_true, Bool.true_or, vs0, vs1, vs2, vs3, vs4, tys, gl0, Tryd.ntmps35, Tryd.results35, arrs_length]
  refine ⟨fun hh => ?_, fun hh => ?_⟩
  · have hh := of_decide_eq_true hh
    have hil : 2 * i < l.length := by omega
    have hia : i < (aboveP l).length := by rw [above_len]; omega
    have g := arrs_get l (2 * i) hil
    have i2 : (2 * (i : Int)) = ((2 * i : Nat) : Int) := by omega
    have lt : ((aboveP l).take i).length = i := by rw [List.length_take]; omega
    obtain ⟨p1, p2⟩ := partner_pair l i hil
    obtain ⟨⟨q1, q2⟩, q3, q4⟩ := pair_ok hl hby (p := pairAt l i) (List.mem_map_of_mem (by rw [List.mem_range]; omega))
    have tw := twice_eq ((pairAt l i).1 ++ (pairAt l i).2.1) (bytes_append q3 q4) (by simp [q1, q2])
    rw [p2] at q1 q3 tw
    rw [i2]
    refine drawI [3, 0, 4] (by kernel_rfl) ?_
    simp (config := {dsimp := false}) only [↓a_range, ↓roundQ_normal, ↓roundQ_ret, ↓roundQ_exit, ↓a_skip, ↓a_exit, ↓a_ret, ↓a_seq, ↓a_cond, ↓a_block, ↓a_loop, ↓a_region, ↓a_draw, ↓a_region', ↓a_draw', ↓then_key, ↓with_key, ↓withY_key, ↓cond_key, ↓one_key, ↓thenQ_normal, ↓thenQ_exit, ↓thenQ_ret, ↓blockQ_normal, ↓blockQ_exit, ↓blockQ_ret, ↓aops, ↓aopsD, ↓imp_tt, ↓imp_ff, ↓imp_tf, ↓imp_ft, ↓imp_tnt, ↓imp_tnf, ↓imp_fnt, ↓imp_fnf, look, setL, resQ, argSlots, buildSt, buildArr, intsOf, eqB, keepSl, bindM, bindP, opR, okIf, ok, bad, ev, ofConst, putS, updS, S.upd, dstOk, yieldD, yieldY, strBin, isShift, cellD, retQ, resD, stripO, convR, conv2R, makeR, indexR, indexAddrR, fieldAddrR, loadR, storeR, allocR, boxR, pickR, buildR, buildSliceR, lenR, nilCheckR, extractR, funcR, ipSlice, sliceR, appendR, callR, minR, maxR, S.box, S.tok, TK.sh, known, tsize, destI, ownTok, srcI, isIn, isSl, isSt, appendI, appendL, bnd, aggBin, nilD, isPtr, fieldOf, sized, enumS, seeR, seeL, hasB, flat, flats, List.foldl_nil, List.foldl_cons, Option.getD_some, Option.getD_none, if_true, if_false, reduceIte, reduceCtorEq, Nat.reduceEqDiff, Nat.reduceAdd, Nat.reduceMul, Nat.reduceLT, Nat.reduceSub, Nat.reduceLeDiff, true_and, and_true, List.map_cons, List.map_nil, List.size_toArray, List.length_cons, List.length_nil, Option.map_some, Option.map_none, Option.bind_some, true_implies, Bool.false_eq_true, Bool.true_eq_false, false_implies, Bool.not_true, Bool.not_false, List.getElem?_cons_zero, List.getElem?_cons_succ, implies_true, and_self, Bool.and_true, Bool.true_and, BEq.rfl, and_assoc, Option.isSome_some, Option.isSome_none, List.take_succ_cons, List.take_zero, List.set_cons_zero, List.set_cons_succ, List.forall_mem_cons, List.not_mem_nil, forall_const, List.range, List.range.loop, ne_eq, not_false_eq_true, not_true_eq_false, List.cons.injEq, Prod.mk.injEq, List.append_nil, List.nil_append, List.cons_append, false_and, and_false, Bool.false_and, Bool.and_false, Nat.reduceBNe, Nat.reduceBEq, beq_self_eq_true, bne_self_eq_false, Nat.reduceBeqDiff, Bool.or_false, Bool.false_or, Bool.or_true, Bool.true_or, vs0, vs1, vs2, vs3, vs4, tys, gl0, Tryd.ntmps35, Tryd.results35, PF.toR, gives, givesIf, arrs_length, strips_arrs, hs_arrs, Int.toNat_natCast, g, p1, q1, q2, tw, lt, bare_arr, spec_refPartner, sp_refPartner, c_refPartner, b_refPartner, spec_refMText, sp_refMText, c_refMText, b_refMText, spec_refTwice, sp_refTwice, c_refTwice, b_refTwice]
    have hsn : arrs ((aboveP l).take i) ++ [D.arr .u8 32 (sumP (sumP (l.getD (2 * i) [] ++ (pairAt l i).2.1)))] = arrs ((aboveP l).take (i + 1)) := by
      rw [← take_snoc (aboveP l) i hia [], ← arrs_append, above_get l i (by omega)]
      rfl
    refine ⟨by omega, by omega, ⟨l, rfl, hl⟩, by omega, by omega, by omega, by rw [List.length_append, q1, q2]; decide, by omega, .inr trivial, .inr trivial, by kernel_rfl, ⟨i + 1, by omega⟩, ⟨⟨wkD_eq ?_, rfl, wkD_eq ?_, rfl, wkD_eq rfl, rfl, trivial⟩, trivial, ⟨rfl, Nat.le_of_ble_eq_true rfl, trivial⟩⟩, by (try simp only); omega⟩
    · exact congrArg (fun x => some (D.sl (.tok 12) 32 x)) hsn
    · rw [← i2]
      exact congrArg (fun n => some (D.int .i64 n)) (w2i (by omega))
  · have hh := of_decide_eq_false hh
    have : i = (l.length + 1) / 2 := by omega
    rw [List.take_of_length_le (by rw [above_len]; omega), strips_arrs, hs_arrs]
    rfl
theorem c_refSame : Contract E 14 := by
  refine contract_see hE hgl (show E.P.funcs[14]? = some Tryd.f14 from Tryd.func14) rfl (p := sp_refSame) (fun _ _ _ => rfl) ?_
  intro args hv
  unfold sp_refSame at hv ⊢
  split at hv
  case h_2 => exact hv.elim
  rename_i z es y fs
  refine ⟨by simp, Nat.le_of_ble_eq_true rfl, ?_⟩
  simp only [givesIf] at hv
  obtain ⟨hz, hy, ⟨l, rfl⟩, ⟨m, rfl⟩, ⟨h3, h4⟩, h6, h7⟩ := hv
  simp only [slis_length, ts_slis] at h3 h4 h6 h7
  simp (config := {dsimp := false}) only [↓a_range, ↓roundQ_normal, ↓roundQ_ret, ↓roundQ_exit, ↓a_skip, ↓a_exit, ↓a_ret, ↓a_seq, ↓a_cond, ↓a_block, ↓a_loop, ↓a_region, ↓a_draw, ↓a_region', ↓a_draw', ↓then_key, ↓with_key, ↓withY_key, ↓cond_key, ↓one_key, ↓thenQ_normal, ↓thenQ_exit, ↓thenQ_ret, ↓blockQ_normal, ↓blockQ_exit, ↓blockQ_ret, ↓aops, ↓aopsD, ↓imp_tt, ↓imp_ff, ↓imp_tf, ↓imp_ft, ↓imp_tnt, ↓imp_tnf, ↓imp_fnt, ↓imp_fnf, look, setL, resQ, argSlots, buildSt, buildArr, intsOf, eqB, keepSl, bindM, bindP, opR, okIf, ok, bad, ev, ofConst, putS, updS, S.upd, dstOk, yieldD, yieldY, strBin, isShift, cellD, retQ, resD, stripO, convR, conv2R, makeR, indexR, indexAddrR, fieldAddrR, loadR, storeR, allocR, boxR, pickR, buildR, buildSliceR, lenR, nilCheckR, extractR, funcR, ipSlice, sliceR, appendR, callR, minR, maxR, S.box, S.tok, TK.sh, known, tsize, destI, ownTok, srcI, isIn, isSl, isSt, appendI, appendL, bnd, aggBin, nilD, isPtr, fieldOf, sized, enumS, seeR, seeL, hasB, flat, flats, List.foldl_nil, List.foldl_cons, Option.getD_some, Option.getD_none, if_true, if_false, reduceIte, reduceCtorEq, Nat.reduceEqDiff, Nat.reduceAdd, Nat.reduceMul, Nat.reduceLT, Nat.reduceSub, Nat.reduceLeDiff, true_and, and_true, List.map_cons, List.map_nil, List.size_toArray, List.length_cons, List.length_nil, Option.map_some, Option.map_none, Option.bind_some, true_implies, Bool.false_eq_true, Bool.true_eq_false, false_implies, Bool.not_true, Bool.not_false, List.getElem?_cons_zero, List.getElem?_cons_succ, implies_true, and_self, Bool.and_true, Bool.true_and, BEq.rfl, and_assoc, Option.isSome_some, Option.isSome_none, List.take_succ_cons, List.take_zero, List.set_cons_zero, List.set_cons_succ, List.forall_mem_cons, List.not_mem_nil, forall_const, List.range, List.range.loop, ne_eq, not_false_eq_true, not_true_eq_false, List.cons.injEq, Prod.mk.injEq, List.append_nil, List.nil_append, List.cons_append, false_and, and_false, Bool.false_and, Bool.and_false, Nat.reduceBNe, Nat.reduceBEq, beq_self_eq_true, bne_self_eq_false, Nat.reduceBeqDiff, Bool.or_false, Bool.false_or, Bool.or_true, Bool.true_or, vs0, vs1, vs2, vs3, vs4, tys, gl0, Tryd.ntmps14, Tryd.results14, slis_length, givesIf, ts_slis]
  refine ⟨fun h => ?_, fun h => ?_⟩
  · have : l ≠ m := fun e => by subst e; simp at h
    simp [this]
  have h : l.length = m.length := by simp at h; omega
  refine loopI {i : Nat // i ≤ l.length ∧ ∀ j, j < i → l.getD j [] = m.getD j []} (fun i => [(0, .sl .no z (slis l)), (1, .sl .no y (slis m)), (5, .int .i64 (i.1 : Nat))]) (fun _ => ⟨[], [], 28⟩) (fun i => l.length - i.1) ⟨0, by simp⟩ (fun _ => rfl) ?_ ?_
  · exact ⟨⟨wkD_eq rfl, rfl, wkD_eq rfl, rfl, wkD_eq rfl, rfl, trivial⟩, trivial, trivial⟩
  rintro ⟨i, hi, hj⟩
  simp (config := {dsimp := false}) only [↓a_range, ↓roundQ_normal, ↓roundQ_ret, ↓roundQ_exit, ↓a_skip, ↓a_exit, ↓a_ret, ↓a_seq, ↓a_cond, ↓a_block, ↓a_loop, ↓a_region, ↓a_draw, ↓a_region', ↓a_draw', ↓then_key, ↓with_key, ↓withY_key, ↓cond_key, ↓one_key, ↓thenQ_normal, ↓thenQ_exit, ↓thenQ_ret, ↓blockQ_normal, ↓blockQ_exit, ↓blockQ_ret, ↓aops, ↓aopsD, ↓imp_tt, ↓imp_ff, ↓imp_tf, ↓imp_ft, ↓imp_tnt, ↓imp_tnf, ↓imp_fnt, ↓imp_fnf, look, setL, resQ, argSlots, buildSt, buildArr, intsOf, eqB, keepSl, bindM, bindP, opR, okIf, ok, bad, ev, ofConst, putS, updS, S.upd, dstOk, yieldD, yieldY, strBin, isShift, cellD, retQ, resD, stripO, convR, conv2R, makeR, indexR, indexAddrR, fieldAddrR, loadR, storeR, allocR, boxR, pickR, buildR, buildSliceR, lenR, nilCheckR, extractR, funcR, ipSlice, sliceR, appendR, callR, minR, maxR, S.box, S.tok, TK.sh, known, tsize, destI, ownTok, srcI, isIn, isSl, isSt, appendI, appendL, bnd, aggBin, nilD, isPtr, fieldOf, sized, enumS, seeR, seeL, hasB, flat, flats, List.foldl_nil, List.foldl_cons, Option.getD_some, Option.getD_none, if_true, if_false, reduceIte, reduceCtorEq, Nat.reduceEqDiff, Nat.reduceAdd, Nat.reduceMul, Nat.reduceLT, Nat.reduceSub, Nat.reduceLeDiff, true_and, and_true, List.map_cons, List.map_nil, List.size_toArray, List.length_cons, List.length_nil, Option.map_some, Option.map_none, Option.bind_some, true_implies, Bool.false_eq_true, Bool.true_eq_false, false_implies, Bool.not_true, Bool.not_false, List.getElem?_cons_zero, List.getElem?_cons_succ, implies_true, and_self, Bool.and_true, Bool.true_and, BEq.rfl, and_assoc, Option.isSome_some, Option.isSome_none, List.take_succ_cons, List.take_zero, List.set_cons_zero, List.set_cons_succ, List.forall_mem_cons, List.not_mem_nil, forall_const, List.range, List.range.loop, ne_eq, not_false_eq_true, not_true_eq_false, List.cons.injEq, Prod.mk.injEq, List.append_nil, List.nil_append, List.cons_append, false_and, and_false, Bool.false_and, Bool.and_false, Nat.reduceBNe, Nat.reduceBEq, beq_self_eq_true, bne_self_eq_false, Nat.reduceBeqDiff, Bool.or_false, Bool.false_or, Bool.or_true, Bool.true_or, vs0, vs1, vs2, vs3, vs4, tys, gl0, Tryd.ntmps14, Tryd.results14, slis_length]
  refine ⟨fun hh => ?_, fun hh => ?_⟩
  · have hh := of_decide_eq_true hh
    obtain rfl : z = 1 := hz.resolve_left (fun e => by have := slis_eq_nil e; omega)
    obtain rfl : y = 1 := hy.resolve_left (fun e => by have := slis_eq_nil e; omega)
    have g1 := slis_get l i (by omega)
    have g2 := slis_get m i (by omega)
    have hil : i < l.length := by omega
    have him : i < m.length := by omega
    have hne := strN_inj (h6 _ (getD_mem hil)).2 (h7 _ (getD_mem him)).2
    refine drawI [0, 1, 5] (by kernel_rfl) ?_
    simp (config := {dsimp := false}) only [↓a_range, ↓roundQ_normal, ↓roundQ_ret, ↓roundQ_exit, ↓a_skip, ↓a_exit, ↓a_ret, ↓a_seq, ↓a_cond, ↓a_block, ↓a_loop, ↓a_region, ↓a_draw, ↓a_region', ↓a_draw', ↓then_key, ↓with_key, ↓withY_key, ↓cond_key, ↓one_key, ↓thenQ_normal, ↓thenQ_exit, ↓thenQ_ret, ↓blockQ_normal, ↓blockQ_exit, ↓blockQ_ret, ↓aops, ↓aopsD, ↓imp_tt, ↓imp_ff, ↓imp_tf, ↓imp_ft, ↓imp_tnt, ↓imp_tnf, ↓imp_fnt, ↓imp_fnf, look, setL, resQ, argSlots, buildSt, buildArr, intsOf, eqB, keepSl, bindM, bindP, opR, okIf, ok, bad, ev, ofConst, putS, updS, S.upd, dstOk, yieldD, yieldY, strBin, isShift, cellD, retQ, resD, stripO, convR, conv2R, makeR, indexR, indexAddrR, fieldAddrR, loadR, storeR, allocR, boxR, pickR, buildR, buildSliceR, lenR, nilCheckR, extractR, funcR, ipSlice, sliceR, appendR, callR, minR, maxR, S.box, S.tok, TK.sh, known, tsize, destI, ownTok, srcI, isIn, isSl, isSt, appendI, appendL, bnd, aggBin, nilD, isPtr, fieldOf, sized, enumS, seeR, seeL, hasB, flat, flats, List.foldl_nil, List.foldl_cons, Option.getD_some, Option.getD_none, if_true, if_false, reduceIte, reduceCtorEq, Nat.reduceEqDiff, Nat.reduceAdd, Nat.reduceMul, Nat.reduceLT, Nat.reduceSub, Nat.reduceLeDiff, true_and, and_true, List.map_cons, List.map_nil, List.size_toArray, List.length_cons, List.length_nil, Option.map_some, Option.map_none, Option.bind_some, true_implies, Bool.false_eq_true, Bool.true_eq_false, false_implies, Bool.not_true, Bool.not_false, List.getElem?_cons_zero, List.getElem?_cons_succ, implies_true, and_self, Bool.and_true, Bool.true_and, BEq.rfl, and_assoc, Option.isSome_some, Option.isSome_none, List.take_succ_cons, List.take_zero, List.set_cons_zero, List.set_cons_succ, List.forall_mem_cons, List.not_mem_nil, forall_const, List.range, List.range.loop, ne_eq, not_false_eq_true, not_true_eq_false, List.cons.injEq, Prod.mk.injEq, List.append_nil, List.nil_append, List.cons_append, false_and, and_false, Bool.false_and, Bool.and_false, Nat.reduceBNe, Nat.reduceBEq, beq_self_eq_true, bne_self_eq_false, Nat.reduceBeqDiff, Bool.or_false, Bool.false_or, Bool.or_true, Bool.true_or, vs0, vs1, vs2, vs3, vs4, tys, gl0, Tryd.ntmps14, Tryd.results14, slis_length, Int.toNat_natCast, g1, g2, hne]
    refine ⟨by omega, by omega, by omega, by omega, fun h5 => ?_, fun h5 => ?_⟩
    · have h5 : ¬ l.getD i [] = m.getD i [] := by simpa using h5
      have : l ≠ m := fun e => by subst e; exact h5 rfl
      rw [ts_slis, ts_slis]
      simp [this]
      all_goals rfl
    · have h5 : l.getD i [] = m.getD i [] := by simpa using h5
      refine ⟨⟨i + 1, by omega, fun j h6 => ?_⟩, ⟨⟨wkD_eq rfl, rfl, wkD_eq rfl, rfl, wkD_eq ?_, rfl, trivial⟩, trivial, trivial⟩, by (try simp only); omega⟩
      · rcases Nat.lt_or_ge j i with h7 | h7
        · exact hj j h7
        · obtain rfl : j = i := by omega
          exact h5
      · exact some_i64 (by (try simp only); omega)
  · have hh := of_decide_eq_false hh
    obtain rfl : i = l.length := by omega
    have : l = m := by
      apply List.ext_getElem h
      intro j h6 h7
      have := hj j h6
      simpa [List.getD, h6, h7] using this
    subst this
    simp (config := {dsimp := false}) only [↓a_range, ↓roundQ_normal, ↓roundQ_ret, ↓roundQ_exit, ↓a_skip, ↓a_exit, ↓a_ret, ↓a_seq, ↓a_cond, ↓a_block, ↓a_loop, ↓a_region, ↓a_draw, ↓a_region', ↓a_draw', ↓then_key, ↓with_key, ↓withY_key, ↓cond_key, ↓one_key, ↓thenQ_normal, ↓thenQ_exit, ↓thenQ_ret, ↓blockQ_normal, ↓blockQ_exit, ↓blockQ_ret, ↓aops, ↓aopsD, ↓imp_tt, ↓imp_ff, ↓imp_tf, ↓imp_ft, ↓imp_tnt, ↓imp_tnf, ↓imp_fnt, ↓imp_fnf, look, setL, resQ, argSlots, buildSt, buildArr, intsOf, eqB, keepSl, bindM, bindP, opR, okIf, ok, bad, ev, ofConst, putS, updS, S.upd, dstOk, yieldD, yieldY, strBin, isShift, cellD, retQ, resD, stripO, convR, conv2R, makeR, indexR, indexAddrR, fieldAddrR, loadR, storeR, allocR, boxR, pickR, buildR, buildSliceR, lenR, nilCheckR, extractR, funcR, ipSlice, sliceR, appendR, callR, minR, maxR, S.box, S.tok, TK.sh, known, tsize, destI, ownTok, srcI, isIn, isSl, isSt, appendI, appendL, bnd, aggBin, nilD, isPtr, fieldOf, sized, enumS, seeR, seeL, hasB, flat, flats, List.foldl_nil, List.foldl_cons, Option.getD_some, Option.getD_none, if_true, if_false, reduceIte, reduceCtorEq, Nat.reduceEqDiff, Nat.reduceAdd, Nat.reduceMul, Nat.reduceLT, Nat.reduceSub, Nat.reduceLeDiff, true_and, and_true, List.map_cons, List.map_nil, List.size_toArray, List.length_cons, List.length_nil, Option.map_some, Option.map_none, Option.bind_some, true_implies, Bool.false_eq_true, Bool.true_eq_false, false_implies, Bool.not_true, Bool.not_false, List.getElem?_cons_zero, List.getElem?_cons_succ, implies_true, and_self, Bool.and_true, Bool.true_and, BEq.rfl, and_assoc, Option.isSome_some, Option.isSome_none, List.take_succ_cons, List.take_zero, List.set_cons_zero, List.set_cons_succ, List.forall_mem_cons, List.not_mem_nil, forall_const, List.range, List.range.loop, ne_eq, not_false_eq_true, not_true_eq_false, List.cons.injEq, Prod.mk.injEq, List.append_nil, List.nil_append, List.cons_append, false_and, and_false, Bool.false_and, Bool.and_false, Nat.reduceBNe, Nat.reduceBEq, beq_self_eq_true, bne_self_eq_false, Nat.reduceBeqDiff, Bool.or_false, Bool.false_or, Bool.or_true, Bool.true_or, vs0, vs1, vs2, vs3, vs4, tys, gl0, Tryd.ntmps14, Tryd.results14, ts_slis]
    simp
    all_goals rfl
end Go.Vi.C8
end

section
set_option linter.unusedVariables false
set_option linter.unusedSimpArgs false
set_option maxHeartbeats 0
set_option maxRecDepth 20000
namespace Go.Vi.C8
open Go.Proofs

theorem needs_le : ∀ (n i : Nat), needsN i n ≤ n := by
  intro n
  induction n using Nat.strongRecOn with
  | _ n ih =>
    intro i
    rw [needsN]
    split
    · omega
    · have := ih ((n + 1) / 2) (by omega) (i / 2)
      split <;> omega
theorem needs_one {i n : Nat} (h : n ≤ 1) : needsN i n = 0 := by rw [needsN]; simp [h]
theorem needs_gt {i n : Nat} (h : ¬ n ≤ 1) : needsN i n = (if aloneN i n = true then 0 else 1) + needsN (i / 2) ((n + 1) / 2) := by rw [needsN]; simp [h]
theorem fold_one {i n : Nat} {x : List Int} {b : L2} (h : n ≤ 1) : foldN x i n b = x := by rw [foldN]; simp [h]
theorem fold_gt {i n : Nat} {x : List Int} {b : L2} (h : ¬ n ≤ 1) : foldN x i n b = if aloneN i n = true then foldN (H2 x x) (i / 2) ((n + 1) / 2) b
    else if i % 2 = 0 then foldN (H2 x (b.getD 0 [])) (i / 2) ((n + 1) / 2) (b.drop 1) else foldN (H2 (b.getD 0 []) x) (i / 2) ((n + 1) / 2) (b.drop 1) := by rw [foldN]; simp [h]
theorem c_alone : Contract E 41 := by
  refine contract_see hE hgl (show E.P.funcs[41]? = some Tryd.f41 from Tryd.func41) rfl (p := sp_alone) (fun _ _ _ => rfl) ?_
  intro args hv
  unfold sp_alone at hv ⊢
  split at hv
  case h_2 => exact hv.elim
  rename_i i n
  refine ⟨by simp, Nat.le_of_ble_eq_true rfl, ?_⟩
  simp only [givesIf] at hv
  obtain ⟨i0, n0, h1, h2⟩ := hv
  obtain ⟨i, rfl⟩ : ∃ k : Nat, i = (k : Int) := ⟨i.toNat, by omega⟩
  obtain ⟨n, rfl⟩ : ∃ k : Nat, n = (k : Int) := ⟨n.toNat, by omega⟩
  have w1 : IntKind.wrap .i64 ((n : Int) - 1) = (n : Int) - 1 := IntWalk.i64_in _ (by omega)
  have e1 := even_dec i
  have e3 : aloneN (i : Int).toNat (n : Int).toNat = aloneN i n := rfl
  rcases Nat.mod_two_eq_zero_or_one i with h | h
  · rw [decide_eq_true h] at e1
    simp (config := {dsimp := false}) only [↓a_range, ↓roundQ_normal, ↓roundQ_ret, ↓roundQ_exit, ↓a_skip, ↓a_exit, ↓a_ret, ↓a_seq, ↓a_cond, ↓a_block, ↓a_loop, ↓a_region, ↓a_draw, ↓a_region', ↓a_draw', ↓then_key, ↓with_key, ↓withY_key, ↓cond_key, ↓one_key, ↓thenQ_normal, ↓thenQ_exit, ↓thenQ_ret, ↓blockQ_normal, ↓blockQ_exit, ↓blockQ_ret, ↓aops, ↓aopsD, ↓imp_tt, ↓imp_ff, ↓imp_tf, ↓imp_ft, ↓imp_tnt, ↓imp_tnf, ↓imp_fnt, ↓imp_fnf, look, setL, resQ, argSlots, buildSt, buildArr, intsOf, eqB, keepSl, bindM, bindP, opR, okIf, ok, bad, ev, ofConst, putS, updS, S.upd, dstOk, yieldD, yieldY, strBin, isShift, cellD, retQ, resD, stripO, convR, conv2R, makeR, indexR, indexAddrR, fieldAddrR, loadR, storeR, allocR, boxR, pickR, buildR, buildSliceR, lenR, nilCheckR, extractR, funcR, ipSlice, sliceR, appendR, callR, minR, maxR, S.box, S.tok, TK.sh, known, tsize, destI, ownTok, srcI, isIn, isSl, isSt, appendI, appendL, bnd, aggBin, nilD, isPtr, fieldOf, sized, enumS, seeR, seeL, hasB, flat, flats, List.foldl_nil, List.foldl_cons, Option.getD_some, Option.getD_none, if_true, if_false, reduceIte, reduceCtorEq, Nat.reduceEqDiff, Nat.reduceAdd, Nat.reduceMul, Nat.reduceLT, Nat.reduceSub, Nat.reduceLeDiff, true_and, and_true, List.map_cons, List.map_nil, List.size_toArray, List.length_cons, List.length_nil, Option.map_some, Option.map_none, Option.bind_some, true_implies, Bool.false_eq_true, Bool.true_eq_false, false_implies, Bool.not_true, Bool.not_false, List.getElem?_cons_zero, List.getElem?_cons_succ, implies_true, and_self, Bool.and_true, Bool.true_and, BEq.rfl, and_assoc, Option.isSome_some, Option.isSome_none, List.take_succ_cons, List.take_zero, List.set_cons_zero, List.set_cons_succ, List.forall_mem_cons, List.not_mem_nil, forall_const, List.range, List.range.loop, ne_eq, not_false_eq_true, not_true_eq_false, List.cons.injEq, Prod.mk.injEq, List.append_nil, List.nil_append, List.cons_append, false_and, and_false, Bool.false_and, Bool.and_false, Nat.reduceBNe, Nat.reduceBEq, beq_self_eq_true, bne_self_eq_false, Nat.reduceBeqDiff, Bool.or_false, Bool.false_or, Bool.or_true, Bool.true_or, vs0, vs1, vs2, vs3, vs4, tys, gl0, Tryd.ntmps41, Tryd.results41, w1, e1]
    rw [e3]
    refine ⟨by decide, congrArg D.bool ?_⟩
    unfold aloneN
    rw [decide_eq_true h, Bool.true_and]
    exact decide_eq_decide.2 (by omega)
  · rw [decide_eq_false (show ¬ i % 2 = 0 by omega)] at e1
    simp (config := {dsimp := false}) only [↓a_range, ↓roundQ_normal, ↓roundQ_ret, ↓roundQ_exit, ↓a_skip, ↓a_exit, ↓a_ret, ↓a_seq, ↓a_cond, ↓a_block, ↓a_loop, ↓a_region, ↓a_draw, ↓a_region', ↓a_draw', ↓then_key, ↓with_key, ↓withY_key, ↓cond_key, ↓one_key, ↓thenQ_normal, ↓thenQ_exit, ↓thenQ_ret, ↓blockQ_normal, ↓blockQ_exit, ↓blockQ_ret, ↓aops, ↓aopsD, ↓imp_tt, ↓imp_ff, ↓imp_tf, ↓imp_ft, ↓imp_tnt, ↓imp_tnf, ↓imp_fnt, ↓imp_fnf, look, setL, resQ, argSlots, buildSt, buildArr, intsOf, eqB, keepSl, bindM, bindP, opR, okIf, ok, bad, ev, ofConst, putS, updS, S.upd, dstOk, yieldD, yieldY, strBin, isShift, cellD, retQ, resD, stripO, convR, conv2R, makeR, indexR, indexAddrR, fieldAddrR, loadR, storeR, allocR, boxR, pickR, buildR, buildSliceR, lenR, nilCheckR, extractR, funcR, ipSlice, sliceR, appendR, callR, minR, maxR, S.box, S.tok, TK.sh, known, tsize, destI, ownTok, srcI, isIn, isSl, isSt, appendI, appendL, bnd, aggBin, nilD, isPtr, fieldOf, sized, enumS, seeR, seeL, hasB, flat, flats, List.foldl_nil, List.foldl_cons, Option.getD_some, Option.getD_none, if_true, if_false, reduceIte, reduceCtorEq, Nat.reduceEqDiff, Nat.reduceAdd, Nat.reduceMul, Nat.reduceLT, Nat.reduceSub, Nat.reduceLeDiff, true_and, and_true, List.map_cons, List.map_nil, List.size_toArray, List.length_cons, List.length_nil, Option.map_some, Option.map_none, Option.bind_some, true_implies, Bool.false_eq_true, Bool.true_eq_false, false_implies, Bool.not_true, Bool.not_false, List.getElem?_cons_zero, List.getElem?_cons_succ, implies_true, and_self, Bool.and_true, Bool.true_and, BEq.rfl, and_assoc, Option.isSome_some, Option.isSome_none, List.take_succ_cons, List.take_zero, List.set_cons_zero, List.set_cons_succ, List.forall_mem_cons, List.not_mem_nil, forall_const, List.range, List.range.loop, ne_eq, not_false_eq_true, not_true_eq_false, List.cons.injEq, Prod.mk.injEq, List.append_nil, List.nil_append, List.cons_append, false_and, and_false, Bool.false_and, Bool.and_false, Nat.reduceBNe, Nat.reduceBEq, beq_self_eq_true, bne_self_eq_false, Nat.reduceBeqDiff, Bool.or_false, Bool.false_or, Bool.or_true, Bool.true_or, vs0, vs1, vs2, vs3, vs4, tys, gl0, Tryd.ntmps41, Tryd.results41, w1, e1]
    rw [e3]
    refine ⟨by decide, congrArg D.bool ?_⟩
    unfold aloneN
    rw [decide_eq_false (show ¬ i % 2 = 0 by omega), Bool.false_and]
theorem c_needs : Contract E 40 := by
  refine contract_see hE hgl (show E.P.funcs[40]? = some Tryd.f40 from Tryd.func40) rfl (p := sp_needs) (fun _ _ _ => rfl) ?_
  intro args hv
  unfold sp_needs at hv ⊢
  split at hv
  case h_2 => exact hv.elim
  rename_i i n
  refine ⟨by simp, Nat.le_of_ble_eq_true rfl, ?_⟩
  simp only [givesIf] at hv
  obtain ⟨i0, n0, h1, h2⟩ := hv
  obtain ⟨i, rfl⟩ : ∃ k : Nat, i = (k : Int) := ⟨i.toNat, by omega⟩
  obtain ⟨n, rfl⟩ : ∃ k : Nat, n = (k : Int) := ⟨n.toNat, by omega⟩
  have e3 : needsN (i : Int).toNat (n : Int).toNat = needsN i n := rfl
  simp (config := {dsimp := false}) only [↓a_range, ↓roundQ_normal, ↓roundQ_ret, ↓roundQ_exit, ↓a_skip, ↓a_exit, ↓a_ret, ↓a_seq, ↓a_cond, ↓a_block, ↓a_loop, ↓a_region, ↓a_draw, ↓a_region', ↓a_draw', ↓then_key, ↓with_key, ↓withY_key, ↓cond_key, ↓one_key, ↓thenQ_normal, ↓thenQ_exit, ↓thenQ_ret, ↓blockQ_normal, ↓blockQ_exit, ↓blockQ_ret, ↓aops, ↓aopsD, ↓imp_tt, ↓imp_ff, ↓imp_tf, ↓imp_ft, ↓imp_tnt, ↓imp_tnf, ↓imp_fnt, ↓imp_fnf, look, setL, resQ, argSlots, buildSt, buildArr, intsOf, eqB, keepSl, bindM, bindP, opR, okIf, ok, bad, ev, ofConst, putS, updS, S.upd, dstOk, yieldD, yieldY, strBin, isShift, cellD, retQ, resD, stripO, convR, conv2R, makeR, indexR, indexAddrR, fieldAddrR, loadR, storeR, allocR, boxR, pickR, buildR, buildSliceR, lenR, nilCheckR, extractR, funcR, ipSlice, sliceR, appendR, callR, minR, maxR, S.box, S.tok, TK.sh, known, tsize, destI, ownTok, srcI, isIn, isSl, isSt, appendI, appendL, bnd, aggBin, nilD, isPtr, fieldOf, sized, enumS, seeR, seeL, hasB, flat, flats, List.foldl_nil, List.foldl_cons, Option.getD_some, Option.getD_none, if_true, if_false, reduceIte, reduceCtorEq, Nat.reduceEqDiff, Nat.reduceAdd, Nat.reduceMul, Nat.reduceLT, Nat.reduceSub, Nat.reduceLeDiff, true_and, and_true, List.map_cons, List.map_nil, List.size_toArray, List.length_cons, List.length_nil, Option.map_some, Option.map_none, Option.bind_some, true_implies, Bool.false_eq_true, Bool.true_eq_false, false_implies, Bool.not_true, Bool.not_false, List.getElem?_cons_zero, List.getElem?_cons_succ, implies_true, and_self, Bool.and_true, Bool.true_and, BEq.rfl, and_assoc, Option.isSome_some, Option.isSome_none, List.take_succ_cons, List.take_zero, List.set_cons_zero, List.set_cons_succ, List.forall_mem_cons, List.not_mem_nil, forall_const, List.range, List.range.loop, ne_eq, not_false_eq_true, not_true_eq_false, List.cons.injEq, Prod.mk.injEq, List.append_nil, List.nil_append, List.cons_append, false_and, and_false, Bool.false_and, Bool.and_false, Nat.reduceBNe, Nat.reduceBEq, beq_self_eq_true, bne_self_eq_false, Nat.reduceBeqDiff, Bool.or_false, Bool.false_or, Bool.or_true, Bool.true_or, vs0, vs1, vs2, vs3, vs4, tys, gl0, Tryd.ntmps40, Tryd.results40]
  refine loopI {x : Nat × Nat × Nat // x.1 < 10000000 ∧ x.2.1 < 10000000 ∧ x.2.2 + needsN x.1 x.2.1 = needsN i n} (fun x => [(0, .int .i64 (x.1.1 : Nat)), (1, .int .i64 (x.1.2.1 : Nat)), (5, .int .i64 (x.1.2.2 : Nat))]) (fun _ => ⟨[], [], 8⟩) (fun x => x.1.2.1) ⟨(i, n, 0), by simp only; omega⟩ (fun _ => rfl) ⟨⟨wkD_eq rfl, rfl, wkD_eq rfl, rfl, wkD_eq rfl, rfl, trivial⟩, trivial, trivial⟩ ?_
  rintro ⟨⟨a, b, c⟩, ha, hb, hc⟩
  simp only at ha hb hc ⊢
  have q1 := half a ha
  have q2 := halfup b hb
  have e4 : aloneN (a : Int).toNat (b : Int).toNat = aloneN a b := rfl
  have hle := needs_le n i
  simp (config := {dsimp := false}) only [↓a_range, ↓roundQ_normal, ↓roundQ_ret, ↓roundQ_exit, ↓a_skip, ↓a_exit, ↓a_ret, ↓a_seq, ↓a_cond, ↓a_block, ↓a_loop, ↓a_region, ↓a_draw, ↓a_region', ↓a_draw', ↓then_key, ↓with_key, ↓withY_key, ↓cond_key, ↓one_key, ↓thenQ_normal, ↓thenQ_exit, ↓thenQ_ret, ↓blockQ_normal, ↓blockQ_exit, ↓blockQ_ret, ↓aops, ↓aopsD, ↓imp_tt, ↓imp_ff, ↓imp_tf, ↓imp_ft, ↓imp_tnt, ↓imp_tnf, ↓imp_fnt, ↓imp_fnf, look, setL, resQ, argSlots, buildSt, buildArr, intsOf, eqB, keepSl, bindM, bindP, opR, okIf, ok, bad, ev, ofConst, putS, updS, S.upd, dstOk, yieldD, yieldY, strBin, isShift, cellD, retQ, resD, stripO, convR, conv2R, makeR, indexR, indexAddrR, fieldAddrR, loadR, storeR, allocR, boxR, pickR, buildR, buildSliceR, lenR, nilCheckR, extractR, funcR, ipSlice, sliceR, appendR, callR, minR, maxR, S.box, S.tok, TK.sh, known, tsize, destI, ownTok, srcI, isIn, isSl, isSt, appendI, appendL, bnd, aggBin, nilD, isPtr, fieldOf, sized, enumS, seeR, seeL, hasB, flat, flats, List.foldl_nil, List.foldl_cons, Option.getD_some, Option.getD_none, if_true, if_false, reduceIte, reduceCtorEq, Nat.reduceEqDiff, Nat.reduceAdd, Nat.reduceMul, Nat.reduceLT, Nat.reduceSub, Nat.reduceLeDiff, true_and, and_true, List.map_cons, List.map_nil, List.size_toArray, List.length_cons, List.length_nil, Option.map_some, Option.map_none, Option.bind_some, true_implies, Bool.false_eq_true, Bool.true_eq_false, false_implies, Bool.not_true, Bool.not_false, List.getElem?_cons_zero, List.getElem?_cons_succ, implies_true, and_self, Bool.and_true, Bool.true_and, BEq.rfl, and_assoc, Option.isSome_some, Option.isSome_none, List.take_succ_cons, List.take_zero, List.set_cons_zero, List.set_cons_succ, List.forall_mem_cons, List.not_mem_nil, forall_const, List.range, List.range.loop, ne_eq, not_false_eq_true, not_true_eq_false, List.cons.injEq, Prod.mk.injEq, List.append_nil, List.nil_append, List.cons_append, false_and, and_false, Bool.false_and, Bool.and_false, Nat.reduceBNe, Nat.reduceBEq, beq_self_eq_true, bne_self_eq_false, Nat.reduceBeqDiff, Bool.or_false, Bool.false_or, Bool.or_true, Bool.true_or, vs0, vs1, vs2, vs3, vs4, tys, gl0, Tryd.ntmps40, Tryd.results40, PF.toR, givesIf, q1, q2, e4, spec_alone, sp_alone, c_alone, b_alone]
  refine ⟨fun hh => ?_, fun hh => ?_⟩
  · have hh := of_decide_eq_true hh
    have hg := needs_gt (i := a) (n := b) (by omega)
    refine ⟨by omega, by omega, by omega, by omega, fun h3 => ?_, fun h3 => ?_⟩
    · have h3 : aloneN a b = false := by simpa using h3
      rw [h3] at hg
      simp only [Bool.false_eq_true, if_false] at hg
      refine ⟨by decide, by decide, ⟨(a / 2, (b + 1) / 2, c + 1), by simp only; omega⟩, ⟨⟨wkD_eq rfl, rfl, wkD_eq rfl, rfl, wkD_eq ?_, rfl, trivial⟩, trivial, trivial⟩, by (try simp only); omega⟩
      exact congrArg (fun z => some (D.int .i64 z)) (IntWalk.i64_in _ (by omega))
    · have h3 : aloneN a b = true := by simpa using h3
      rw [h3] at hg
      simp only [if_true] at hg
      exact ⟨by decide, by decide, ⟨(a / 2, (b + 1) / 2, c), by simp only; omega⟩, ⟨⟨wkD_eq rfl, rfl, wkD_eq rfl, rfl, wkD_eq rfl, rfl, trivial⟩, trivial, trivial⟩, by (try simp only); omega⟩
  · have hh := of_decide_eq_false hh
    have := needs_one (i := a) (n := b) (by omega)
    rw [e3]
    exact congrArg (fun z : Nat => D.int .i64 (z : Int)) (by omega)
theorem c_fold : Contract E 22 := by
  refine contract_see hE hgl (show E.P.funcs[22]? = some Tryd.f22 from Tryd.func22) rfl (p := sp_fold) (fun _ _ _ => rfl) ?_
  intro args hv
  unfold sp_fold at hv ⊢
  split at hv
  case h_2 => exact hv.elim
  rename_i h i n z es
  refine ⟨by simp, Nat.le_of_ble_eq_true rfl, ?_⟩
  simp only [givesIf] at hv
  obtain ⟨hh, hz, ⟨l, rfl, hl⟩⟩ := hv
  change awp E Tryd.f22.ntmps _ (retQ E Tryd.f22 (foldV h i n (hs (arrs l)))) _ _
  rw [hs_arrs]
  by_cases c1 : i < 0
  · have d1 : decide (i < 0) = true := decide_eq_true c1
    have hV : foldV h i n l = .tup [.arr .u8 32 (List.replicate 32 0), .bool false] := if_pos (.inl c1)
    simp (config := {dsimp := false}) only [↓a_range, ↓roundQ_normal, ↓roundQ_ret, ↓roundQ_exit, ↓a_skip, ↓a_exit, ↓a_ret, ↓a_seq, ↓a_cond, ↓a_block, ↓a_loop, ↓a_region, ↓a_draw, ↓a_region', ↓a_draw', ↓then_key, ↓with_key, ↓withY_key, ↓cond_key, ↓one_key, ↓thenQ_normal, ↓thenQ_exit, ↓thenQ_ret, ↓blockQ_normal, ↓blockQ_exit, ↓blockQ_ret, ↓aops, ↓aopsD, ↓imp_tt, ↓imp_ff, ↓imp_tf, ↓imp_ft, ↓imp_tnt, ↓imp_tnf, ↓imp_fnt, ↓imp_fnf, look, setL, resQ, argSlots, buildSt, buildArr, intsOf, eqB, keepSl, bindM, bindP, opR, okIf, ok, bad, ev, ofConst, putS, updS, S.upd, dstOk, yieldD, yieldY, strBin, isShift, cellD, retQ, resD, stripO, convR, conv2R, makeR, indexR, indexAddrR, fieldAddrR, loadR, storeR, allocR, boxR, pickR, buildR, buildSliceR, lenR, nilCheckR, extractR, funcR, ipSlice, sliceR, appendR, callR, minR, maxR, S.box, S.tok, TK.sh, known, tsize, destI, ownTok, srcI, isIn, isSl, isSt, appendI, appendL, bnd, aggBin, nilD, isPtr, fieldOf, sized, enumS, seeR, seeL, hasB, flat, flats, List.foldl_nil, List.foldl_cons, Option.getD_some, Option.getD_none, if_true, if_false, reduceIte, reduceCtorEq, Nat.reduceEqDiff, Nat.reduceAdd, Nat.reduceMul, Nat.reduceLT, Nat.reduceSub, Nat.reduceLeDiff, true_and, and_true, List.map_cons, List.map_nil, List.size_toArray, List.length_cons, List.length_nil, Option.map_some, Option.map_none, Option.bind_some, true_implies, Bool.false_eq_true, Bool.true_eq_false, false_implies, Bool.not_true, Bool.not_false, List.getElem?_cons_zero, List.getElem?_cons_succ, implies_true, and_self, Bool.and_true, Bool.true_and, BEq.rfl, and_assoc, Option.isSome_some, Option.isSome_none, List.take_succ_cons, List.take_zero, List.set_cons_zero, List.set_cons_succ, List.forall_mem_cons, List.not_mem_nil, forall_const, List.range, List.range.loop, ne_eq, not_false_eq_true, not_true_eq_false, List.cons.injEq, Prod.mk.injEq, List.append_nil, List.nil_append, List.cons_append, false_and, and_false, Bool.false_and, Bool.and_false, Nat.reduceBNe, Nat.reduceBEq, beq_self_eq_true, bne_self_eq_false, Nat.reduceBeqDiff, Bool.or_false, Bool.false_or, Bool.or_true, Bool.true_or, vs0, vs1, vs2, vs3, vs4, tys, gl0, Tryd.ntmps22, Tryd.results22, arrs_length, d1, hV]
  have d1 : decide (i < 0) = false := decide_eq_false c1
  by_cases c2 : i ≥ n
  · have d2 : decide (i ≥ n) = true := decide_eq_true c2
    have hV : foldV h i n l = .tup [.arr .u8 32 (List.replicate 32 0), .bool false] := if_pos (.inr (.inl c2))
    simp (config := {dsimp := false}) only [↓a_range, ↓roundQ_normal, ↓roundQ_ret, ↓roundQ_exit, ↓a_skip, ↓a_exit, ↓a_ret, ↓a_seq, ↓a_cond, ↓a_block, ↓a_loop, ↓a_region, ↓a_draw, ↓a_region', ↓a_draw', ↓then_key, ↓with_key, ↓withY_key, ↓cond_key, ↓one_key, ↓thenQ_normal, ↓thenQ_exit, ↓thenQ_ret, ↓blockQ_normal, ↓blockQ_exit, ↓blockQ_ret, ↓aops, ↓aopsD, ↓imp_tt, ↓imp_ff, ↓imp_tf, ↓imp_ft, ↓imp_tnt, ↓imp_tnf, ↓imp_fnt, ↓imp_fnf, look, setL, resQ, argSlots, buildSt, buildArr, intsOf, eqB, keepSl, bindM, bindP, opR, okIf, ok, bad, ev, ofConst, putS, updS, S.upd, dstOk, yieldD, yieldY, strBin, isShift, cellD, retQ, resD, stripO, convR, conv2R, makeR, indexR, indexAddrR, fieldAddrR, loadR, storeR, allocR, boxR, pickR, buildR, buildSliceR, lenR, nilCheckR, extractR, funcR, ipSlice, sliceR, appendR, callR, minR, maxR, S.box, S.tok, TK.sh, known, tsize, destI, ownTok, srcI, isIn, isSl, isSt, appendI, appendL, bnd, aggBin, nilD, isPtr, fieldOf, sized, enumS, seeR, seeL, hasB, flat, flats, List.foldl_nil, List.foldl_cons, Option.getD_some, Option.getD_none, if_true, if_false, reduceIte, reduceCtorEq, Nat.reduceEqDiff, Nat.reduceAdd, Nat.reduceMul, Nat.reduceLT, Nat.reduceSub, Nat.reduceLeDiff, true_and, and_true, List.map_cons, List.map_nil, List.size_toArray, List.length_cons, List.length_nil, Option.map_some, Option.map_none, Option.bind_some, true_implies, Bool.false_eq_true, Bool.true_eq_false, false_implies, Bool.not_true, Bool.not_false, List.getElem?_cons_zero, List.getElem?_cons_succ, implies_true, and_self, Bool.and_true, Bool.true_and, BEq.rfl, and_assoc, Option.isSome_some, Option.isSome_none, List.take_succ_cons, List.take_zero, List.set_cons_zero, List.set_cons_succ, List.forall_mem_cons, List.not_mem_nil, forall_const, List.range, List.range.loop, ne_eq, not_false_eq_true, not_true_eq_false, List.cons.injEq, Prod.mk.injEq, List.append_nil, List.nil_append, List.cons_append, false_and, and_false, Bool.false_and, Bool.and_false, Nat.reduceBNe, Nat.reduceBEq, beq_self_eq_true, bne_self_eq_false, Nat.reduceBeqDiff, Bool.or_false, Bool.false_or, Bool.or_true, Bool.true_or, vs0, vs1, vs2, vs3, vs4, tys, gl0, Tryd.ntmps22, Tryd.results22, arrs_length, d1, d2, hV]
  have d2 : decide (i ≥ n) = false := decide_eq_false c2
  by_cases c3 : n > 1048576
  · have d3 : decide (n > 1048576) = true := decide_eq_true c3
    have hV : foldV h i n l = .tup [.arr .u8 32 (List.replicate 32 0), .bool false] := if_pos (.inr (.inr (.inl c3)))
    simp (config := {dsimp := false}) only [↓a_range, ↓roundQ_normal, ↓roundQ_ret, ↓roundQ_exit, ↓a_skip, ↓a_exit, ↓a_ret, ↓a_seq, ↓a_cond, ↓a_block, ↓a_loop, ↓a_region, ↓a_draw, ↓a_region', ↓a_draw', ↓then_key, ↓with_key, ↓withY_key, ↓cond_key, ↓one_key, ↓thenQ_normal, ↓thenQ_exit, ↓thenQ_ret, ↓blockQ_normal, ↓blockQ_exit, ↓blockQ_ret, ↓aops, ↓aopsD, ↓imp_tt, ↓imp_ff, ↓imp_tf, ↓imp_ft, ↓imp_tnt, ↓imp_tnf, ↓imp_fnt, ↓imp_fnf, look, setL, resQ, argSlots, buildSt, buildArr, intsOf, eqB, keepSl, bindM, bindP, opR, okIf, ok, bad, ev, ofConst, putS, updS, S.upd, dstOk, yieldD, yieldY, strBin, isShift, cellD, retQ, resD, stripO, convR, conv2R, makeR, indexR, indexAddrR, fieldAddrR, loadR, storeR, allocR, boxR, pickR, buildR, buildSliceR, lenR, nilCheckR, extractR, funcR, ipSlice, sliceR, appendR, callR, minR, maxR, S.box, S.tok, TK.sh, known, tsize, destI, ownTok, srcI, isIn, isSl, isSt, appendI, appendL, bnd, aggBin, nilD, isPtr, fieldOf, sized, enumS, seeR, seeL, hasB, flat, flats, List.foldl_nil, List.foldl_cons, Option.getD_some, Option.getD_none, if_true, if_false, reduceIte, reduceCtorEq, Nat.reduceEqDiff, Nat.reduceAdd, Nat.reduceMul, Nat.reduceLT, Nat.reduceSub, Nat.reduceLeDiff, true_and, and_true, List.map_cons, List.map_nil, List.size_toArray, List.length_cons, List.length_nil, Option.map_some, Option.map_none, Option.bind_some, true_implies, Bool.false_eq_true, Bool.true_eq_false, false_implies, Bool.not_true, Bool.not_false, List.getElem?_cons_zero, List.getElem?_cons_succ, implies_true, and_self, Bool.and_true, Bool.true_and, BEq.rfl, and_assoc, Option.isSome_some, Option.isSome_none, List.take_succ_cons, List.take_zero, List.set_cons_zero, List.set_cons_succ, List.forall_mem_cons, List.not_mem_nil, forall_const, List.range, List.range.loop, ne_eq, not_false_eq_true, not_true_eq_false, List.cons.injEq, Prod.mk.injEq, List.append_nil, List.nil_append, List.cons_append, false_and, and_false, Bool.false_and, Bool.and_false, Nat.reduceBNe, Nat.reduceBEq, beq_self_eq_true, bne_self_eq_false, Nat.reduceBeqDiff, Bool.or_false, Bool.false_or, Bool.or_true, Bool.true_or, vs0, vs1, vs2, vs3, vs4, tys, gl0, Tryd.ntmps22, Tryd.results22, arrs_length, d1, d2, d3, hV]
  have d3 : decide (n > 1048576) = false := decide_eq_false c3
  obtain ⟨i, rfl⟩ : ∃ k : Nat, i = (k : Int) := ⟨i.toNat, by omega⟩
  obtain ⟨n, rfl⟩ : ∃ k : Nat, n = (k : Int) := ⟨n.toNat, by omega⟩
  have en : needsN (i : Int).toNat (n : Int).toNat = needsN i n := rfl
  by_cases c4 : l.length = needsN i n
  case neg =>
    have d4 : decide ((l.length : Int) = ((needsN i n : Nat) : Int)) = false := decide_eq_false (by omega)
    have hV : foldV h i n l = .tup [.arr .u8 32 (List.replicate 32 0), .bool false] := if_pos (.inr (.inr (.inr c4)))
    simp (config := {dsimp := false}) only [↓a_range, ↓roundQ_normal, ↓roundQ_ret, ↓roundQ_exit, ↓a_skip, ↓a_exit, ↓a_ret, ↓a_seq, ↓a_cond, ↓a_block, ↓a_loop, ↓a_region, ↓a_draw, ↓a_region', ↓a_draw', ↓then_key, ↓with_key, ↓withY_key, ↓cond_key, ↓one_key, ↓thenQ_normal, ↓thenQ_exit, ↓thenQ_ret, ↓blockQ_normal, ↓blockQ_exit, ↓blockQ_ret, ↓aops, ↓aopsD, ↓imp_tt, ↓imp_ff, ↓imp_tf, ↓imp_ft, ↓imp_tnt, ↓imp_tnf, ↓imp_fnt, ↓imp_fnf, look, setL, resQ, argSlots, buildSt, buildArr, intsOf, eqB, keepSl, bindM, bindP, opR, okIf, ok, bad, ev, ofConst, putS, updS, S.upd, dstOk, yieldD, yieldY, strBin, isShift, cellD, retQ, resD, stripO, convR, conv2R, makeR, indexR, indexAddrR, fieldAddrR, loadR, storeR, allocR, boxR, pickR, buildR, buildSliceR, lenR, nilCheckR, extractR, funcR, ipSlice, sliceR, appendR, callR, minR, maxR, S.box, S.tok, TK.sh, known, tsize, destI, ownTok, srcI, isIn, isSl, isSt, appendI, appendL, bnd, aggBin, nilD, isPtr, fieldOf, sized, enumS, seeR, seeL, hasB, flat, flats, List.foldl_nil, List.foldl_cons, Option.getD_some, Option.getD_none, if_true, if_false, reduceIte, reduceCtorEq, Nat.reduceEqDiff, Nat.reduceAdd, Nat.reduceMul, Nat.reduceLT, Nat.reduceSub, Nat.reduceLeDiff, true_and, and_true, List.map_cons, List.map_nil, List.size_toArray, List.length_cons, List.length_nil, Option.map_some, Option.map_none, Option.bind_some, true_implies, Bool.false_eq_true, Bool.true_eq_false, false_implies, Bool.not_true, Bool.not_false, List.getElem?_cons_zero, List.getElem?_cons_succ, implies_true, and_self, Bool.and_true, Bool.true_and, BEq.rfl, and_assoc, Option.isSome_some, Option.isSome_none, List.take_succ_cons, List.take_zero, List.set_cons_zero, List.set_cons_succ, List.forall_mem_cons, List.not_mem_nil, forall_const, List.range, List.range.loop, ne_eq, not_false_eq_true, not_true_eq_false, List.cons.injEq, Prod.mk.injEq, List.append_nil, List.nil_append, List.cons_append, false_and, and_false, Bool.false_and, Bool.and_false, Nat.reduceBNe, Nat.reduceBEq, beq_self_eq_true, bne_self_eq_false, Nat.reduceBeqDiff, Bool.or_false, Bool.false_or, Bool.or_true, Bool.true_or, vs0, vs1, vs2, vs3, vs4, tys, gl0, Tryd.ntmps22, Tryd.results22, arrs_length, PF.toR, givesIf, d1, d2, d3, d4, en, hV, spec_needs, sp_needs, c_needs, b_needs]
    exact ⟨by omega, by omega, by omega, by omega⟩
  have d4 : decide ((l.length : Int) = ((needsN i n : Nat) : Int)) = true := decide_eq_true (by omega)
  have hV : foldV h i n l = .tup [.arr .u8 32 (foldN h i n l), .bool true] := if_neg (by rw [en]; omega)
  simp (config := {dsimp := false}) only [↓a_range, ↓roundQ_normal, ↓roundQ_ret, ↓roundQ_exit, ↓a_skip, ↓a_exit, ↓a_ret, ↓a_seq, ↓a_cond, ↓a_block, ↓a_loop, ↓a_region, ↓a_draw, ↓a_region', ↓a_draw', ↓then_key, ↓with_key, ↓withY_key, ↓cond_key, ↓one_key, ↓thenQ_normal, ↓thenQ_exit, ↓thenQ_ret, ↓blockQ_normal, ↓blockQ_exit, ↓blockQ_ret, ↓aops, ↓aopsD, ↓imp_tt, ↓imp_ff, ↓imp_tf, ↓imp_ft, ↓imp_tnt, ↓imp_tnf, ↓imp_fnt, ↓imp_fnf, look, setL, resQ, argSlots, buildSt, buildArr, intsOf, eqB, keepSl, bindM, bindP, opR, okIf, ok, bad, ev, ofConst, putS, updS, S.upd, dstOk, yieldD, yieldY, strBin, isShift, cellD, retQ, resD, stripO, convR, conv2R, makeR, indexR, indexAddrR, fieldAddrR, loadR, storeR, allocR, boxR, pickR, buildR, buildSliceR, lenR, nilCheckR, extractR, funcR, ipSlice, sliceR, appendR, callR, minR, maxR, S.box, S.tok, TK.sh, known, tsize, destI, ownTok, srcI, isIn, isSl, isSt, appendI, appendL, bnd, aggBin, nilD, isPtr, fieldOf, sized, enumS, seeR, seeL, hasB, flat, flats, List.foldl_nil, List.foldl_cons, Option.getD_some, Option.getD_none, if_true, if_false, reduceIte, reduceCtorEq, Nat.reduceEqDiff, Nat.reduceAdd, Nat.reduceMul, Nat.reduceLT, Nat.reduceSub, Nat.reduceLeDiff, true_and, and_true, List.map_cons, List.map_nil, List.size_toArray, List.length_cons, List.length_nil, Option.map_some, Option.map_none, Option.bind_some, true_implies, Bool.false_eq_true, Bool.true_eq_false, false_implies, Bool.not_true, Bool.not_false, List.getElem?_cons_zero, List.getElem?_cons_succ, implies_true, and_self, Bool.and_true, Bool.true_and, BEq.rfl, and_assoc, Option.isSome_some, Option.isSome_none, List.take_succ_cons, List.take_zero, List.set_cons_zero, List.set_cons_succ, List.forall_mem_cons, List.not_mem_nil, forall_const, List.range, List.range.loop, ne_eq, not_false_eq_true, not_true_eq_false, List.cons.injEq, Prod.mk.injEq, List.append_nil, List.nil_append, List.cons_append, false_and, and_false, Bool.false_and, Bool.and_false, Nat.reduceBNe, Nat.reduceBEq, beq_self_eq_true, bne_self_eq_false, Nat.reduceBeqDiff, Bool.or_false, Bool.false_or, Bool.or_true, Bool.true_or, vs0, vs1, vs2, vs3, vs4, tys, gl0, Tryd.ntmps22, Tryd.results22, arrs_length, PF.toR, givesIf, d1, d2, d3, d4, en, hV, spec_needs, sp_needs, c_needs, b_needs]
  refine ⟨by omega, by omega, by omega, by omega, ?_⟩
  have hlen : l.length < 2000000 := by have := needs_le n i; omega
  have hz' : l = [] ∨ z = 32 := hz.imp (fun e => List.eq_nil_of_length_eq_zero (arrs_eq_nil e)) (fun e => e)
  refine loopI {x : List Int × Nat × Nat × L2 // (x.2.2.2 = [] ∨ z = 32) ∧ x.1.length = 32 ∧ x.2.1 < 10000000 ∧ x.2.2.1 ≤ 1048576 ∧ h32 x.2.2.2 ∧ x.2.2.2.length < 2000000 ∧ x.2.2.2.length = needsN x.2.1 x.2.2.1 ∧ foldN x.1 x.2.1 x.2.2.1 x.2.2.2 = foldN h i n l} (fun x => [(1, .int .i64 (x.1.2.1 : Nat)), (2, .int .i64 (x.1.2.2.1 : Nat)), (3, .sl .no z (arrs x.1.2.2.2)), (4, .bp 0 0), (8, .bp 4 0)]) (fun x => ⟨[(0, .arr .u8 32 x.1.1), (4, .arr .u8 32 (List.replicate 32 0))], [], 88⟩) (fun x => x.1.2.2.1) ⟨(h, i, n, l), hz', hh, by simp only; omega, by simp only; omega, hl, hlen, c4, rfl⟩ (fun _ => rfl) ⟨⟨wkD_eq rfl, rfl, wkD_eq rfl, rfl, wkD_eq rfl, rfl, wkD_eq rfl, rfl, wkD_eq rfl, rfl, trivial⟩, ⟨rfl, Nat.le_of_ble_eq_true rfl, rfl, rfl, Nat.le_of_ble_eq_true rfl, rfl, trivial⟩, trivial⟩ ?_
  rintro ⟨⟨x, a, b, m⟩, hmz, hx, ha, hb, hm, hml, hmn, hfo⟩
  simp only at hmz hx ha hb hm hml hmn hfo ⊢
  have q1 := half a ha
  have q2 := halfup b (by omega)
  have e4 : aloneN (a : Int).toNat (b : Int).toNat = aloneN a b := rfl
  have ev2 := even_dec a
  by_cases hb1 : b ≤ 1
  · have hd : decide ((b : Int) > 1) = false := decide_eq_false (by omega)
    rw [fold_one hb1] at hfo
    subst hfo
    simp (config := {dsimp := false}) only [↓a_range, ↓roundQ_normal, ↓roundQ_ret, ↓roundQ_exit, ↓a_skip, ↓a_exit, ↓a_ret, ↓a_seq, ↓a_cond, ↓a_block, ↓a_loop, ↓a_region, ↓a_draw, ↓a_region', ↓a_draw', ↓then_key, ↓with_key, ↓withY_key, ↓cond_key, ↓one_key, ↓thenQ_normal, ↓thenQ_exit, ↓thenQ_ret, ↓blockQ_normal, ↓blockQ_exit, ↓blockQ_ret, ↓aops, ↓aopsD, ↓imp_tt, ↓imp_ff, ↓imp_tf, ↓imp_ft, ↓imp_tnt, ↓imp_tnf, ↓imp_fnt, ↓imp_fnf, look, setL, resQ, argSlots, buildSt, buildArr, intsOf, eqB, keepSl, bindM, bindP, opR, okIf, ok, bad, ev, ofConst, putS, updS, S.upd, dstOk, yieldD, yieldY, strBin, isShift, cellD, retQ, resD, stripO, convR, conv2R, makeR, indexR, indexAddrR, fieldAddrR, loadR, storeR, allocR, boxR, pickR, buildR, buildSliceR, lenR, nilCheckR, extractR, funcR, ipSlice, sliceR, appendR, callR, minR, maxR, S.box, S.tok, TK.sh, known, tsize, destI, ownTok, srcI, isIn, isSl, isSt, appendI, appendL, bnd, aggBin, nilD, isPtr, fieldOf, sized, enumS, seeR, seeL, hasB, flat, flats, List.foldl_nil, List.foldl_cons, Option.getD_some, Option.getD_none, if_true, if_false, reduceIte, reduceCtorEq, Nat.reduceEqDiff, Nat.reduceAdd, Nat.reduceMul, Nat.reduceLT, Nat.reduceSub, Nat.reduceLeDiff, true_and, and_true, List.map_cons, List.map_nil, List.size_toArray, List.length_cons, List.length_nil, Option.map_some, Option.map_none, Option.bind_some, true_implies, Bool.false_eq_true, Bool.true_eq_false, false_implies, Bool.not_true, Bool.not_false, List.getElem?_cons_zero, List.getElem?_cons_succ, implies_true, and_self, Bool.and_true, Bool.true_and, BEq.rfl, and_assoc, Option.isSome_some, Option.isSome_none, List.take_succ_cons, List.take_zero, List.set_cons_zero, List.set_cons_succ, List.forall_mem_cons, List.not_mem_nil, forall_const, List.range, List.range.loop, ne_eq, not_false_eq_true, not_true_eq_false, List.cons.injEq, Prod.mk.injEq, List.append_nil, List.nil_append, List.cons_append, false_and, and_false, Bool.false_and, Bool.and_false, Nat.reduceBNe, Nat.reduceBEq, beq_self_eq_true, bne_self_eq_false, Nat.reduceBeqDiff, Bool.or_false, Bool.false_or, Bool.or_true, Bool.true_or, vs0, vs1, vs2, vs3, vs4, tys, gl0, Tryd.ntmps22, Tryd.results22, hd]
    exact hV.symm
  have hd : decide ((b : Int) > 1) = true := decide_eq_true (by omega)
  rw [fold_gt hb1] at hfo
  rw [needs_gt hb1] at hmn
  cases hal : aloneN a b
  · rw [hal] at hfo hmn
    simp only [Bool.false_eq_true, if_false] at hfo hmn
    obtain ⟨y, r, rfl⟩ : ∃ y r, m = y :: r := by cases m with
      | nil => simp at hmn; omega
      | cons y r => exact ⟨y, r, rfl⟩
    obtain rfl : z = 32 := hmz.resolve_left (by simp)
    have hy : y.length = 32 := hm y (List.mem_cons_self ..)
    have hr : h32 r := fun x hx => hm x (List.mem_cons_of_mem _ hx)
    have hrl : r.length + 1 < 2000000 := by simpa using hml
    have ea : arrs (y :: r) = D.arr .u8 32 y :: arrs r := rfl
    have edr : List.drop (Int.toNat 1) (List.take (((arrs r).length + 1 : Nat) : Int).toNat (D.arr .u8 32 y :: arrs r)) = arrs r := by
      rw [show Int.toNat 1 = 1 from rfl, Int.toNat_natCast, List.take_of_length_le (by simp)]
      rfl
    have hrn : r.length = needsN (a / 2) ((b + 1) / 2) := by simp at hmn; omega
    simp only [List.getD_cons_zero, List.drop_succ_cons, List.drop_zero] at hfo
    rcases Nat.mod_two_eq_zero_or_one a with h2 | h2
    · rw [if_pos h2] at hfo
      rw [decide_eq_true h2] at ev2
      simp (config := {dsimp := false}) only [↓a_range, ↓roundQ_normal, ↓roundQ_ret, ↓roundQ_exit, ↓a_skip, ↓a_exit, ↓a_ret, ↓a_seq, ↓a_cond, ↓a_block, ↓a_loop, ↓a_region, ↓a_draw, ↓a_region', ↓a_draw', ↓then_key, ↓with_key, ↓withY_key, ↓cond_key, ↓one_key, ↓thenQ_normal, ↓thenQ_exit, ↓thenQ_ret, ↓blockQ_normal, ↓blockQ_exit, ↓blockQ_ret, ↓aops, ↓aopsD, ↓imp_tt, ↓imp_ff, ↓imp_tf, ↓imp_ft, ↓imp_tnt, ↓imp_tnf, ↓imp_fnt, ↓imp_fnf, look, setL, resQ, argSlots, buildSt, buildArr, intsOf, eqB, keepSl, bindM, bindP, opR, okIf, ok, bad, ev, ofConst, putS, updS, S.upd, dstOk, yieldD, yieldY, strBin, isShift, cellD, retQ, resD, stripO, convR, conv2R, makeR, indexR, indexAddrR, fieldAddrR, loadR, storeR, allocR, boxR, pickR, buildR, buildSliceR, lenR, nilCheckR, extractR, funcR, ipSlice, sliceR, appendR, callR, minR, maxR, S.box, S.tok, TK.sh, known, tsize, destI, ownTok, srcI, isIn, isSl, isSt, appendI, appendL, bnd, aggBin, nilD, isPtr, fieldOf, sized, enumS, seeR, seeL, hasB, flat, flats, List.foldl_nil, List.foldl_cons, Option.getD_some, Option.getD_none, if_true, if_false, reduceIte, reduceCtorEq, Nat.reduceEqDiff, Nat.reduceAdd, Nat.reduceMul, Nat.reduceLT, Nat.reduceSub, Nat.reduceLeDiff, true_and, and_true, List.map_cons, List.map_nil, List.size_toArray, List.length_cons, List.length_nil, Option.map_some, Option.map_none, Option.bind_some, true_implies, Bool.false_eq_true, Bool.true_eq_false, false_implies, Bool.not_true, Bool.not_false, List.getElem?_cons_zero, List.getElem?_cons_succ, implies_true, and_self, Bool.and_true, Bool.true_and, BEq.rfl, and_assoc, Option.isSome_some, Option.isSome_none, List.take_succ_cons, List.take_zero, List.set_cons_zero, List.set_cons_succ, List.forall_mem_cons, List.not_mem_nil, forall_const, List.range, List.range.loop, ne_eq, not_false_eq_true, not_true_eq_false, List.cons.injEq, Prod.mk.injEq, List.append_nil, List.nil_append, List.cons_append, false_and, and_false, Bool.false_and, Bool.and_false, Nat.reduceBNe, Nat.reduceBEq, beq_self_eq_true, bne_self_eq_false, Nat.reduceBeqDiff, Bool.or_false, Bool.false_or, Bool.or_true, Bool.true_or, vs0, vs1, vs2, vs3, vs4, tys, gl0, Tryd.ntmps22, Tryd.results22, PF.toR, givesIf, hd, e4, hal, ev2, ea, spec_alone, sp_alone, c_alone, b_alone]
      refine ⟨by omega, by omega, by omega, by omega, by decide, ?_⟩
      refine drawI [3, 4, 1, 2, 8] (by kernel_rfl) ?_
      simp (config := {dsimp := false}) only [↓a_range, ↓roundQ_normal, ↓roundQ_ret, ↓roundQ_exit, ↓a_skip, ↓a_exit, ↓a_ret, ↓a_seq, ↓a_cond, ↓a_block, ↓a_loop, ↓a_region, ↓a_draw, ↓a_region', ↓a_draw', ↓then_key, ↓with_key, ↓withY_key, ↓cond_key, ↓one_key, ↓thenQ_normal, ↓thenQ_exit, ↓thenQ_ret, ↓blockQ_normal, ↓blockQ_exit, ↓blockQ_ret, ↓aops, ↓aopsD, ↓imp_tt, ↓imp_ff, ↓imp_tf, ↓imp_ft, ↓imp_tnt, ↓imp_tnf, ↓imp_fnt, ↓imp_fnf, look, setL, resQ, argSlots, buildSt, buildArr, intsOf, eqB, keepSl, bindM, bindP, opR, okIf, ok, bad, ev, ofConst, putS, updS, S.upd, dstOk, yieldD, yieldY, strBin, isShift, cellD, retQ, resD, stripO, convR, conv2R, makeR, indexR, indexAddrR, fieldAddrR, loadR, storeR, allocR, boxR, pickR, buildR, buildSliceR, lenR, nilCheckR, extractR, funcR, ipSlice, sliceR, appendR, callR, minR, maxR, S.box, S.tok, TK.sh, known, tsize, destI, ownTok, srcI, isIn, isSl, isSt, appendI, appendL, bnd, aggBin, nilD, isPtr, fieldOf, sized, enumS, seeR, seeL, hasB, flat, flats, List.foldl_nil, List.foldl_cons, Option.getD_some, Option.getD_none, if_true, if_false, reduceIte, reduceCtorEq, Nat.reduceEqDiff, Nat.reduceAdd, Nat.reduceMul, Nat.reduceLT, Nat.reduceSub, Nat.reduceLeDiff, true_and, and_true, List.map_cons, List.map_nil, List.size_toArray, List.length_cons, List.length_nil, Option.map_some, Option.map_none, Option.bind_some, true_implies, Bool.false_eq_true, Bool.true_eq_false, false_implies, Bool.not_true, Bool.not_false, List.getElem?_cons_zero, List.getElem?_cons_succ, implies_true, and_self, Bool.and_true, Bool.true_and, BEq.rfl, and_assoc, Option.isSome_some, Option.isSome_none, List.take_succ_cons, List.take_zero, List.set_cons_zero, List.set_cons_succ, List.forall_mem_cons, List.not_mem_nil, forall_const, List.range, List.range.loop, ne_eq, not_false_eq_true, not_true_eq_false, List.cons.injEq, Prod.mk.injEq, List.append_nil, List.nil_append, List.cons_append, false_and, and_false, Bool.false_and, Bool.and_false, Nat.reduceBNe, Nat.reduceBEq, beq_self_eq_true, bne_self_eq_false, Nat.reduceBeqDiff, Bool.or_false, Bool.false_or, Bool.or_true, Bool.true_or, vs0, vs1, vs2, vs3, vs4, tys, gl0, Tryd.ntmps22, Tryd.results22, PF.toR, givesIf, q1, q2, hx, hy, List.length_append, show Int.toNat 0 = 0 from rfl, List.getD_cons_zero, edr, spec_pair, sp_pair, c_pair, b_pair, spec_twice, sp_twice, c_twice, b_twice]
      exact ⟨by decide, by omega, by kernel_rfl, by decide, by omega, by omega, .inr trivial, by decide, by decide, ⟨(H2 x y, a / 2, (b + 1) / 2, r), .inr rfl, H2_len _ _, by simp only; omega, by simp only; omega, hr, by simp only; omega, hrn, hfo⟩, ⟨⟨wkD_eq rfl, rfl, wkD_eq rfl, rfl, wkD_eq rfl, rfl, wkD_eq rfl, rfl, wkD_eq rfl, rfl, trivial⟩, ⟨rfl, Nat.le_of_ble_eq_true rfl, rfl, rfl, Nat.le_of_ble_eq_true rfl, rfl, trivial⟩, trivial⟩, by (try simp only); omega⟩
    · rw [if_neg (show ¬ a % 2 = 0 by omega)] at hfo
      rw [decide_eq_false (show ¬ a % 2 = 0 by omega)] at ev2
      simp (config := {dsimp := false}) only [↓a_range, ↓roundQ_normal, ↓roundQ_ret, ↓roundQ_exit, ↓a_skip, ↓a_exit, ↓a_ret, ↓a_seq, ↓a_cond, ↓a_block, ↓a_loop, ↓a_region, ↓a_draw, ↓a_region', ↓a_draw', ↓then_key, ↓with_key, ↓withY_key, ↓cond_key, ↓one_key, ↓thenQ_normal, ↓thenQ_exit, ↓thenQ_ret, ↓blockQ_normal, ↓blockQ_exit, ↓blockQ_ret, ↓aops, ↓aopsD, ↓imp_tt, ↓imp_ff, ↓imp_tf, ↓imp_ft, ↓imp_tnt, ↓imp_tnf, ↓imp_fnt, ↓imp_fnf, look, setL, resQ, argSlots, buildSt, buildArr, intsOf, eqB, keepSl, bindM, bindP, opR, okIf, ok, bad, ev, ofConst, putS, updS, S.upd, dstOk, yieldD, yieldY, strBin, isShift, cellD, retQ, resD, stripO, convR, conv2R, makeR, indexR, indexAddrR, fieldAddrR, loadR, storeR, allocR, boxR, pickR, buildR, buildSliceR, lenR, nilCheckR, extractR, funcR, ipSlice, sliceR, appendR, callR, minR, maxR, S.box, S.tok, TK.sh, known, tsize, destI, ownTok, srcI, isIn, isSl, isSt, appendI, appendL, bnd, aggBin, nilD, isPtr, fieldOf, sized, enumS, seeR, seeL, hasB, flat, flats, List.foldl_nil, List.foldl_cons, Option.getD_some, Option.getD_none, if_true, if_false, reduceIte, reduceCtorEq, Nat.reduceEqDiff, Nat.reduceAdd, Nat.reduceMul, Nat.reduceLT, Nat.reduceSub, Nat.reduceLeDiff, true_and, and_true, List.map_cons, List.map_nil, List.size_toArray, List.length_cons, List.length_nil, Option.map_some, Option.map_none, Option.bind_some, true_implies, Bool.false_eq_true, Bool.true_eq_false, false_implies, Bool.not_true, Bool.not_false, List.getElem?_cons_zero, List.getElem?_cons_succ, implies_true, and_self, Bool.and_true, Bool.true_and, BEq.rfl, and_assoc, Option.isSome_some, Option.isSome_none, List.take_succ_cons, List.take_zero, List.set_cons_zero, List.set_cons_succ, List.forall_mem_cons, List.not_mem_nil, forall_const, List.range, List.range.loop, ne_eq, not_false_eq_true, not_true_eq_false, List.cons.injEq, Prod.mk.injEq, List.append_nil, List.nil_append, List.cons_append, false_and, and_false, Bool.false_and, Bool.and_false, Nat.reduceBNe, Nat.reduceBEq, beq_self_eq_true, bne_self_eq_false, Nat.reduceBeqDiff, Bool.or_false, Bool.false_or, Bool.or_true, Bool.true_or, vs0, vs1, vs2, vs3, vs4, tys, gl0, Tryd.ntmps22, Tryd.results22, PF.toR, givesIf, hd, e4, hal, ev2, ea, spec_alone, sp_alone, c_alone, b_alone]
      refine ⟨by omega, by omega, by omega, by omega, by decide, ?_⟩
      refine drawI [3, 4, 1, 2, 8] (by kernel_rfl) ?_
      simp (config := {dsimp := false}) only [↓a_range, ↓roundQ_normal, ↓roundQ_ret, ↓roundQ_exit, ↓a_skip, ↓a_exit, ↓a_ret, ↓a_seq, ↓a_cond, ↓a_block, ↓a_loop, ↓a_region, ↓a_draw, ↓a_region', ↓a_draw', ↓then_key, ↓with_key, ↓withY_key, ↓cond_key, ↓one_key, ↓thenQ_normal, ↓thenQ_exit, ↓thenQ_ret, ↓blockQ_normal, ↓blockQ_exit, ↓blockQ_ret, ↓aops, ↓aopsD, ↓imp_tt, ↓imp_ff, ↓imp_tf, ↓imp_ft, ↓imp_tnt, ↓imp_tnf, ↓imp_fnt, ↓imp_fnf, look, setL, resQ, argSlots, buildSt, buildArr, intsOf, eqB, keepSl, bindM, bindP, opR, okIf, ok, bad, ev, ofConst, putS, updS, S.upd, dstOk, yieldD, yieldY, strBin, isShift, cellD, retQ, resD, stripO, convR, conv2R, makeR, indexR, indexAddrR, fieldAddrR, loadR, storeR, allocR, boxR, pickR, buildR, buildSliceR, lenR, nilCheckR, extractR, funcR, ipSlice, sliceR, appendR, callR, minR, maxR, S.box, S.tok, TK.sh, known, tsize, destI, ownTok, srcI, isIn, isSl, isSt, appendI, appendL, bnd, aggBin, nilD, isPtr, fieldOf, sized, enumS, seeR, seeL, hasB, flat, flats, List.foldl_nil, List.foldl_cons, Option.getD_some, Option.getD_none, if_true, if_false, reduceIte, reduceCtorEq, Nat.reduceEqDiff, Nat.reduceAdd, Nat.reduceMul, Nat.reduceLT, Nat.reduceSub, Nat.reduceLeDiff, true_and, and_true, List.map_cons, List.map_nil, List.size_toArray, List.length_cons, List.length_nil, Option.map_some, Option.map_none, Option.bind_some, true_implies, Bool.false_eq_true, Bool.true_eq_false, false_implies, Bool.not_true, Bool.not_false, List.getElem?_cons_zero, List.getElem?_cons_succ, implies_true, and_self, Bool.and_true, Bool.true_and, BEq.rfl, and_assoc, Option.isSome_some, Option.isSome_none, List.take_succ_cons, List.take_zero, List.set_cons_zero, List.set_cons_succ, List.forall_mem_cons, List.not_mem_nil, forall_const, List.range, List.range.loop, ne_eq, not_false_eq_true, not_true_eq_false, List.cons.injEq, Prod.mk.injEq, List.append_nil, List.nil_append, List.cons_append, false_and, and_false, Bool.false_and, Bool.and_false, Nat.reduceBNe, Nat.reduceBEq, beq_self_eq_true, bne_self_eq_false, Nat.reduceBeqDiff, Bool.or_false, Bool.false_or, Bool.or_true, Bool.true_or, vs0, vs1, vs2, vs3, vs4, tys, gl0, Tryd.ntmps22, Tryd.results22, PF.toR, givesIf, q1, q2, hx, hy, List.length_append, show Int.toNat 0 = 0 from rfl, List.getD_cons_zero, edr, spec_pair, sp_pair, c_pair, b_pair, spec_twice, sp_twice, c_twice, b_twice]
      exact ⟨by decide, by omega, by kernel_rfl, by decide, by omega, by omega, .inr trivial, by decide, by decide, ⟨(H2 y x, a / 2, (b + 1) / 2, r), .inr rfl, H2_len _ _, by simp only; omega, by simp only; omega, hr, by simp only; omega, hrn, hfo⟩, ⟨⟨wkD_eq rfl, rfl, wkD_eq rfl, rfl, wkD_eq rfl, rfl, wkD_eq rfl, rfl, wkD_eq rfl, rfl, trivial⟩, ⟨rfl, Nat.le_of_ble_eq_true rfl, rfl, rfl, Nat.le_of_ble_eq_true rfl, rfl, trivial⟩, trivial⟩, by (try simp only); omega⟩
  · rw [hal] at hfo hmn
    simp only [if_true] at hfo hmn
    simp (config := {dsimp := false}) only [↓a_range, ↓roundQ_normal, ↓roundQ_ret, ↓roundQ_exit, ↓a_skip, ↓a_exit, ↓a_ret, ↓a_seq, ↓a_cond, ↓a_block, ↓a_loop, ↓a_region, ↓a_draw, ↓a_region', ↓a_draw', ↓then_key, ↓with_key, ↓withY_key, ↓cond_key, ↓one_key, ↓thenQ_normal, ↓thenQ_exit, ↓thenQ_ret, ↓blockQ_normal, ↓blockQ_exit, ↓blockQ_ret, ↓aops, ↓aopsD, ↓imp_tt, ↓imp_ff, ↓imp_tf, ↓imp_ft, ↓imp_tnt, ↓imp_tnf, ↓imp_fnt, ↓imp_fnf, look, setL, resQ, argSlots, buildSt, buildArr, intsOf, eqB, keepSl, bindM, bindP, opR, okIf, ok, bad, ev, ofConst, putS, updS, S.upd, dstOk, yieldD, yieldY, strBin, isShift, cellD, retQ, resD, stripO, convR, conv2R, makeR, indexR, indexAddrR, fieldAddrR, loadR, storeR, allocR, boxR, pickR, buildR, buildSliceR, lenR, nilCheckR, extractR, funcR, ipSlice, sliceR, appendR, callR, minR, maxR, S.box, S.tok, TK.sh, known, tsize, destI, ownTok, srcI, isIn, isSl, isSt, appendI, appendL, bnd, aggBin, nilD, isPtr, fieldOf, sized, enumS, seeR, seeL, hasB, flat, flats, List.foldl_nil, List.foldl_cons, Option.getD_some, Option.getD_none, if_true, if_false, reduceIte, reduceCtorEq, Nat.reduceEqDiff, Nat.reduceAdd, Nat.reduceMul, Nat.reduceLT, Nat.reduceSub, Nat.reduceLeDiff, true_and, and_true, List.map_cons, List.map_nil, List.size_toArray, List.length_cons, List.length_nil, Option.map_some, Option.map_none, Option.bind_some, true_implies, Bool.false_eq_true, Bool.true_eq_false, false_implies, Bool.not_true, Bool.not_false, List.getElem?_cons_zero, List.getElem?_cons_succ, implies_true, and_self, Bool.and_true, Bool.true_and, BEq.rfl, and_assoc, Option.isSome_some, Option.isSome_none, List.take_succ_cons, List.take_zero, List.set_cons_zero, List.set_cons_succ, List.forall_mem_cons, List.not_mem_nil, forall_const, List.range, List.range.loop, ne_eq, not_false_eq_true, not_true_eq_false, List.cons.injEq, Prod.mk.injEq, List.append_nil, List.nil_append, List.cons_append, false_and, and_false, Bool.false_and, Bool.and_false, Nat.reduceBNe, Nat.reduceBEq, beq_self_eq_true, bne_self_eq_false, Nat.reduceBeqDiff, Bool.or_false, Bool.false_or, Bool.or_true, Bool.true_or, vs0, vs1, vs2, vs3, vs4, tys, gl0, Tryd.ntmps22, Tryd.results22, PF.toR, givesIf, hd, e4, hal, q1, q2, hx, List.length_append, spec_alone, sp_alone, c_alone, b_alone, spec_pair, sp_pair, c_pair, b_pair, spec_twice, sp_twice, c_twice, b_twice]
    exact ⟨by omega, by omega, by omega, by omega, by decide, by decide, ⟨(H2 x x, a / 2, (b + 1) / 2, m), hmz, H2_len _ _, by simp only; omega, by simp only; omega, hm, hml, by simp only; omega, hfo⟩, ⟨⟨wkD_eq rfl, rfl, wkD_eq rfl, rfl, wkD_eq rfl, rfl, wkD_eq rfl, rfl, wkD_eq rfl, rfl, trivial⟩, ⟨rfl, Nat.le_of_ble_eq_true rfl, rfl, rfl, Nat.le_of_ble_eq_true rfl, rfl, trivial⟩, trivial⟩, by (try simp only); omega⟩
theorem c_refFold : Contract E 23 := by
  refine contract_see hE hgl (show E.P.funcs[23]? = some Tryd.f23 from Tryd.func23) rfl (p := sp_refFold) (fun _ _ _ => rfl) ?_
  intro args hv
  unfold sp_refFold at hv ⊢
  split at hv
  case h_2 => exact hv.elim
  rename_i h i n z es
  refine ⟨by simp, Nat.le_of_ble_eq_true rfl, ?_⟩
  simp only [givesIf] at hv
  obtain ⟨hh, hz, ⟨l, rfl, hl⟩, hlen, hbh, hby⟩ := hv
  rw [arrs_length] at hlen
  rw [hs_arrs] at hby
  change awp E Tryd.f23.ntmps _ (retQ E Tryd.f23 (foldV h i n (hs (arrs l)))) _ _
  rw [hs_arrs]
  by_cases c1 : i < 0
  · have d1 : decide (i < 0) = true := decide_eq_true c1
    have hV : foldV h i n l = .tup [.arr .u8 32 (List.replicate 32 0), .bool false] := if_pos (.inl c1)
    simp (config := {dsimp := false}) only [↓a_range, ↓roundQ_normal, ↓roundQ_ret, ↓roundQ_exit, ↓a_skip, ↓a_exit, ↓a_ret, ↓a_seq, ↓a_cond, ↓a_block, ↓a_loop, ↓a_region, ↓a_draw, ↓a_region', ↓a_draw', ↓then_key, ↓with_key, ↓withY_key, ↓cond_key, ↓one_key, ↓thenQ_normal, ↓thenQ_exit, ↓thenQ_ret, ↓blockQ_normal, ↓blockQ_exit, ↓blockQ_ret, ↓aops, ↓aopsD, ↓imp_tt, ↓imp_ff, ↓imp_tf, ↓imp_ft, ↓imp_tnt, ↓imp_tnf, ↓imp_fnt, ↓imp_fnf, look, setL, resQ, argSlots, buildSt, buildArr, intsOf, eqB, keepSl, bindM, bindP, opR, okIf, ok, bad, ev, ofConst, putS, updS, S.upd, dstOk, yieldD, yieldY, strBin, isShift, cellD, retQ, resD, stripO, convR, conv2R, makeR, indexR, indexAddrR, fieldAddrR, loadR, storeR, allocR, boxR, pickR, buildR, buildSliceR, lenR, nilCheckR, extractR, funcR, ipSlice, sliceR, appendR, callR, minR, maxR, S.box, S.tok, TK.sh, known, tsize, destI, ownTok, srcI, isIn, isSl, isSt, appendI, appendL, bnd, aggBin, nilD, isPtr, fieldOf, sized, enumS, seeR, seeL, hasB, flat, flats, List.foldl_nil, List.foldl_cons, Option.getD_some, Option.getD_none, if_true, if_false, reduceIte, reduceCtorEq, Nat.reduceEqDiff, Nat.reduceAdd, Nat.reduceMul, Nat.reduceLT, Nat.reduceSub, Nat.reduceLeDiff, true_and, and_true, List.map_cons, List.map_nil, List.size_toArray, List.length_cons, List.length_nil, Option.map_some, Option.map_none, Option.bind_some, true_implies, Bool.false_eq_true, Bool.true_eq_false, false_implies, Bool.not_true, Bool.not_false, List.getElem?_cons_zero, List.getElem?_cons_succ, implies_true, and_self, Bool.and_true, Bool.true_and, BEq.rfl, and_assoc, Option.isSome_some, Option.isSome_none, List.take_succ_cons, List.take_zero, List.set_cons_zero, List.set_cons_succ, List.forall_mem_cons, List.not_mem_nil, forall_const, List.range, List.range.loop, ne_eq, not_false_eq_true, not_true_eq_false, List.cons.injEq, Prod.mk.injEq, List.append_nil, List.nil_append, List.cons_append, false_and, and_false, Bool.false_and, Bool.and_false, Nat.reduceBNe, Nat.reduceBEq, beq_self_eq_true, bne_self_eq_false, Nat.reduceBeqDiff, Bool.or_false, Bool.false_or, Bool.or_true, Bool.true_or, vs0, vs1, vs2, vs3, vs4, tys, gl0, Tryd.ntmps23, Tryd.results23, arrs_length, d1, hV]
  have d1 : decide (i < 0) = false := decide_eq_false c1
  by_cases c2 : i ≥ n
  · have d2 : decide (i ≥ n) = true := decide_eq_true c2
    have hV : foldV h i n l = .tup [.arr .u8 32 (List.replicate 32 0), .bool false] := if_pos (.inr (.inl c2))
    simp (config := {dsimp := false}) only [↓a_range, ↓roundQ_normal, ↓roundQ_ret, ↓roundQ_exit, ↓a_skip, ↓a_exit, ↓a_ret, ↓a_seq, ↓a_cond, ↓a_block, ↓a_loop, ↓a_region, ↓a_draw, ↓a_region', ↓a_draw', ↓then_key, ↓with_key, ↓withY_key, ↓cond_key, ↓one_key, ↓thenQ_normal, ↓thenQ_exit, ↓thenQ_ret, ↓blockQ_normal, ↓blockQ_exit, ↓blockQ_ret, ↓aops, ↓aopsD, ↓imp_tt, ↓imp_ff, ↓imp_tf, ↓imp_ft, ↓imp_tnt, ↓imp_tnf, ↓imp_fnt, ↓imp_fnf, look, setL, resQ, argSlots, buildSt, buildArr, intsOf, eqB, keepSl, bindM, bindP, opR, okIf, ok, bad, ev, ofConst, putS, updS, S.upd, dstOk, yieldD, yieldY, strBin, isShift, cellD, retQ, resD, stripO, convR, conv2R, makeR, indexR, indexAddrR, fieldAddrR, loadR, storeR, allocR, boxR, pickR, buildR, buildSliceR, lenR, nilCheckR, extractR, funcR, ipSlice, sliceR, appendR, callR, minR, maxR, S.box, S.tok, TK.sh, known, tsize, destI, ownTok, srcI, isIn, isSl, isSt, appendI, appendL, bnd, aggBin, nilD, isPtr, fieldOf, sized, enumS, seeR, seeL, hasB, flat, flats, List.foldl_nil, List.foldl_cons, Option.getD_some, Option.getD_none, if_true, if_false, reduceIte, reduceCtorEq, Nat.reduceEqDiff, Nat.reduceAdd, Nat.reduceMul, Nat.reduceLT, Nat.reduceSub, Nat.reduceLeDiff, true_and, and_true, List.map_cons, List.map_nil, List.size_toArray, List.length_cons, List.length_nil, Option.map_some, Option.map_none, Option.bind_some, true_implies, Bool.false_eq_true, Bool.true_eq_false, false_implies, Bool.not_true, Bool.not_false, List.getElem?_cons_zero, List.getElem?_cons_succ, implies_true, and_self, Bool.and_true, Bool.true_and, BEq.rfl, and_assoc, Option.isSome_some, Option.isSome_none, List.take_succ_cons, List.take_zero, List.set_cons_zero, List.set_cons_succ, List.forall_mem_cons, List.not_mem_nil, forall_const, List.range, List.range.loop, ne_eq, not_false_eq_true, not_true_eq_false, List.cons.injEq, Prod.mk.injEq, List.append_nil, List.nil_append, List.cons_append, false_and, and_false, Bool.false_and, Bool.and_false, Nat.reduceBNe, Nat.reduceBEq, beq_self_eq_true, bne_self_eq_false, Nat.reduceBeqDiff, Bool.or_false, Bool.false_or, Bool.or_true, Bool.true_or, vs0, vs1, vs2, vs3, vs4, tys, gl0, Tryd.ntmps23, Tryd.results23, arrs_length, d1, d2, hV]
  have d2 : decide (i ≥ n) = false := decide_eq_false c2
  by_cases c3 : n > 1048576
  · have d3 : decide (n > 1048576) = true := decide_eq_true c3
    have hV : foldV h i n l = .tup [.arr .u8 32 (List.replicate 32 0), .bool false] := if_pos (.inr (.inr (.inl c3)))
    simp (config := {dsimp := false}) only [↓a_range, ↓roundQ_normal, ↓roundQ_ret, ↓roundQ_exit, ↓a_skip, ↓a_exit, ↓a_ret, ↓a_seq, ↓a_cond, ↓a_block, ↓a_loop, ↓a_region, ↓a_draw, ↓a_region', ↓a_draw', ↓then_key, ↓with_key, ↓withY_key, ↓cond_key, ↓one_key, ↓thenQ_normal, ↓thenQ_exit, ↓thenQ_ret, ↓blockQ_normal, ↓blockQ_exit, ↓blockQ_ret, ↓aops, ↓aopsD, ↓imp_tt, ↓imp_ff, ↓imp_tf, ↓imp_ft, ↓imp_tnt, ↓imp_tnf, ↓imp_fnt, ↓imp_fnf, look, setL, resQ, argSlots, buildSt, buildArr, intsOf, eqB, keepSl, bindM, bindP, opR, okIf, ok, bad, ev, ofConst, putS, updS, S.upd, dstOk, yieldD, yieldY, strBin, isShift, cellD, retQ, resD, stripO, convR, conv2R, makeR, indexR, indexAddrR, fieldAddrR, loadR, storeR, allocR, boxR, pickR, buildR, buildSliceR, lenR, nilCheckR, extractR, funcR, ipSlice, sliceR, appendR, callR, minR, maxR, S.box, S.tok, TK.sh, known, tsize, destI, ownTok, srcI, isIn, isSl, isSt, appendI, appendL, bnd, aggBin, nilD, isPtr, fieldOf, sized, enumS, seeR, seeL, hasB, flat, flats, List.foldl_nil, List.foldl_cons, Option.getD_some, Option.getD_none, if_true, if_false, reduceIte, reduceCtorEq, Nat.reduceEqDiff, Nat.reduceAdd, Nat.reduceMul, Nat.reduceLT, Nat.reduceSub, Nat.reduceLeDiff, true_and, and_true, List.map_cons, List.map_nil, List.size_toArray, List.length_cons, List.length_nil, Option.map_some, Option.map_none, Option.bind_some, true_implies, Bool.false_eq_true, Bool.true_eq_false, false_implies, Bool.not_true, Bool.not_false, List.getElem?_cons_zero, List.getElem?_cons_succ, implies_true, and_self, Bool.and_true, Bool.true_and, BEq.rfl, and_assoc, Option.isSome_some, Option.isSome_none, List.take_succ_cons, List.take_zero, List.set_cons_zero, List.set_cons_succ, List.forall_mem_cons, List.not_mem_nil, forall_const, List.range, List.range.loop, ne_eq, not_false_eq_true, not_true_eq_false, List.cons.injEq, Prod.mk.injEq, List.append_nil, List.nil_append, List.cons_append, false_and, and_false, Bool.false_and, Bool.and_false, Nat.reduceBNe, Nat.reduceBEq, beq_self_eq_true, bne_self_eq_false, Nat.reduceBeqDiff, Bool.or_false, Bool.false_or, Bool.or_true, Bool.true_or, vs0, vs1, vs2, vs3, vs4, tys, gl0, Tryd.ntmps23, Tryd.results23, arrs_length, d1, d2, d3, hV]
  have d3 : decide (n > 1048576) = false := decide_eq_false c3
  obtain ⟨i, rfl⟩ : ∃ k : Nat, i = (k : Int) := ⟨i.toNat, by omega⟩
  obtain ⟨n, rfl⟩ : ∃ k : Nat, n = (k : Int) := ⟨n.toNat, by omega⟩
  have en : needsN (i : Int).toNat (n : Int).toNat = needsN i n := rfl
  have hVn : ¬ l.length = needsN i n → foldV h i n l = .tup [.arr .u8 32 (List.replicate 32 0), .bool false] := fun c4 => if_pos (.inr (.inr (.inr c4)))
  have hVy : l.length = needsN i n → foldV h i n l = .tup [.arr .u8 32 (foldN h i n l), .bool true] := fun c4 => if_neg (by rw [en]; omega)
  have hnl := needs_le n i
  generalize foldV h i n l = V at hVn hVy ⊢
  simp (config := {dsimp := false}) only [↓a_range, ↓roundQ_normal, ↓roundQ_ret, ↓roundQ_exit, ↓a_skip, ↓a_exit, ↓a_ret, ↓a_seq, ↓a_cond, ↓a_block, ↓a_loop, ↓a_region, ↓a_draw, ↓a_region', ↓a_draw', ↓then_key, ↓with_key, ↓withY_key, ↓cond_key, ↓one_key, ↓thenQ_normal, ↓thenQ_exit, ↓thenQ_ret, ↓blockQ_normal, ↓blockQ_exit, ↓blockQ_ret, ↓aops, ↓aopsD, ↓imp_tt, ↓imp_ff, ↓imp_tf, ↓imp_ft, ↓imp_tnt, ↓imp_tnf, ↓imp_fnt, ↓imp_fnf, look, setL, resQ, argSlots, buildSt, buildArr, intsOf, eqB, keepSl, bindM, bindP, opR, okIf, ok, bad, ev, ofConst, putS, updS, S.upd, dstOk, yieldD, yieldY, strBin, isShift, cellD, retQ, resD, stripO, convR, conv2R, makeR, indexR, indexAddrR, fieldAddrR, loadR, storeR, allocR, boxR, pickR, buildR, buildSliceR, lenR, nilCheckR, extractR, funcR, ipSlice, sliceR, appendR, callR, minR, maxR, S.box, S.tok, TK.sh, known, tsize, destI, ownTok, srcI, isIn, isSl, isSt, appendI, appendL, bnd, aggBin, nilD, isPtr, fieldOf, sized, enumS, seeR, seeL, hasB, flat, flats, List.foldl_nil, List.foldl_cons, Option.getD_some, Option.getD_none, if_true, if_false, reduceIte, reduceCtorEq, Nat.reduceEqDiff, Nat.reduceAdd, Nat.reduceMul, Nat.reduceLT, Nat.reduceSub, Nat.reduceLeDiff, true_and, and_true, List.map_cons, List.map_nil, List.size_toArray, List.length_cons, List.length_nil, Option.map_some, Option.map_none, Option.bind_some, true_implies, Bool.false_eq_true, Bool.true_eq_false, false_implies, Bool.not_true, Bool.not_false, List.getElem?_cons_zero, List.getElem?_cons_succ, implies_true, and_self, Bool.and_true, Bool.true_and, BEq.rfl, and_assoc, Option.isSome_some, Option.isSome_none, List.take_succ_cons, List.take_zero, List.set_cons_zero, List.set_cons_succ, List.forall_mem_cons, List.not_mem_nil, forall_const, List.range, List.range.loop, ne_eq, not_false_eq_true, not_true_eq_false, List.cons.injEq, Prod.mk.injEq, List.append_nil, List.nil_append, List.cons_append, false_and, and_false, Bool.false_and, Bool.and_false, Nat.reduceBNe, Nat.reduceBEq, beq_self_eq_true, bne_self_eq_false, Nat.reduceBeqDiff, Bool.or_false, Bool.false_or, Bool.or_true, Bool.true_or, vs0, vs1, vs2, vs3, vs4, tys, gl0, Tryd.ntmps23, Tryd.results23, arrs_length, d1, d2, d3]
  refine loopI {x : List Int × Nat × Nat × Nat // (x.1.length = 32 ∧ bytes x.1) ∧ (x.2.1 < x.2.2.1 ∧ x.2.1 < 10000000) ∧ x.2.2.1 ≤ 1048576 ∧ x.2.2.2 ≤ l.length ∧ x.2.2.2 + needsN x.2.1 x.2.2.1 = needsN i n ∧ foldN x.1 x.2.1 x.2.2.1 (l.drop x.2.2.2) = foldN h i n l} (fun x => [(1, .int .i64 (x.1.2.1 : Nat)), (2, .int .i64 (x.1.2.2.1 : Nat)), (10, .int .i64 (x.1.2.2.2 : Nat)), (3, .sl .no z (arrs l)), (4, .bp 0 0), (8, .bp 4 0)]) (fun x => ⟨[(0, .arr .u8 32 x.1.1), (4, .arr .u8 32 (List.replicate 32 0))], [], 60⟩) (fun x => x.1.2.2.1) ⟨(h, i, n, 0), ⟨hh, hbh⟩, ⟨by simp only; omega, by simp only; omega⟩, by simp only; omega, Nat.zero_le _, by simp only; omega, rfl⟩ (fun _ => rfl) ⟨⟨wkD_eq rfl, rfl, wkD_eq rfl, rfl, wkD_eq rfl, rfl, wkD_eq rfl, rfl, wkD_eq rfl, rfl, wkD_eq rfl, rfl, trivial⟩, ⟨rfl, Nat.le_of_ble_eq_true rfl, rfl, rfl, Nat.le_of_ble_eq_true rfl, rfl, trivial⟩, trivial⟩ ?_
  rintro ⟨⟨x, a, b, m⟩, ⟨hx, hbx⟩, ⟨hab, ha⟩, hb, hml, hmn, hfo⟩
  simp only at hx hbx hab ha hb hml hmn hfo ⊢
  have q1 := half a ha
  have q2 := halfup b (by omega)
  have ev2 := even_dec a
  have w1 : IntKind.wrap .i64 ((a : Int) + 1) = (a : Int) + 1 := IntWalk.i64_in _ (by omega)
  have w2 : IntKind.wrap .i64 ((m : Int) + 1) = ((m + 1 : Nat) : Int) := by rw [IntWalk.i64_in _ (by omega)]; omega
  have hbS : bytes (sumP (sumP (x ++ x))) := bytes_sum _
  by_cases hb1 : b ≤ 1
  · have hd : decide ((b : Int) > 1) = false := decide_eq_false (by omega)
    rw [fold_one hb1] at hfo
    rw [needs_one hb1] at hmn
    subst hfo
    by_cases h4 : l.length = m
    · have d4 : decide ((m : Int) = (l.length : Int)) = true := decide_eq_true (by omega)
      rw [hVy (by omega)]
      simp (config := {dsimp := false}) only [↓a_range, ↓roundQ_normal, ↓roundQ_ret, ↓roundQ_exit, ↓a_skip, ↓a_exit, ↓a_ret, ↓a_seq, ↓a_cond, ↓a_block, ↓a_loop, ↓a_region, ↓a_draw, ↓a_region', ↓a_draw', ↓then_key, ↓with_key, ↓withY_key, ↓cond_key, ↓one_key, ↓thenQ_normal, ↓thenQ_exit, ↓thenQ_ret, ↓blockQ_normal, ↓blockQ_exit, ↓blockQ_ret, ↓aops, ↓aopsD, ↓imp_tt, ↓imp_ff, ↓imp_tf, ↓imp_ft, ↓imp_tnt, ↓imp_tnf, ↓imp_fnt, ↓imp_fnf, look, setL, resQ, argSlots, buildSt, buildArr, intsOf, eqB, keepSl, bindM, bindP, opR, okIf, ok, bad, ev, ofConst, putS, updS, S.upd, dstOk, yieldD, yieldY, strBin, isShift, cellD, retQ, resD, stripO, convR, conv2R, makeR, indexR, indexAddrR, fieldAddrR, loadR, storeR, allocR, boxR, pickR, buildR, buildSliceR, lenR, nilCheckR, extractR, funcR, ipSlice, sliceR, appendR, callR, minR, maxR, S.box, S.tok, TK.sh, known, tsize, destI, ownTok, srcI, isIn, isSl, isSt, appendI, appendL, bnd, aggBin, nilD, isPtr, fieldOf, sized, enumS, seeR, seeL, hasB, flat, flats, List.foldl_nil, List.foldl_cons, Option.getD_some, Option.getD_none, if_true, if_false, reduceIte, reduceCtorEq, Nat.reduceEqDiff, Nat.reduceAdd, Nat.reduceMul, Nat.reduceLT, Nat.reduceSub, Nat.reduceLeDiff, true_and, and_true, List.map_cons, List.map_nil, List.size_toArray, List.length_cons, List.length_nil, Option.map_some, Option.map_none, Option.bind_some, true_implies, Bool.false_eq_true, Bool.true_eq_false, false_implies, Bool.not_true, Bool.not_false, List.getElem?_cons_zero, List.getElem?_cons_succ, implies_true, and_self, Bool.and_true, Bool.true_and, BEq.rfl, and_assoc, Option.isSome_some, Option.isSome_none, List.take_succ_cons, List.take_zero, List.set_cons_zero, List.set_cons_succ, List.forall_mem_cons, List.not_mem_nil, forall_const, List.range, List.range.loop, ne_eq, not_false_eq_true, not_true_eq_false, List.cons.injEq, Prod.mk.injEq, List.append_nil, List.nil_append, List.cons_append, false_and, and_false, Bool.false_and, Bool.and_false, Nat.reduceBNe, Nat.reduceBEq, beq_self_eq_true, bne_self_eq_false, Nat.reduceBeqDiff, Bool.or_false, Bool.false_or, Bool.or_true, Bool.true_or, vs0, vs1, vs2, vs3, vs4, tys, gl0, Tryd.ntmps23, Tryd.results23, arrs_length, hd, d4]
    · have d4 : decide ((m : Int) = (l.length : Int)) = false := decide_eq_false (by omega)
      rw [hVn (by omega)]
      simp (config := {dsimp := false}) only [↓a_range, ↓roundQ_normal, ↓roundQ_ret, ↓roundQ_exit, ↓a_skip, ↓a_exit, ↓a_ret, ↓a_seq, ↓a_cond, ↓a_block, ↓a_loop, ↓a_region, ↓a_draw, ↓a_region', ↓a_draw', ↓then_key, ↓with_key, ↓withY_key, ↓cond_key, ↓one_key, ↓thenQ_normal, ↓thenQ_exit, ↓thenQ_ret, ↓blockQ_normal, ↓blockQ_exit, ↓blockQ_ret, ↓aops, ↓aopsD, ↓imp_tt, ↓imp_ff, ↓imp_tf, ↓imp_ft, ↓imp_tnt, ↓imp_tnf, ↓imp_fnt, ↓imp_fnf, look, setL, resQ, argSlots, buildSt, buildArr, intsOf, eqB, keepSl, bindM, bindP, opR, okIf, ok, bad, ev, ofConst, putS, updS, S.upd, dstOk, yieldD, yieldY, strBin, isShift, cellD, retQ, resD, stripO, convR, conv2R, makeR, indexR, indexAddrR, fieldAddrR, loadR, storeR, allocR, boxR, pickR, buildR, buildSliceR, lenR, nilCheckR, extractR, funcR, ipSlice, sliceR, appendR, callR, minR, maxR, S.box, S.tok, TK.sh, known, tsize, destI, ownTok, srcI, isIn, isSl, isSt, appendI, appendL, bnd, aggBin, nilD, isPtr, fieldOf, sized, enumS, seeR, seeL, hasB, flat, flats, List.foldl_nil, List.foldl_cons, Option.getD_some, Option.getD_none, if_true, if_false, reduceIte, reduceCtorEq, Nat.reduceEqDiff, Nat.reduceAdd, Nat.reduceMul, Nat.reduceLT, Nat.reduceSub, Nat.reduceLeDiff, true_and, and_true, List.map_cons, List.map_nil, List.size_toArray, List.length_cons, List.length_nil, Option.map_some, Option.map_none, Option.bind_some, true_implies, Bool.false_eq_true, Bool.true_eq_false, false_implies, Bool.not_true, Bool.not_false, List.getElem?_cons_zero, List.getElem?_cons_succ, implies_true, and_self, Bool.and_true, Bool.true_and, BEq.rfl, and_assoc, Option.isSome_some, Option.isSome_none, List.take_succ_cons, List.take_zero, List.set_cons_zero, List.set_cons_succ, List.forall_mem_cons, List.not_mem_nil, forall_const, List.range, List.range.loop, ne_eq, not_false_eq_true, not_true_eq_false, List.cons.injEq, Prod.mk.injEq, List.append_nil, List.nil_append, List.cons_append, false_and, and_false, Bool.false_and, Bool.and_false, Nat.reduceBNe, Nat.reduceBEq, beq_self_eq_true, bne_self_eq_false, Nat.reduceBeqDiff, Bool.or_false, Bool.false_or, Bool.or_true, Bool.true_or, vs0, vs1, vs2, vs3, vs4, tys, gl0, Tryd.ntmps23, Tryd.results23, arrs_length, hd, d4]
  have hd : decide ((b : Int) > 1) = true := decide_eq_true (by omega)
  rw [fold_gt hb1] at hfo
  rw [needs_gt hb1] at hmn
  cases hal : aloneN a b
  · rw [hal] at hfo hmn
    simp only [Bool.false_eq_true, if_false] at hfo hmn
    have hna : ¬ (a % 2 = 0 ∧ a + 1 = b) := fun ⟨e1, e2⟩ => by
      unfold aloneN at hal
      rw [decide_eq_true e1, decide_eq_true e2] at hal
      cases hal
    by_cases h5 : m ≥ l.length
    · have d5 : decide ((m : Int) ≥ (l.length : Int)) = true := decide_eq_true (by omega)
      rw [hVn (by omega)]
      rcases Nat.mod_two_eq_zero_or_one a with h2 | h2
      · rw [decide_eq_true h2] at ev2
        have d6 : decide ((a : Int) + 1 ≥ (b : Int)) = false := decide_eq_false (by omega)
        simp (config := {dsimp := false}) only [↓a_range, ↓roundQ_normal, ↓roundQ_ret, ↓roundQ_exit, ↓a_skip, ↓a_exit, ↓a_ret, ↓a_seq, ↓a_cond, ↓a_block, ↓a_loop, ↓a_region, ↓a_draw, ↓a_region', ↓a_draw', ↓then_key, ↓with_key, ↓withY_key, ↓cond_key, ↓one_key, ↓thenQ_normal, ↓thenQ_exit, ↓thenQ_ret, ↓blockQ_normal, ↓blockQ_exit, ↓blockQ_ret, ↓aops, ↓aopsD, ↓imp_tt, ↓imp_ff, ↓imp_tf, ↓imp_ft, ↓imp_tnt, ↓imp_tnf, ↓imp_fnt, ↓imp_fnf, look, setL, resQ, argSlots, buildSt, buildArr, intsOf, eqB, keepSl, bindM, bindP, opR, okIf, ok, bad, ev, ofConst, putS, updS, S.upd, dstOk, yieldD, yieldY, strBin, isShift, cellD, retQ, resD, stripO, convR, conv2R, makeR, indexR, indexAddrR, fieldAddrR, loadR, storeR, allocR, boxR, pickR, buildR, buildSliceR, lenR, nilCheckR, extractR, funcR, ipSlice, sliceR, appendR, callR, minR, maxR, S.box, S.tok, TK.sh, known, tsize, destI, ownTok, srcI, isIn, isSl, isSt, appendI, appendL, bnd, aggBin, nilD, isPtr, fieldOf, sized, enumS, seeR, seeL, hasB, flat, flats, List.foldl_nil, List.foldl_cons, Option.getD_some, Option.getD_none, if_true, if_false, reduceIte, reduceCtorEq, Nat.reduceEqDiff, Nat.reduceAdd, Nat.reduceMul, Nat.reduceLT, Nat.reduceSub, Nat.reduceLeDiff, true_and, and_true, List.map_cons, List.map_nil, List.size_toArray, List.length_cons, List.length_nil, Option.map_some, Option.map_none, Option.bind_some, true_implies, Bool.false_eq_true, Bool.true_eq_false, false_implies, Bool.not_true, Bool.not_false, List.getElem?_cons_zero, List.getElem?_cons_succ, implies_true, and_self, Bool.and_true, Bool.true_and, BEq.rfl, and_assoc, Option.isSome_some, Option.isSome_none, List.take_succ_cons, List.take_zero, List.set_cons_zero, List.set_cons_succ, List.forall_mem_cons, List.not_mem_nil, forall_const, List.range, List.range.loop, ne_eq, not_false_eq_true, not_true_eq_false, List.cons.injEq, Prod.mk.injEq, List.append_nil, List.nil_append, List.cons_append, false_and, and_false, Bool.false_and, Bool.and_false, Nat.reduceBNe, Nat.reduceBEq, beq_self_eq_true, bne_self_eq_false, Nat.reduceBeqDiff, Bool.or_false, Bool.false_or, Bool.or_true, Bool.true_or, vs0, vs1, vs2, vs3, vs4, tys, gl0, Tryd.ntmps23, Tryd.results23, arrs_length, hd, ev2, w1, d5, d6]
        all_goals decide
      · rw [decide_eq_false (show ¬ a % 2 = 0 by omega)] at ev2
        simp (config := {dsimp := false}) only [↓a_range, ↓roundQ_normal, ↓roundQ_ret, ↓roundQ_exit, ↓a_skip, ↓a_exit, ↓a_ret, ↓a_seq, ↓a_cond, ↓a_block, ↓a_loop, ↓a_region, ↓a_draw, ↓a_region', ↓a_draw', ↓then_key, ↓with_key, ↓withY_key, ↓cond_key, ↓one_key, ↓thenQ_normal, ↓thenQ_exit, ↓thenQ_ret, ↓blockQ_normal, ↓blockQ_exit, ↓blockQ_ret, ↓aops, ↓aopsD, ↓imp_tt, ↓imp_ff, ↓imp_tf, ↓imp_ft, ↓imp_tnt, ↓imp_tnf, ↓imp_fnt, ↓imp_fnf, look, setL, resQ, argSlots, buildSt, buildArr, intsOf, eqB, keepSl, bindM, bindP, opR, okIf, ok, bad, ev, ofConst, putS, updS, S.upd, dstOk, yieldD, yieldY, strBin, isShift, cellD, retQ, resD, stripO, convR, conv2R, makeR, indexR, indexAddrR, fieldAddrR, loadR, storeR, allocR, boxR, pickR, buildR, buildSliceR, lenR, nilCheckR, extractR, funcR, ipSlice, sliceR, appendR, callR, minR, maxR, S.box, S.tok, TK.sh, known, tsize, destI, ownTok, srcI, isIn, isSl, isSt, appendI, appendL, bnd, aggBin, nilD, isPtr, fieldOf, sized, enumS, seeR, seeL, hasB, flat, flats, List.foldl_nil, List.foldl_cons, Option.getD_some, Option.getD_none, if_true, if_false, reduceIte, reduceCtorEq, Nat.reduceEqDiff, Nat.reduceAdd, Nat.reduceMul, Nat.reduceLT, Nat.reduceSub, Nat.reduceLeDiff, true_and, and_true, List.map_cons, List.map_nil, List.size_toArray, List.length_cons, List.length_nil, Option.map_some, Option.map_none, Option.bind_some, true_implies, Bool.false_eq_true, Bool.true_eq_false, false_implies, Bool.not_true, Bool.not_false, List.getElem?_cons_zero, List.getElem?_cons_succ, implies_true, and_self, Bool.and_true, Bool.true_and, BEq.rfl, and_assoc, Option.isSome_some, Option.isSome_none, List.take_succ_cons, List.take_zero, List.set_cons_zero, List.set_cons_succ, List.forall_mem_cons, List.not_mem_nil, forall_const, List.range, List.range.loop, ne_eq, not_false_eq_true, not_true_eq_false, List.cons.injEq, Prod.mk.injEq, List.append_nil, List.nil_append, List.cons_append, false_and, and_false, Bool.false_and, Bool.and_false, Nat.reduceBNe, Nat.reduceBEq, beq_self_eq_true, bne_self_eq_false, Nat.reduceBeqDiff, Bool.or_false, Bool.false_or, Bool.or_true, Bool.true_or, vs0, vs1, vs2, vs3, vs4, tys, gl0, Tryd.ntmps23, Tryd.results23, arrs_length, hd, ev2, d5]
        all_goals decide
    have d5 : decide ((m : Int) ≥ (l.length : Int)) = false := decide_eq_false (by omega)
    have hgd : (l.drop m).getD 0 [] = l.getD m [] := by simp [List.getD]
    have hdd : (l.drop m).drop 1 = l.drop (m + 1) := by rw [List.drop_drop]
    rw [hgd, hdd] at hfo
    have g := arrs_get l m (by omega)
    have hy := hl _ (getD_mem (show m < l.length by omega))
    have hyb := hby _ (getD_mem (show m < l.length by omega))
    obtain rfl : z = 32 := hz.resolve_left fun e => by have := arrs_eq_nil e; omega
    rcases Nat.mod_two_eq_zero_or_one a with h2 | h2
    · rw [if_pos h2] at hfo
      rw [decide_eq_true h2] at ev2
      have d6 : decide ((a : Int) + 1 ≥ (b : Int)) = false := decide_eq_false (by omega)
      have tw := twice_eq (x ++ l.getD m []) (bytes_append hbx hyb) (by rw [List.length_append, hx, hy]; decide)
      generalize l.getD m [] = y at g hy hyb tw hfo
      simp (config := {dsimp := false}) only [↓a_range, ↓roundQ_normal, ↓roundQ_ret, ↓roundQ_exit, ↓a_skip, ↓a_exit, ↓a_ret, ↓a_seq, ↓a_cond, ↓a_block, ↓a_loop, ↓a_region, ↓a_draw, ↓a_region', ↓a_draw', ↓then_key, ↓with_key, ↓withY_key, ↓cond_key, ↓one_key, ↓thenQ_normal, ↓thenQ_exit, ↓thenQ_ret, ↓blockQ_normal, ↓blockQ_exit, ↓blockQ_ret, ↓aops, ↓aopsD, ↓imp_tt, ↓imp_ff, ↓imp_tf, ↓imp_ft, ↓imp_tnt, ↓imp_tnf, ↓imp_fnt, ↓imp_fnf, look, setL, resQ, argSlots, buildSt, buildArr, intsOf, eqB, keepSl, bindM, bindP, opR, okIf, ok, bad, ev, ofConst, putS, updS, S.upd, dstOk, yieldD, yieldY, strBin, isShift, cellD, retQ, resD, stripO, convR, conv2R, makeR, indexR, indexAddrR, fieldAddrR, loadR, storeR, allocR, boxR, pickR, buildR, buildSliceR, lenR, nilCheckR, extractR, funcR, ipSlice, sliceR, appendR, callR, minR, maxR, S.box, S.tok, TK.sh, known, tsize, destI, ownTok, srcI, isIn, isSl, isSt, appendI, appendL, bnd, aggBin, nilD, isPtr, fieldOf, sized, enumS, seeR, seeL, hasB, flat, flats, List.foldl_nil, List.foldl_cons, Option.getD_some, Option.getD_none, if_true, if_false, reduceIte, reduceCtorEq, Nat.reduceEqDiff, Nat.reduceAdd, Nat.reduceMul, Nat.reduceLT, Nat.reduceSub, Nat.reduceLeDiff, true_and, and_true, List.map_cons, List.map_nil, List.size_toArray, List.length_cons, List.length_nil, Option.map_some, Option.map_none, Option.bind_some, true_implies, Bool.false_eq_true, Bool.true_eq_false, false_implies, Bool.not_true, Bool.not_false, List.getElem?_cons_zero, List.getElem?_cons_succ, implies_true, and_self, Bool.and_true, Bool.true_and, BEq.rfl, and_assoc, Option.isSome_some, Option.isSome_none, List.take_succ_cons, List.take_zero, List.set_cons_zero, List.set_cons_succ, List.forall_mem_cons, List.not_mem_nil, forall_const, List.range, List.range.loop, ne_eq, not_false_eq_true, not_true_eq_false, List.cons.injEq, Prod.mk.injEq, List.append_nil, List.nil_append, List.cons_append, false_and, and_false, Bool.false_and, Bool.and_false, Nat.reduceBNe, Nat.reduceBEq, beq_self_eq_true, bne_self_eq_false, Nat.reduceBeqDiff, Bool.or_false, Bool.false_or, Bool.or_true, Bool.true_or, vs0, vs1, vs2, vs3, vs4, tys, gl0, Tryd.ntmps23, Tryd.results23, arrs_length, hd, ev2, w1, d5, d6]
      refine ⟨by decide, by decide, ?_⟩
      refine drawI [3, 4, 10, 1, 2, 8] (by kernel_rfl) ?_
      simp (config := {dsimp := false}) only [↓a_range, ↓roundQ_normal, ↓roundQ_ret, ↓roundQ_exit, ↓a_skip, ↓a_exit, ↓a_ret, ↓a_seq, ↓a_cond, ↓a_block, ↓a_loop, ↓a_region, ↓a_draw, ↓a_region', ↓a_draw', ↓then_key, ↓with_key, ↓withY_key, ↓cond_key, ↓one_key, ↓thenQ_normal, ↓thenQ_exit, ↓thenQ_ret, ↓blockQ_normal, ↓blockQ_exit, ↓blockQ_ret, ↓aops, ↓aopsD, ↓imp_tt, ↓imp_ff, ↓imp_tf, ↓imp_ft, ↓imp_tnt, ↓imp_tnf, ↓imp_fnt, ↓imp_fnf, look, setL, resQ, argSlots, buildSt, buildArr, intsOf, eqB, keepSl, bindM, bindP, opR, okIf, ok, bad, ev, ofConst, putS, updS, S.upd, dstOk, yieldD, yieldY, strBin, isShift, cellD, retQ, resD, stripO, convR, conv2R, makeR, indexR, indexAddrR, fieldAddrR, loadR, storeR, allocR, boxR, pickR, buildR, buildSliceR, lenR, nilCheckR, extractR, funcR, ipSlice, sliceR, appendR, callR, minR, maxR, S.box, S.tok, TK.sh, known, tsize, destI, ownTok, srcI, isIn, isSl, isSt, appendI, appendL, bnd, aggBin, nilD, isPtr, fieldOf, sized, enumS, seeR, seeL, hasB, flat, flats, List.foldl_nil, List.foldl_cons, Option.getD_some, Option.getD_none, if_true, if_false, reduceIte, reduceCtorEq, Nat.reduceEqDiff, Nat.reduceAdd, Nat.reduceMul, Nat.reduceLT, Nat.reduceSub, Nat.reduceLeDiff, true_and, and_true, List.map_cons, List.map_nil, List.size_toArray, List.length_cons, List.length_nil, Option.map_some, Option.map_none, Option.bind_some, true_implies, Bool.false_eq_true, Bool.true_eq_false, false_implies, Bool.not_true, Bool.not_false, List.getElem?_cons_zero, List.getElem?_cons_succ, implies_true, and_self, Bool.and_true, Bool.true_and, BEq.rfl, and_assoc, Option.isSome_some, Option.isSome_none, List.take_succ_cons, List.take_zero, List.set_cons_zero, List.set_cons_succ, List.forall_mem_cons, List.not_mem_nil, forall_const, List.range, List.range.loop, ne_eq, not_false_eq_true, not_true_eq_false, List.cons.injEq, Prod.mk.injEq, List.append_nil, List.nil_append, List.cons_append, false_and, and_false, Bool.false_and, Bool.and_false, Nat.reduceBNe, Nat.reduceBEq, beq_self_eq_true, bne_self_eq_false, Nat.reduceBeqDiff, Bool.or_false, Bool.false_or, Bool.or_true, Bool.true_or, vs0, vs1, vs2, vs3, vs4, tys, gl0, Tryd.ntmps23, Tryd.results23, PF.toR, givesIf, arrs_length, q1, q2, w2, hx, hy, g, tw, List.length_append, Int.toNat_natCast, spec_refMText, sp_refMText, c_refMText, b_refMText, spec_refTwice, sp_refTwice, c_refTwice, b_refTwice]
      exact ⟨by omega, by omega, by kernel_rfl, by decide, by decide, ⟨(H2 x y, a / 2, (b + 1) / 2, m + 1), ⟨H2_len _ _, bytes_sum _⟩, ⟨by simp only; omega, by simp only; omega⟩, by simp only; omega, by simp only; omega, by simp only; omega, hfo⟩, ⟨⟨wkD_eq rfl, rfl, wkD_eq rfl, rfl, wkD_eq rfl, rfl, wkD_eq rfl, rfl, wkD_eq rfl, rfl, wkD_eq rfl, rfl, trivial⟩, ⟨rfl, Nat.le_of_ble_eq_true rfl, rfl, rfl, Nat.le_of_ble_eq_true rfl, rfl, trivial⟩, trivial⟩, by (try simp only); omega⟩
    · rw [if_neg (show ¬ a % 2 = 0 by omega)] at hfo
      rw [decide_eq_false (show ¬ a % 2 = 0 by omega)] at ev2
      have tw := twice_eq (l.getD m [] ++ x) (bytes_append hyb hbx) (by rw [List.length_append, hx, hy]; decide)
      generalize l.getD m [] = y at g hy hyb tw hfo
      simp (config := {dsimp := false}) only [↓a_range, ↓roundQ_normal, ↓roundQ_ret, ↓roundQ_exit, ↓a_skip, ↓a_exit, ↓a_ret, ↓a_seq, ↓a_cond, ↓a_block, ↓a_loop, ↓a_region, ↓a_draw, ↓a_region', ↓a_draw', ↓then_key, ↓with_key, ↓withY_key, ↓cond_key, ↓one_key, ↓thenQ_normal, ↓thenQ_exit, ↓thenQ_ret, ↓blockQ_normal, ↓blockQ_exit, ↓blockQ_ret, ↓aops, ↓aopsD, ↓imp_tt, ↓imp_ff, ↓imp_tf, ↓imp_ft, ↓imp_tnt, ↓imp_tnf, ↓imp_fnt, ↓imp_fnf, look, setL, resQ, argSlots, buildSt, buildArr, intsOf, eqB, keepSl, bindM, bindP, opR, okIf, ok, bad, ev, ofConst, putS, updS, S.upd, dstOk, yieldD, yieldY, strBin, isShift, cellD, retQ, resD, stripO, convR, conv2R, makeR, indexR, indexAddrR, fieldAddrR, loadR, storeR, allocR, boxR, pickR, buildR, buildSliceR, lenR, nilCheckR, extractR, funcR, ipSlice, sliceR, appendR, callR, minR, maxR, S.box, S.tok, TK.sh, known, tsize, destI, ownTok, srcI, isIn, isSl, isSt, appendI, appendL, bnd, aggBin, nilD, isPtr, fieldOf, sized, enumS, seeR, seeL, hasB, flat, flats, List.foldl_nil, List.foldl_cons, Option.getD_some, Option.getD_none, if_true, if_false, reduceIte, reduceCtorEq, Nat.reduceEqDiff, Nat.reduceAdd, Nat.reduceMul, Nat.reduceLT, Nat.reduceSub, Nat.reduceLeDiff, true_and, and_true, List.map_cons, List.map_nil, List.size_toArray, List.length_cons, List.length_nil, Option.map_some, Option.map_none, Option.bind_some, true_implies, Bool.false_eq_true, Bool.true_eq_false, false_implies, Bool.not_true, Bool.not_false, List.getElem?_cons_zero, List.getElem?_cons_succ, implies_true, and_self, Bool.and_true, Bool.true_and, BEq.rfl, and_assoc, Option.isSome_some, Option.isSome_none, List.take_succ_cons, List.take_zero, List.set_cons_zero, List.set_cons_succ, List.forall_mem_cons, List.not_mem_nil, forall_const, List.range, List.range.loop, ne_eq, not_false_eq_true, not_true_eq_false, List.cons.injEq, Prod.mk.injEq, List.append_nil, List.nil_append, List.cons_append, false_and, and_false, Bool.false_and, Bool.and_false, Nat.reduceBNe, Nat.reduceBEq, beq_self_eq_true, bne_self_eq_false, Nat.reduceBeqDiff, Bool.or_false, Bool.false_or, Bool.or_true, Bool.true_or, vs0, vs1, vs2, vs3, vs4, tys, gl0, Tryd.ntmps23, Tryd.results23, arrs_length, hd, ev2, d5]
      refine ⟨by decide, by decide, ?_⟩
      refine drawI [3, 4, 10, 1, 2, 8] (by kernel_rfl) ?_
      simp (config := {dsimp := false}) only [↓a_range, ↓roundQ_normal, ↓roundQ_ret, ↓roundQ_exit, ↓a_skip, ↓a_exit, ↓a_ret, ↓a_seq, ↓a_cond, ↓a_block, ↓a_loop, ↓a_region, ↓a_draw, ↓a_region', ↓a_draw', ↓then_key, ↓with_key, ↓withY_key, ↓cond_key, ↓one_key, ↓thenQ_normal, ↓thenQ_exit, ↓thenQ_ret, ↓blockQ_normal, ↓blockQ_exit, ↓blockQ_ret, ↓aops, ↓aopsD, ↓imp_tt, ↓imp_ff, ↓imp_tf, ↓imp_ft, ↓imp_tnt, ↓imp_tnf, ↓imp_fnt, ↓imp_fnf, look, setL, resQ, argSlots, buildSt, buildArr, intsOf, eqB, keepSl, bindM, bindP, opR, okIf, ok, bad, ev, ofConst, putS, updS, S.upd, dstOk, yieldD, yieldY, strBin, isShift, cellD, retQ, resD, stripO, convR, conv2R, makeR, indexR, indexAddrR, fieldAddrR, loadR, storeR, allocR, boxR, pickR, buildR, buildSliceR, lenR, nilCheckR, extractR, funcR, ipSlice, sliceR, appendR, callR, minR, maxR, S.box, S.tok, TK.sh, known, tsize, destI, ownTok, srcI, isIn, isSl, isSt, appendI, appendL, bnd, aggBin, nilD, isPtr, fieldOf, sized, enumS, seeR, seeL, hasB, flat, flats, List.foldl_nil, List.foldl_cons, Option.getD_some, Option.getD_none, if_true, if_false, reduceIte, reduceCtorEq, Nat.reduceEqDiff, Nat.reduceAdd, Nat.reduceMul, Nat.reduceLT, Nat.reduceSub, Nat.reduceLeDiff, true_and, and_true, List.map_cons, List.map_nil, List.size_toArray, List.length_cons, List.length_nil, Option.map_some, Option.map_none, Option.bind_some, true_implies, Bool.false_eq_true, Bool.true_eq_false, false_implies, Bool.not_true, Bool.not_false, List.getElem?_cons_zero, List.getElem?_cons_succ, implies_true, and_self, Bool.and_true, Bool.true_and, BEq.rfl, and_assoc, Option.isSome_some, Option.isSome_none, List.take_succ_cons, List.take_zero, List.set_cons_zero, List.set_cons_succ, List.forall_mem_cons, List.not_mem_nil, forall_const, List.range, List.range.loop, ne_eq, not_false_eq_true, not_true_eq_false, List.cons.injEq, Prod.mk.injEq, List.append_nil, List.nil_append, List.cons_append, false_and, and_false, Bool.false_and, Bool.and_false, Nat.reduceBNe, Nat.reduceBEq, beq_self_eq_true, bne_self_eq_false, Nat.reduceBeqDiff, Bool.or_false, Bool.false_or, Bool.or_true, Bool.true_or, vs0, vs1, vs2, vs3, vs4, tys, gl0, Tryd.ntmps23, Tryd.results23, PF.toR, givesIf, arrs_length, q1, q2, w2, hx, hy, g, tw, List.length_append, Int.toNat_natCast, spec_refMText, sp_refMText, c_refMText, b_refMText, spec_refTwice, sp_refTwice, c_refTwice, b_refTwice]
      exact ⟨by omega, by omega, by kernel_rfl, by decide, by decide, ⟨(H2 y x, a / 2, (b + 1) / 2, m + 1), ⟨H2_len _ _, bytes_sum _⟩, ⟨by simp only; omega, by simp only; omega⟩, by simp only; omega, by simp only; omega, by simp only; omega, hfo⟩, ⟨⟨wkD_eq rfl, rfl, wkD_eq rfl, rfl, wkD_eq rfl, rfl, wkD_eq rfl, rfl, wkD_eq rfl, rfl, wkD_eq rfl, rfl, trivial⟩, ⟨rfl, Nat.le_of_ble_eq_true rfl, rfl, rfl, Nat.le_of_ble_eq_true rfl, rfl, trivial⟩, trivial⟩, by (try simp only); omega⟩
  · rw [hal] at hfo hmn
    simp only [if_true] at hfo hmn
    have hya : a % 2 = 0 ∧ a + 1 = b := by
      unfold aloneN at hal
      rw [Bool.and_eq_true] at hal
      exact ⟨of_decide_eq_true hal.1, of_decide_eq_true hal.2⟩
    rw [decide_eq_true hya.1] at ev2
    have d6 : decide ((a : Int) + 1 ≥ (b : Int)) = true := decide_eq_true (by omega)
    have tw := twice_eq (x ++ x) (bytes_append hbx hbx) (by simp [hx])
    simp (config := {dsimp := false}) only [↓a_range, ↓roundQ_normal, ↓roundQ_ret, ↓roundQ_exit, ↓a_skip, ↓a_exit, ↓a_ret, ↓a_seq, ↓a_cond, ↓a_block, ↓a_loop, ↓a_region, ↓a_draw, ↓a_region', ↓a_draw', ↓then_key, ↓with_key, ↓withY_key, ↓cond_key, ↓one_key, ↓thenQ_normal, ↓thenQ_exit, ↓thenQ_ret, ↓blockQ_normal, ↓blockQ_exit, ↓blockQ_ret, ↓aops, ↓aopsD, ↓imp_tt, ↓imp_ff, ↓imp_tf, ↓imp_ft, ↓imp_tnt, ↓imp_tnf, ↓imp_fnt, ↓imp_fnf, look, setL, resQ, argSlots, buildSt, buildArr, intsOf, eqB, keepSl, bindM, bindP, opR, okIf, ok, bad, ev, ofConst, putS, updS, S.upd, dstOk, yieldD, yieldY, strBin, isShift, cellD, retQ, resD, stripO, convR, conv2R, makeR, indexR, indexAddrR, fieldAddrR, loadR, storeR, allocR, boxR, pickR, buildR, buildSliceR, lenR, nilCheckR, extractR, funcR, ipSlice, sliceR, appendR, callR, minR, maxR, S.box, S.tok, TK.sh, known, tsize, destI, ownTok, srcI, isIn, isSl, isSt, appendI, appendL, bnd, aggBin, nilD, isPtr, fieldOf, sized, enumS, seeR, seeL, hasB, flat, flats, List.foldl_nil, List.foldl_cons, Option.getD_some, Option.getD_none, if_true, if_false, reduceIte, reduceCtorEq, Nat.reduceEqDiff, Nat.reduceAdd, Nat.reduceMul, Nat.reduceLT, Nat.reduceSub, Nat.reduceLeDiff, true_and, and_true, List.map_cons, List.map_nil, List.size_toArray, List.length_cons, List.length_nil, Option.map_some, Option.map_none, Option.bind_some, true_implies, Bool.false_eq_true, Bool.true_eq_false, false_implies, Bool.not_true, Bool.not_false, List.getElem?_cons_zero, List.getElem?_cons_succ, implies_true, and_self, Bool.and_true, Bool.true_and, BEq.rfl, and_assoc, Option.isSome_some, Option.isSome_none, List.take_succ_cons, List.take_zero, List.set_cons_zero, List.set_cons_succ, List.forall_mem_cons, List.not_mem_nil, forall_const, List.range, List.range.loop, ne_eq, not_false_eq_true, not_true_eq_false, List.cons.injEq, Prod.mk.injEq, List.append_nil, List.nil_append, List.cons_append, false_and, and_false, Bool.false_and, Bool.and_false, Nat.reduceBNe, Nat.reduceBEq, beq_self_eq_true, bne_self_eq_false, Nat.reduceBeqDiff, Bool.or_false, Bool.false_or, Bool.or_true, Bool.true_or, vs0, vs1, vs2, vs3, vs4, tys, gl0, Tryd.ntmps23, Tryd.results23, PF.toR, givesIf, arrs_length, hd, ev2, w1, d6, q1, q2, hx, tw, List.length_append, spec_refMText, sp_refMText, c_refMText, b_refMText, spec_refTwice, sp_refTwice, c_refTwice, b_refTwice]
    exact ⟨by decide, by decide, by decide, ⟨(H2 x x, a / 2, (b + 1) / 2, m), ⟨H2_len _ _, bytes_sum _⟩, ⟨by simp only; omega, by simp only; omega⟩, by simp only; omega, by simp only; omega, by simp only; omega, hfo⟩, ⟨⟨wkD_eq rfl, rfl, wkD_eq rfl, rfl, wkD_eq rfl, rfl, wkD_eq rfl, rfl, wkD_eq rfl, rfl, wkD_eq rfl, rfl, trivial⟩, ⟨rfl, Nat.le_of_ble_eq_true rfl, rfl, rfl, Nat.le_of_ble_eq_true rfl, rfl, trivial⟩, trivial⟩, by (try simp only); omega⟩
end Go.Vi.C8
end
