/- Lemmas for the law proved in the text whose name ends with Law. -/
import Derived.Test.YtnfcnphhcgmnmaaDoorM55

section
set_option linter.unusedVariables false
set_option linter.unusedSimpArgs false
set_option maxHeartbeats 0
set_option maxRecDepth 20000
namespace Go.Vi.C8
open Go.Proofs

theorem changeI_len (s b k : List Int) : (changeI s b k).length = 8 := by simp [changeI]
theorem refBlocks_len (k all : List Int) (s : List Int) (h : s.length = 8) : ∀ i, (refBlocks k all i s).length = 8
  | 0 => h
  | i + 1 => changeI_len _ _ _
theorem refPadded_len (b : List Int) (h : b.length < 1000000000) : ∃ m, (refPadded b).length = 64 * m ∧ m < 16000000 := by
  have := refSize_len b.length 8
  refine ⟨(refPadded b).length / 64, ?_, ?_⟩ <;> simp [refPadded, this] <;> unfold pad <;> omega
theorem outBytes_len (s : List Int) : (outBytes s).length = 32 := by simp [outBytes]
theorem c_refSum : Contract E 51 := by
  refine contract_see hE hgl (show E.P.funcs[51]? = some Tryd.f51 from Tryd.func51) rfl (p := sp_refSum) (fun _ _ _ => rfl) ?_
  intro args hv
  unfold sp_refSum at hv ⊢
  split at hv
  case h_2 => exact hv.elim
  rename_i b
  refine ⟨by simp, Nat.le_of_ble_eq_true rfl, ?_⟩
  simp (config := {dsimp := false}) only [↓a_range, ↓roundQ_normal, ↓roundQ_ret, ↓roundQ_exit, ↓a_skip, ↓a_exit, ↓a_ret, ↓a_seq, ↓a_cond, ↓a_block, ↓a_loop, ↓a_region, ↓a_draw, ↓a_region', ↓a_draw', ↓then_key, ↓with_key, ↓withY_key, ↓cond_key, ↓one_key, ↓thenQ_normal, ↓thenQ_exit, ↓thenQ_ret, ↓blockQ_normal, ↓blockQ_exit, ↓blockQ_ret, ↓aops, ↓aopsD, ↓imp_tt, ↓imp_ff, ↓imp_tf, ↓imp_ft, ↓imp_tnt, ↓imp_tnf, ↓imp_fnt, ↓imp_fnf, look, setL, resQ, argSlots, buildSt, buildArr, intsOf, eqB, keepSl, bindM, bindP, opR, okIf, ok, bad, ev, ofConst, putS, updS, S.upd, dstOk, yieldD, yieldY, strBin, isShift, cellD, retQ, resD, stripO, convR, conv2R, makeR, indexR, indexAddrR, fieldAddrR, loadR, storeR, allocR, boxR, pickR, buildR, buildSliceR, lenR, nilCheckR, extractR, funcR, ipSlice, sliceR, appendR, callR, minR, maxR, S.box, S.tok, TK.sh, known, tsize, destI, ownTok, srcI, isIn, isSl, isSt, appendI, appendL, bnd, aggBin, nilD, isPtr, fieldOf, sized, enumS, seeR, seeL, hasB, flat, flats, List.foldl_nil, List.foldl_cons, Option.getD_some, Option.getD_none, if_true, if_false, reduceIte, reduceCtorEq, Nat.reduceEqDiff, Nat.reduceAdd, Nat.reduceMul, Nat.reduceLT, Nat.reduceSub, Nat.reduceLeDiff, true_and, and_true, List.map_cons, List.map_nil, List.size_toArray, List.length_cons, List.length_nil, Option.map_some, Option.map_none, Option.bind_some, true_implies, Bool.false_eq_true, Bool.true_eq_false, false_implies, Bool.not_true, Bool.not_false, List.getElem?_cons_zero, List.getElem?_cons_succ, implies_true, and_self, Bool.and_true, Bool.true_and, BEq.rfl, and_assoc, Option.isSome_some, Option.isSome_none, List.take_succ_cons, List.take_zero, List.set_cons_zero, List.set_cons_succ, List.forall_mem_cons, List.not_mem_nil, forall_const, List.range, List.range.loop, ne_eq, not_false_eq_true, not_true_eq_false, List.cons.injEq, Prod.mk.injEq, List.append_nil, List.nil_append, List.cons_append, false_and, and_false, Bool.false_and, Bool.and_false, Nat.reduceBNe, Nat.reduceBEq, beq_self_eq_true, bne_self_eq_false, Nat.reduceBeqDiff, Bool.or_false, Bool.false_or, Bool.or_true, Bool.true_or, vs0, vs1, vs2, vs3, vs4, tys, gl0, Tryd.ntmps51, Tryd.results51, PF.toR, gives, givesIf, spec_refClosing, sp_refClosing, c_refClosing, b_refClosing, spec_refRoundNumbers, sp_refRoundNumbers, c_refRoundNumbers, b_refRoundNumbers, spec_refFirst, sp_refFirst, c_refFirst, b_refFirst]
  simp only [givesIf] at hv ⊢
  obtain ⟨m, hm, hm2⟩ := refPadded_len b hv
  have hpl : b.length + (refPadded b).length < 3000000000 := by omega
  have hpd : b ++ 128 :: (List.replicate (pad b.length) 0 ++ (refSize b.length 8).1) = refPadded b := by simp [refPadded]
  have hlen : b.length + ((List.replicate (pad ↑b.length) (0 : Int) ++ (refSize (↑b.length) 8).fst).length + 1) = (refPadded b).length := by rw [← hpd]; simp
  refine ⟨by omega, by omega, by omega, by simp, by rw [hlen]; omega, ?_⟩
  rw [hpd, hlen]
  refine loopI (Fin (m + 1)) (fun i => [(6, .int .i64 (64 * (i.1 : Int))), (3, .sli (.tok 16) .u8 (refPadded b)), (4, .sli .full .u32 kList), (5, .sli .no .u32 (refBlocks kList (refPadded b) i.1 h0)), (2, .bp 0 0)]) (fun _ => ⟨[(0, .arr .u8 32 (List.replicate 32 0))], [(16, ((refPadded b).length, 1))], 68⟩) (fun i => m - i.1) 0 (fun _ => rfl) ?_ ?_
  · exact ⟨⟨wkD_eq rfl, rfl, wkD_eq rfl, rfl, wkD_eq rfl, rfl, .inr ⟨_, rfl⟩, rfl, wkD_eq rfl, rfl, trivial⟩, ⟨rfl, Nat.le_of_ble_eq_true rfl, rfl, trivial⟩, ⟨rfl, Nat.le_of_ble_eq_true rfl, trivial⟩⟩
  rintro ⟨i, hi⟩
  simp (config := {dsimp := false}) only [↓a_range, ↓roundQ_normal, ↓roundQ_ret, ↓roundQ_exit, ↓a_skip, ↓a_exit, ↓a_ret, ↓a_seq, ↓a_cond, ↓a_block, ↓a_loop, ↓a_region, ↓a_draw, ↓a_region', ↓a_draw', ↓then_key, ↓with_key, ↓withY_key, ↓cond_key, ↓one_key, ↓thenQ_normal, ↓thenQ_exit, ↓thenQ_ret, ↓blockQ_normal, ↓blockQ_exit, ↓blockQ_ret, ↓aops, ↓aopsD, ↓imp_tt, ↓imp_ff, ↓imp_tf, ↓imp_ft, ↓imp_tnt, ↓imp_tnf, ↓imp_fnt, ↓imp_fnf, look, setL, resQ, argSlots, buildSt, buildArr, intsOf, eqB, keepSl, bindM, bindP, opR, okIf, ok, bad, ev, ofConst, putS, updS, S.upd, dstOk, yieldD, yieldY, strBin, isShift, cellD, retQ, resD, stripO, convR, conv2R, makeR, indexR, indexAddrR, fieldAddrR, loadR, storeR, allocR, boxR, pickR, buildR, buildSliceR, lenR, nilCheckR, extractR, funcR, ipSlice, sliceR, appendR, callR, minR, maxR, S.box, S.tok, TK.sh, known, tsize, destI, ownTok, srcI, isIn, isSl, isSt, appendI, appendL, bnd, aggBin, nilD, isPtr, fieldOf, sized, enumS, seeR, seeL, hasB, flat, flats, List.foldl_nil, List.foldl_cons, Option.getD_some, Option.getD_none, if_true, if_false, reduceIte, reduceCtorEq, Nat.reduceEqDiff, Nat.reduceAdd, Nat.reduceMul, Nat.reduceLT, Nat.reduceSub, Nat.reduceLeDiff, true_and, and_true, List.map_cons, List.map_nil, List.size_toArray, List.length_cons, List.length_nil, Option.map_some, Option.map_none, Option.bind_some, true_implies, Bool.false_eq_true, Bool.true_eq_false, false_implies, Bool.not_true, Bool.not_false, List.getElem?_cons_zero, List.getElem?_cons_succ, implies_true, and_self, Bool.and_true, Bool.true_and, BEq.rfl, and_assoc, Option.isSome_some, Option.isSome_none, List.take_succ_cons, List.take_zero, List.set_cons_zero, List.set_cons_succ, List.forall_mem_cons, List.not_mem_nil, forall_const, List.range, List.range.loop, ne_eq, not_false_eq_true, not_true_eq_false, List.cons.injEq, Prod.mk.injEq, List.append_nil, List.nil_append, List.cons_append, false_and, and_false, Bool.false_and, Bool.and_false, Nat.reduceBNe, Nat.reduceBEq, beq_self_eq_true, bne_self_eq_false, Nat.reduceBeqDiff, Bool.or_false, Bool.false_or, Bool.or_true, Bool.true_or, vs0, vs1, vs2, vs3, vs4, tys, gl0, Tryd.ntmps51, Tryd.results51, PF.toR, gives, givesIf, spec_refChange, sp_refChange, c_refChange, b_refChange]
  have hbl := refBlocks_len kList (refPadded b) h0 rfl i
  refine ⟨fun h => ?_, fun h => ?_⟩
  · have h := of_decide_eq_true h
    have e1 : IntKind.wrap .i64 (64 * (i : Int) + 64) = 64 * i + 64 := IntWalk.i64_in _ (by omega)
    have e2 : (64 * (i : Int) + 64).toNat = 64 * i + 64 := by omega
    have e3 : (64 * (i : Int)).toNat = 64 * i := by omega
    rw [e1, e2, e3]
    have hd : 64 ≤ (List.drop (64 * i) (List.take (64 * i + 64) (refPadded b))).length := by simp; omega
    refine ⟨by omega, by omega, by omega, Int.le_refl _, hbl, hd, rfl, ⟨i + 1, by omega⟩, ⟨⟨wkD_eq ?_, rfl, wkD_eq rfl, rfl, wkD_eq rfl, rfl, wkD_eq rfl, rfl, wkD_eq rfl, rfl, trivial⟩, ⟨rfl, Nat.le_of_ble_eq_true rfl, rfl, trivial⟩, ⟨rfl, Nat.le_of_ble_eq_true rfl, trivial⟩⟩, by (try simp only); omega⟩
    exact some_int (by simp only; omega)
  · have h := of_decide_eq_false h
    obtain rfl : i = m := by omega
    generalize hst : refBlocks kList (refPadded b) i h0 = st at hbl ⊢
    refine loopI (Fin 33) (fun j => [(8, .int .i64 (j.1 : Int)), (7, .bp 84 0), (5, .sli .no .u32 st), (2, .bp 0 0)]) (fun j => ⟨[(0, .arr .u8 32 (List.replicate 32 0)), (84, .arr .u8 32 ((outBytes st).take j.1 ++ List.replicate (32 - j.1) 0))], [], 92⟩) (fun j => 32 - j.1) 0 (fun _ => rfl) ?_ ?_
    · exact ⟨⟨wkD_eq rfl, rfl, wkD_eq rfl, rfl, wkD_eq rfl, rfl, wkD_eq rfl, rfl, trivial⟩, ⟨rfl, Nat.le_of_ble_eq_true rfl, rfl, rfl, Nat.le_of_ble_eq_true rfl, rfl, trivial⟩, trivial⟩
    rintro ⟨j, hj⟩
    simp (config := {dsimp := false}) only [↓a_range, ↓roundQ_normal, ↓roundQ_ret, ↓roundQ_exit, ↓a_skip, ↓a_exit, ↓a_ret, ↓a_seq, ↓a_cond, ↓a_block, ↓a_loop, ↓a_region, ↓a_draw, ↓a_region', ↓a_draw', ↓then_key, ↓with_key, ↓withY_key, ↓cond_key, ↓one_key, ↓thenQ_normal, ↓thenQ_exit, ↓thenQ_ret, ↓blockQ_normal, ↓blockQ_exit, ↓blockQ_ret, ↓aops, ↓aopsD, ↓imp_tt, ↓imp_ff, ↓imp_tf, ↓imp_ft, ↓imp_tnt, ↓imp_tnf, ↓imp_fnt, ↓imp_fnf, look, setL, resQ, argSlots, buildSt, buildArr, intsOf, eqB, keepSl, bindM, bindP, opR, okIf, ok, bad, ev, ofConst, putS, updS, S.upd, dstOk, yieldD, yieldY, strBin, isShift, cellD, retQ, resD, stripO, convR, conv2R, makeR, indexR, indexAddrR, fieldAddrR, loadR, storeR, allocR, boxR, pickR, buildR, buildSliceR, lenR, nilCheckR, extractR, funcR, ipSlice, sliceR, appendR, callR, minR, maxR, S.box, S.tok, TK.sh, known, tsize, destI, ownTok, srcI, isIn, isSl, isSt, appendI, appendL, bnd, aggBin, nilD, isPtr, fieldOf, sized, enumS, seeR, seeL, hasB, flat, flats, List.foldl_nil, List.foldl_cons, Option.getD_some, Option.getD_none, if_true, if_false, reduceIte, reduceCtorEq, Nat.reduceEqDiff, Nat.reduceAdd, Nat.reduceMul, Nat.reduceLT, Nat.reduceSub, Nat.reduceLeDiff, true_and, and_true, List.map_cons, List.map_nil, List.size_toArray, List.length_cons, List.length_nil, Option.map_some, Option.map_none, Option.bind_some, true_implies, Bool.false_eq_true, Bool.true_eq_false, false_implies, Bool.not_true, Bool.not_false, List.getElem?_cons_zero, List.getElem?_cons_succ, implies_true, and_self, Bool.and_true, Bool.true_and, BEq.rfl, and_assoc, Option.isSome_some, Option.isSome_none, List.take_succ_cons, List.take_zero, List.set_cons_zero, List.set_cons_succ, List.forall_mem_cons, List.not_mem_nil, forall_const, List.range, List.range.loop, ne_eq, not_false_eq_true, not_true_eq_false, List.cons.injEq, Prod.mk.injEq, List.append_nil, List.nil_append, List.cons_append, false_and, and_false, Bool.false_and, Bool.and_false, Nat.reduceBNe, Nat.reduceBEq, beq_self_eq_true, bne_self_eq_false, Nat.reduceBeqDiff, Bool.or_false, Bool.false_or, Bool.or_true, Bool.true_or, vs0, vs1, vs2, vs3, vs4, tys, gl0, Tryd.ntmps51, Tryd.results51]
    refine ⟨fun h => ?_, fun h => ?_⟩
    · have h := of_decide_eq_true h
      have e4 : IntKind.wrap .i64 ((j : Int).tdiv 4) = j / 4 := by rw [Int.tdiv_eq_ediv_of_nonneg (by omega), IntWalk.i64_in _ (by omega)]
      have e5 : (j : Int).tmod 4 = ((j % 4 : Nat) : Int) := by rw [Int.tmod_eq_emod_of_nonneg (by omega)]; omega
      have e6 : ((j : Int) / 4).toNat = j / 4 := by omega
      rw [e4, e5, e6]
      refine ⟨by decide, by omega, by omega, by decide, ?_⟩
      refine loopI (Fin (4 - j % 4)) (fun k => [(10, .int .i64 (j % 4 + (k.1 : Int))), (9, .int .u32 (iterI (fun x => IntKind.wrap .u32 (x.tdiv 256)) k.1 (st.getD (j / 4) 0))), (8, .int .i64 (j : Int)), (7, .bp 84 0), (5, .sli .no .u32 st), (2, .bp 0 0)]) (fun _ => ⟨[(0, .arr .u8 32 (List.replicate 32 0)), (84, .arr .u8 32 ((outBytes st).take j ++ List.replicate (32 - j) 0))], [], 136⟩) (fun k => 4 - k.1) ⟨0, by omega⟩ (fun _ => rfl) ?_ ?_
      · refine ⟨⟨wkD_eq ?_, rfl, wkD_eq rfl, rfl, wkD_eq rfl, rfl, wkD_eq rfl, rfl, wkD_eq rfl, rfl, wkD_eq rfl, rfl, trivial⟩, ⟨rfl, Nat.le_of_ble_eq_true rfl, rfl, rfl, Nat.le_of_ble_eq_true rfl, rfl, trivial⟩, trivial⟩
        exact some_int (by simp)
      rintro ⟨k, hk⟩
      simp (config := {dsimp := false}) only [↓a_range, ↓roundQ_normal, ↓roundQ_ret, ↓roundQ_exit, ↓a_skip, ↓a_exit, ↓a_ret, ↓a_seq, ↓a_cond, ↓a_block, ↓a_loop, ↓a_region, ↓a_draw, ↓a_region', ↓a_draw', ↓then_key, ↓with_key, ↓withY_key, ↓cond_key, ↓one_key, ↓thenQ_normal, ↓thenQ_exit, ↓thenQ_ret, ↓blockQ_normal, ↓blockQ_exit, ↓blockQ_ret, ↓aops, ↓aopsD, ↓imp_tt, ↓imp_ff, ↓imp_tf, ↓imp_ft, ↓imp_tnt, ↓imp_tnf, ↓imp_fnt, ↓imp_fnf, look, setL, resQ, argSlots, buildSt, buildArr, intsOf, eqB, keepSl, bindM, bindP, opR, okIf, ok, bad, ev, ofConst, putS, updS, S.upd, dstOk, yieldD, yieldY, strBin, isShift, cellD, retQ, resD, stripO, convR, conv2R, makeR, indexR, indexAddrR, fieldAddrR, loadR, storeR, allocR, boxR, pickR, buildR, buildSliceR, lenR, nilCheckR, extractR, funcR, ipSlice, sliceR, appendR, callR, minR, maxR, S.box, S.tok, TK.sh, known, tsize, destI, ownTok, srcI, isIn, isSl, isSt, appendI, appendL, bnd, aggBin, nilD, isPtr, fieldOf, sized, enumS, seeR, seeL, hasB, flat, flats, List.foldl_nil, List.foldl_cons, Option.getD_some, Option.getD_none, if_true, if_false, reduceIte, reduceCtorEq, Nat.reduceEqDiff, Nat.reduceAdd, Nat.reduceMul, Nat.reduceLT, Nat.reduceSub, Nat.reduceLeDiff, true_and, and_true, List.map_cons, List.map_nil, List.size_toArray, List.length_cons, List.length_nil, Option.map_some, Option.map_none, Option.bind_some, true_implies, Bool.false_eq_true, Bool.true_eq_false, false_implies, Bool.not_true, Bool.not_false, List.getElem?_cons_zero, List.getElem?_cons_succ, implies_true, and_self, Bool.and_true, Bool.true_and, BEq.rfl, and_assoc, Option.isSome_some, Option.isSome_none, List.take_succ_cons, List.take_zero, List.set_cons_zero, List.set_cons_succ, List.forall_mem_cons, List.not_mem_nil, forall_const, List.range, List.range.loop, ne_eq, not_false_eq_true, not_true_eq_false, List.cons.injEq, Prod.mk.injEq, List.append_nil, List.nil_append, List.cons_append, false_and, and_false, Bool.false_and, Bool.and_false, Nat.reduceBNe, Nat.reduceBEq, beq_self_eq_true, bne_self_eq_false, Nat.reduceBeqDiff, Bool.or_false, Bool.false_or, Bool.or_true, Bool.true_or, vs0, vs1, vs2, vs3, vs4, tys, gl0, Tryd.ntmps51, Tryd.results51]
      refine ⟨fun h => ?_, fun h => ?_⟩
      · have h := of_decide_eq_true h
        refine ⟨by decide, ⟨k + 1, by omega⟩, ⟨⟨wkD_eq ?_, rfl, wkD_eq rfl, rfl, wkD_eq rfl, rfl, wkD_eq rfl, rfl, wkD_eq rfl, rfl, wkD_eq rfl, rfl, trivial⟩, ⟨rfl, Nat.le_of_ble_eq_true rfl, rfl, rfl, Nat.le_of_ble_eq_true rfl, rfl, trivial⟩, trivial⟩, by (try simp only); omega⟩
        exact some_i64 (by (try simp only); omega)
      · have h := of_decide_eq_false h
        obtain rfl : k = 3 - j % 4 := by omega
        refine ⟨by decide, by omega, by omega, ⟨j + 1, by omega⟩, ⟨⟨wkD_eq ?_, rfl, wkD_eq rfl, rfl, wkD_eq rfl, rfl, wkD_eq rfl, rfl, trivial⟩, ⟨rfl, Nat.le_of_ble_eq_true rfl, rfl, ?_, Nat.le_of_ble_eq_true rfl, rfl, trivial⟩, trivial⟩, by (try simp only); omega⟩
        · exact some_i64 (by (try simp only); omega)
        · refine some_arr ?_
          have hol := outBytes_len st
          have hj' : j < 32 := by omega
          have ht : ((outBytes st).take j).length = j := by simp; omega
          rw [show ((j : Int)).toNat = j from rfl, List.set_append_right _ _ (by omega), ht, Nat.sub_self, show 32 - j = (32 - (j + 1)) + 1 by omega, List.replicate_succ, List.set_cons_zero, List.take_add_one, List.getElem?_eq_getElem (by omega)]
          simp [outBytes]
    · have h := of_decide_eq_false h
      obtain rfl : j = 32 := by omega
      have hol := outBytes_len st
      rw [List.take_of_length_le (by omega)]
      subst hst
      have : (refPadded b).length / 64 = i := by omega
      simp [refSumI, this]
theorem c_refTwice : Contract E 43 := by
  refine contract_see hE hgl (show E.P.funcs[43]? = some Tryd.f43 from Tryd.func43) rfl (p := sp_refTwice) (fun _ _ _ => rfl) ?_
  intro args hv
  unfold sp_refTwice at hv ⊢
  split at hv
  case h_2 => exact hv.elim
  rename_i b
  refine ⟨by simp, Nat.le_of_ble_eq_true rfl, ?_⟩
  simp only [givesIf] at hv
  simp (config := {dsimp := false}) only [↓a_range, ↓roundQ_normal, ↓roundQ_ret, ↓roundQ_exit, ↓a_skip, ↓a_exit, ↓a_ret, ↓a_seq, ↓a_cond, ↓a_block, ↓a_loop, ↓a_region, ↓a_draw, ↓a_region', ↓a_draw', ↓then_key, ↓with_key, ↓withY_key, ↓cond_key, ↓one_key, ↓thenQ_normal, ↓thenQ_exit, ↓thenQ_ret, ↓blockQ_normal, ↓blockQ_exit, ↓blockQ_ret, ↓aops, ↓aopsD, ↓imp_tt, ↓imp_ff, ↓imp_tf, ↓imp_ft, ↓imp_tnt, ↓imp_tnf, ↓imp_fnt, ↓imp_fnf, look, setL, resQ, argSlots, buildSt, buildArr, intsOf, eqB, keepSl, bindM, bindP, opR, okIf, ok, bad, ev, ofConst, putS, updS, S.upd, dstOk, yieldD, yieldY, strBin, isShift, cellD, retQ, resD, stripO, convR, conv2R, makeR, indexR, indexAddrR, fieldAddrR, loadR, storeR, allocR, boxR, pickR, buildR, buildSliceR, lenR, nilCheckR, extractR, funcR, ipSlice, sliceR, appendR, callR, minR, maxR, S.box, S.tok, TK.sh, known, tsize, destI, ownTok, srcI, isIn, isSl, isSt, appendI, appendL, bnd, aggBin, nilD, isPtr, fieldOf, sized, enumS, seeR, seeL, hasB, flat, flats, List.foldl_nil, List.foldl_cons, Option.getD_some, Option.getD_none, if_true, if_false, reduceIte, reduceCtorEq, Nat.reduceEqDiff, Nat.reduceAdd, Nat.reduceMul, Nat.reduceLT, Nat.reduceSub, Nat.reduceLeDiff, true_and, and_true, List.map_cons, List.map_nil, List.size_toArray, List.length_cons, List.length_nil, Option.map_some, Option.map_none, Option.bind_some, true_implies, Bool.false_eq_true, Bool.true_eq_false, false_implies, Bool.not_true, Bool.not_false, List.getElem?_cons_zero, List.getElem?_cons_succ, implies_true, and_self, Bool.and_true, Bool.true_and, BEq.rfl, and_assoc, Option.isSome_some, Option.isSome_none, List.take_succ_cons, List.take_zero, List.set_cons_zero, List.set_cons_succ, List.forall_mem_cons, List.not_mem_nil, forall_const, List.range, List.range.loop, ne_eq, not_false_eq_true, not_true_eq_false, List.cons.injEq, Prod.mk.injEq, List.append_nil, List.nil_append, List.cons_append, false_and, and_false, Bool.false_and, Bool.and_false, Nat.reduceBNe, Nat.reduceBEq, beq_self_eq_true, bne_self_eq_false, Nat.reduceBeqDiff, Bool.or_false, Bool.false_or, Bool.or_true, Bool.true_or, vs0, vs1, vs2, vs3, vs4, tys, gl0, Tryd.ntmps43, Tryd.results43, PF.toR, gives, givesIf, spec_refSum, sp_refSum, c_refSum, b_refSum]
  refine ⟨hv, ?_⟩
  have hl : (refSumI b).length = 32 := outBytes_len _
  refine loopA [(4, some .u8, 0)] ?_
  simp only [adopt, look, reduceIte, Nat.reduceEqDiff, if_false, setL, Nat.reduceAdd]
  refine ⟨Fin 33, fun i => [(4, .sli (.tok 28) .u8 ((refSumI b).take i.1)), (5, .int .i64 (i.1 : Int)), (3, .bp 12 0), (2, .bp 0 0)], fun i => ⟨[(0, .arr .u8 32 (List.replicate 32 0)), (12, .arr .u8 32 (refSumI b))], [(28, (i.1, 1))], 32⟩, fun i => 32 - i.1, 0, fun _ => rfl, ⟨⟨wkD_eq rfl, rfl, wkD_eq rfl, rfl, wkD_eq rfl, rfl, wkD_eq rfl, rfl, trivial⟩, ⟨rfl, Nat.le_of_ble_eq_true rfl, rfl, rfl, Nat.le_of_ble_eq_true rfl, rfl, trivial⟩, ⟨rfl, Nat.le_of_ble_eq_true rfl, trivial⟩⟩, ?_⟩
  rintro ⟨i, hi⟩
  simp (config := {dsimp := false}) only [↓a_range, ↓roundQ_normal, ↓roundQ_ret, ↓roundQ_exit, ↓a_skip, ↓a_exit, ↓a_ret, ↓a_seq, ↓a_cond, ↓a_block, ↓a_loop, ↓a_region, ↓a_draw, ↓a_region', ↓a_draw', ↓then_key, ↓with_key, ↓withY_key, ↓cond_key, ↓one_key, ↓thenQ_normal, ↓thenQ_exit, ↓thenQ_ret, ↓blockQ_normal, ↓blockQ_exit, ↓blockQ_ret, ↓aops, ↓aopsD, ↓imp_tt, ↓imp_ff, ↓imp_tf, ↓imp_ft, ↓imp_tnt, ↓imp_tnf, ↓imp_fnt, ↓imp_fnf, look, setL, resQ, argSlots, buildSt, buildArr, intsOf, eqB, keepSl, bindM, bindP, opR, okIf, ok, bad, ev, ofConst, putS, updS, S.upd, dstOk, yieldD, yieldY, strBin, isShift, cellD, retQ, resD, stripO, convR, conv2R, makeR, indexR, indexAddrR, fieldAddrR, loadR, storeR, allocR, boxR, pickR, buildR, buildSliceR, lenR, nilCheckR, extractR, funcR, ipSlice, sliceR, appendR, callR, minR, maxR, S.box, S.tok, TK.sh, known, tsize, destI, ownTok, srcI, isIn, isSl, isSt, appendI, appendL, bnd, aggBin, nilD, isPtr, fieldOf, sized, enumS, seeR, seeL, hasB, flat, flats, List.foldl_nil, List.foldl_cons, Option.getD_some, Option.getD_none, if_true, if_false, reduceIte, reduceCtorEq, Nat.reduceEqDiff, Nat.reduceAdd, Nat.reduceMul, Nat.reduceLT, Nat.reduceSub, Nat.reduceLeDiff, true_and, and_true, List.map_cons, List.map_nil, List.size_toArray, List.length_cons, List.length_nil, Option.map_some, Option.map_none, Option.bind_some, true_implies, Bool.false_eq_true, Bool.true_eq_false, false_implies, Bool.not_true, Bool.not_false, List.getElem?_cons_zero, List.getElem?_cons_succ, implies_true, and_self, Bool.and_true, Bool.true_and, BEq.rfl, and_assoc, Option.isSome_some, Option.isSome_none, List.take_succ_cons, List.take_zero, List.set_cons_zero, List.set_cons_succ, List.forall_mem_cons, List.not_mem_nil, forall_const, List.range, List.range.loop, ne_eq, not_false_eq_true, not_true_eq_false, List.cons.injEq, Prod.mk.injEq, List.append_nil, List.nil_append, List.cons_append, false_and, and_false, Bool.false_and, Bool.and_false, Nat.reduceBNe, Nat.reduceBEq, beq_self_eq_true, bne_self_eq_false, Nat.reduceBeqDiff, Bool.or_false, Bool.false_or, Bool.or_true, Bool.true_or, vs0, vs1, vs2, vs3, vs4, tys, gl0, Tryd.ntmps43, Tryd.results43, PF.toR, gives, givesIf, spec_refSum, sp_refSum, c_refSum, b_refSum]
  have hti : ((refSumI b).take i).length = i := by simp; omega
  refine ⟨fun hh => ?_, fun hh => ?_⟩
  · have hh := of_decide_eq_true hh
    rw [hti]
    refine ⟨by omega, by omega, rfl, by omega, ⟨i + 1, by omega⟩, ⟨⟨wkD_eq ?_, rfl, wkD_eq ?_, rfl, wkD_eq rfl, rfl, wkD_eq rfl, rfl, trivial⟩, ⟨rfl, Nat.le_of_ble_eq_true rfl, rfl, rfl, Nat.le_of_ble_eq_true rfl, rfl, trivial⟩, ⟨?_, Nat.le_of_ble_eq_true rfl, trivial⟩⟩, by (try simp only); omega⟩
    · refine some_sli ?_
      rw [List.take_add_one, List.getElem?_eq_getElem (by omega)]
      simp [List.getD, List.getElem?_eq_getElem (show i < (refSumI b).length by omega)]
    · exact some_i64 (by (try simp only); omega)
    · rfl
  · have hh := of_decide_eq_false hh
    obtain rfl : i = 32 := by omega
    rw [List.take_of_length_le (by omega)]
    first | exact ⟨by omega, rfl⟩ | (rw [outBytes_len]; omega) | trace_state
theorem refTextI_len (h : List Int) : (refTextI h).length = 64 := by simp [refTextI]
theorem refTextI_at (h : List Int) (i : Nat) (hi : i < 64) : (refTextI h)[i]? = some (hexOf (if i % 2 = 1 then (h.getD (i / 2) 0).tmod 16 else IntKind.wrap .u8 ((h.getD (i / 2) 0).tdiv 16))) := by
  simp only [refTextI, List.getElem?_map, List.getElem?_range hi, Option.map_some]
theorem byteAt_range (s : ByteArray) (k : Int) : 0 ≤ byteAt s k ∧ byteAt s k < 256 := by
  unfold byteAt
  split
  · rename_i b _
    have := b.toNat_lt
    omega
  · omega
theorem refOf_none {s : ByteArray} {i : Nat} (h : refOfP s i = none) : ∀ j, i ≤ j → refOfP s j = none := by
  intro j hj
  induction j with
  | zero => obtain rfl : i = 0 := by omega
            exact h
  | succ j ih =>
    by_cases e : i = j + 1
    · subst e; exact h
    · simp only [refOfP, ih (by omega)]
theorem hexVal_le (c : Int) : hexVal c ≤ 15 ∧ -1 ≤ hexVal c := by
  unfold hexVal
  split
  · omega
  · split <;> omega
theorem of_none {s : ByteArray} {i : Nat} (h : ofP s i = none) : ∀ j, i ≤ j → ofP s j = none := by
  intro j hj
  induction j with
  | zero => obtain rfl : i = 0 := by omega
            exact h
  | succ j ih =>
    by_cases e : i = j + 1
    · subst e; exact h
    · simp only [ofP, ih (by omega)]
end Go.Vi.C8
end

section
/-
  A LAST HASH ONCE MORE; two lists with one root.
-/
set_option linter.unusedVariables false
namespace Go.Vi

theorem rootP_above {l : L2} (h : 1 < l.length) : rootP l = rootP (aboveP l) := by
  have h1 : l ≠ [] := by intro e; subst e; simp at h
  have h2 : aboveP l ≠ [] := by
    intro e
    have := above_len l
    rw [e] at this
    simp at this
    omega
  rw [rootP, if_neg h1, rootP, if_neg h2, dep_gt h, above_len, Nat.add_comm, rowAt_succ]
theorem pairsTo_succ (l : L2) : ∀ k, pairsTo l (k + 1) = pairsOf l ++ pairsTo (aboveP l) k
  | 0 => by simp [pairsTo, rowAt]
  | k + 1 => by
    rw [pairsTo, pairsTo_succ l k, rowAt_succ]
    simp only [pairsTo, List.append_assoc]
theorem allP_above {l : L2} (h : 1 < l.length) : allP l = pairsOf l ++ allP (aboveP l) := by
  rw [allP, dep_gt h, Nat.add_comm, pairsTo_succ, allP, above_len]
theorem mut_foldl : ∀ (xs : List Pr) (m : Bool), xs.foldl mutS m = (m || xs.any fun p => !p.2.2 && decide (p.1 = p.2.1))
  | [], m => by simp
  | p :: r, m => by simp only [List.foldl_cons, mut_foldl r, mutS, List.any_cons, Bool.or_assoc]
theorem mutP_eq (xs : List Pr) : mutP xs = xs.any fun p => !p.2.2 && decide (p.1 = p.2.1) := by rw [mutP, mut_foldl, Bool.false_or]
theorem mutP_append (xs ys : List Pr) : mutP (xs ++ ys) = (mutP xs || mutP ys) := by simp [mutP_eq]
theorem mutP_above {l : L2} (h : 1 < l.length) : mutP (allP l) = (mutP (pairsOf l) || mutP (allP (aboveP l))) := by rw [allP_above h, mutP_append]

theorem getD_left (l : L2) (x : L2) (i : Nat) (h : i < l.length) : (l ++ x).getD i [] = l.getD i [] := by simp [List.getD, List.getElem?_append_left h]
theorem pairAt_left (l x : L2) (i : Nat) (h : 2 * i + 2 ≤ l.length) : pairAt (l ++ x) i = pairAt l i := by
  simp only [pairAt, List.length_append]
  rw [if_pos (by omega), if_pos h, getD_left _ _ _ (by omega), getD_left _ _ _ (by omega)]
  simp [h]
  omega
/-- The last of an odd row, once more. -/
theorem above_odd {l : L2} {k : Nat} (hl : l.length = 2 * k + 1) : aboveP (l ++ [l.getD (2 * k) []]) = aboveP l ∧ mutP (pairsOf (l ++ [l.getD (2 * k) []])) = true := by
  have e1 : ((l ++ [l.getD (2 * k) []]).length + 1) / 2 = k + 1 := by simp; omega
  have e2 : (l.length + 1) / 2 = k + 1 := by omega
  have p1 : pairAt (l ++ [l.getD (2 * k) []]) k = (l.getD (2 * k) [], l.getD (2 * k) [], false) := by
    simp only [pairAt, List.length_append, List.length_singleton]
    rw [if_pos (by omega), getD_left _ _ _ (by omega)]
    have : (l ++ [l.getD (2 * k) []]).getD (2 * k + 1) [] = l.getD (2 * k) [] := by simp [List.getD, hl]
    rw [this]
    simp
    omega
  have p2 : pairAt l k = (l.getD (2 * k) [], l.getD (2 * k) [], true) := by
    simp only [pairAt]
    rw [if_neg (by omega)]
    simp
    omega
  constructor
  · unfold aboveP pairsOf
    rw [e1, e2, List.range_succ]
    simp only [List.map_append, List.map_cons, List.map_nil, p1, p2]
    congr 1
    simp only [List.map_map]
    apply List.map_congr_left
    intro i hi
    simp only [List.mem_range] at hi
    simp only [Function.comp, pairAt_left l _ i (by omega)]
  · rw [mutP_eq, List.any_eq_true]
    refine ⟨pairAt (l ++ [l.getD (2 * k) []]) k, ?_, by rw [p1]; simp⟩
    unfold pairsOf
    rw [e1]
    exact List.mem_map_of_mem (by simp)
theorem twice_odd {l : L2} {k : Nat} (hk : 1 ≤ k) (hl : l.length = 2 * k + 1) : rootP (l ++ [l.getD (2 * k) []]) = rootP l ∧ mutP (allP (l ++ [l.getD (2 * k) []])) = true := by
  obtain ⟨h1, h2⟩ := above_odd hl
  refine ⟨?_, ?_⟩
  · rw [rootP_above (by simp; omega), h1, ← rootP_above (by omega)]
  · rw [mutP_above (by simp; omega), h2, Bool.true_or]
theorem twice_two {l : L2} {k : Nat} (hk : 1 ≤ k) (hl : l.length = 4 * k + 2) : rootP (l ++ [l.getD (4 * k) [], l.getD (4 * k + 1) []]) = rootP l ∧ mutP (allP (l ++ [l.getD (4 * k) [], l.getD (4 * k + 1) []])) = true := by
  have e1 : ((l ++ [l.getD (4 * k) [], l.getD (4 * k + 1) []]).length + 1) / 2 = 2 * k + 2 := by simp; omega
  have e2 : (l.length + 1) / 2 = 2 * k + 1 := by omega
  have p2 : pairAt l (2 * k) = (l.getD (4 * k) [], l.getD (4 * k + 1) [], false) := by
    simp only [pairAt]
    rw [if_pos (by omega), show 2 * (2 * k) = 4 * k by omega]
    simp
    omega
  have p1 : pairAt (l ++ [l.getD (4 * k) [], l.getD (4 * k + 1) []]) (2 * k + 1) = (l.getD (4 * k) [], l.getD (4 * k + 1) [], false) := by
    simp only [pairAt, List.length_append, List.length_cons, List.length_nil]
    rw [if_pos (by omega), show 2 * (2 * k + 1) = l.length by omega]
    have h1 : ∀ a b : List Int, (l ++ [a, b]).getD l.length [] = a := by intro a b; simp [List.getD]
    have h2 : ∀ a b : List Int, (l ++ [a, b]).getD (l.length + 1) [] = b := by intro a b; simp [List.getD]
    rw [h1, h2]
    simp
  have ha : aboveP (l ++ [l.getD (4 * k) [], l.getD (4 * k + 1) []]) = aboveP l ++ [(aboveP l).getD (2 * k) []] := by
    have hl2 : aboveP l = (List.range (2 * k)).map (fun i => joinP (pairAt l i)) ++ [H2 (l.getD (4 * k) []) (l.getD (4 * k + 1) [])] := by
      unfold aboveP pairsOf
      rw [e2, List.range_succ]
      simp only [List.map_append, List.map_cons, List.map_nil, p2, List.map_map]
      rfl
    have hg : (aboveP l).getD (2 * k) [] = H2 (l.getD (4 * k) []) (l.getD (4 * k + 1) []) := by
      rw [hl2]
      simp [List.getD]
    rw [hg]
    conv => rhs; rw [hl2]
    unfold aboveP pairsOf
    rw [e1, List.range_succ, List.range_succ]
    simp only [List.map_append, List.map_cons, List.map_nil, p1, List.map_map, pairAt_left l _ (2 * k) (by omega), p2]
    congr 2
    apply List.map_congr_left
    intro i hi
    simp only [List.mem_range] at hi
    simp only [Function.comp, pairAt_left l _ i (by omega)]
  have := twice_odd (l := aboveP l) hk (by rw [above_len]; omega)
  refine ⟨?_, ?_⟩
  · rw [rootP_above (by simp), ha, this.1, ← rootP_above (by omega)]
  · rw [mutP_above (by simp), ha, this.2, Bool.or_true]

theorem apart : ∀ (n : Nat) (a b : L2), a.length = n → b.length = n → h32 a → h32 b → rootP a = rootP b → a ≠ b → ∃ p ∈ allP a, ∃ q ∈ allP b, textOf p ≠ textOf q ∧ joinP p = joinP q := by
  intro n
  induction n using Nat.strongRecOn with
  | _ n ih =>
    intro a b ha hb h1 h2 hr hne
    rcases Nat.lt_or_ge 1 n with hn | hn
    · by_cases he : aboveP a = aboveP b
      · obtain ⟨j, hj, hd⟩ : ∃ j, j < n ∧ a.getD j [] ≠ b.getD j [] := by
          apply Classical.byContradiction
          intro hno
          apply hne
          apply List.ext_getElem (by omega)
          intro j k1 k2
          apply Classical.byContradiction
          intro h3
          exact hno ⟨j, by omega, by simpa [List.getD, k1, k2] using h3⟩
        have hi : j / 2 < (n + 1) / 2 := by omega
        have mp : pairAt a (j / 2) ∈ allP a := by
          rw [allP_above (by omega)]
          exact List.mem_append_left _ (List.mem_map_of_mem (by rw [ha]; simpa using hi))
        have mq : pairAt b (j / 2) ∈ allP b := by
          rw [allP_above (by omega)]
          exact List.mem_append_left _ (List.mem_map_of_mem (by rw [hb]; simpa using hi))
        refine ⟨_, mp, _, mq, fun e => hd ?_, ?_⟩
        · have l1 : (pairAt a (j / 2)).1.length = (pairAt b (j / 2)).1.length := by
            simp only [pairAt]
            rw [h1 _ (getD_mem (by omega)), h2 _ (getD_mem (by omega))]
          obtain ⟨e1, e2⟩ := List.append_inj e l1
          simp only [pairAt] at e1 e2
          rcases Nat.mod_two_eq_zero_or_one j with h | h
          · rwa [show 2 * (j / 2) = j by omega] at e1
          · rw [if_pos (by omega), if_pos (by omega)] at e2
            rwa [show 2 * (j / 2) + 1 = j by omega] at e2
        · have := congrArg (fun l => l.getD (j / 2) []) he
          simp only [aboveP, pairsOf, List.map_map, ha, hb] at this
          simpa [List.getD, hi] using this
      · obtain ⟨p, hp, q, hq, h3⟩ := ih ((n + 1) / 2) (by omega) (aboveP a) (aboveP b) (by rw [above_len, ha]) (by rw [above_len, hb]) (row_h32 h1 1) (row_h32 h2 1) (by rw [← rootP_above (by omega), ← rootP_above (by omega)]; exact hr) he
        exact ⟨p, by rw [allP_above (by omega)]; exact List.mem_append_right _ hp, q, by rw [allP_above (by omega)]; exact List.mem_append_right _ hq, h3⟩
    · exfalso
      match a, b, ha, hb with
      | [], [], _, _ => exact hne rfl
      | [], _ :: _, e1, e2 => simp at e1 e2; omega
      | _ :: _, [], e1, e2 => simp at e1 e2; omega
      | [x], [y], _, _ =>
        apply hne
        have e1 : ∀ z : List Int, rootP [z] = z := fun z => by rw [rootP, if_neg (by simp), show ([z] : L2).length = 1 from rfl, dep_le (by omega)]; rfl
        rw [e1, e1] at hr
        rw [hr]
      | _ :: _ :: _, _, e1, _ => simp at e1; omega
      | _, _ :: _ :: _, _, e2 => simp at e2; omega
theorem row_bytes {l : L2} (h : ∀ x ∈ l, bytes x) : ∀ k, ∀ x ∈ rowAt l k, bytes x
  | 0 => h
  | k + 1 => fun x hx => by
    obtain ⟨p, _, rfl⟩ := List.mem_map.1 hx
    exact bytes_sum _
theorem pair_ok {l : L2} (h1 : h32 l) (h2 : ∀ x ∈ l, bytes x) {p : Pr} (hp : p ∈ pairsOf l) : (p.1.length = 32 ∧ p.2.1.length = 32) ∧ bytes p.1 ∧ bytes p.2.1 := by
  obtain ⟨i, hi, rfl⟩ := List.mem_map.1 hp
  simp only [List.mem_range] at hi
  have hm := getD_mem (l := l) (i := 2 * i) (by omega)
  simp only [pairAt]
  split
  · have hm2 := getD_mem (l := l) (i := 2 * i + 1) (by omega)
    exact ⟨⟨h1 _ hm, h1 _ hm2⟩, h2 _ hm, h2 _ hm2⟩
  · exact ⟨⟨h1 _ hm, h1 _ hm⟩, h2 _ hm, h2 _ hm⟩
theorem all_ok {l : L2} (h1 : h32 l) (h2 : ∀ x ∈ l, bytes x) {p : Pr} (hp : p ∈ allP l) : (p.1.length = 32 ∧ p.2.1.length = 32) ∧ bytes p.1 ∧ bytes p.2.1 := by
  have key : ∀ k, p ∈ pairsTo l k → (p.1.length = 32 ∧ p.2.1.length = 32) ∧ bytes p.1 ∧ bytes p.2.1 := by
    intro k
    induction k with
    | zero => intro h; simp [pairsTo] at h
    | succ k ih =>
      intro h
      rcases List.mem_append.1 h with h | h
      · exact ih h
      · exact pair_ok (row_h32 h1 k) (row_bytes h2 k) h
  exact key _ hp
theorem text_ok {l : L2} (h1 : h32 l) (h2 : ∀ x ∈ l, bytes x) : ∀ x ∈ (allP l).map textOf, x.length < 1000000 ∧ bytes x := by
  intro x hx
  obtain ⟨p, hp, rfl⟩ := List.mem_map.1 hx
  obtain ⟨⟨e1, e2⟩, e3, e4⟩ := all_ok h1 h2 hp
  exact ⟨by simp [textOf, e1, e2], bytes_append e3 e4⟩
theorem all_len {l : L2} (h : l.length ≤ 1000) : ((allP l).map textOf).length < 1000000 := by
  rw [List.length_map]
  have := pairsTo_len l (by omega) (dep l.length) (Nat.le_refl _)
  rcases Nat.lt_or_ge l.length 1 with h1 | h1
  · rw [dep_le (by omega)] at this; unfold allP; rw [dep_le (by omega)]; omega
  · have := dep_lt l.length h1
    unfold allP
    omega
theorem clash_of {a b : L2} (h : ∃ p ∈ allP a, ∃ q ∈ allP b, textOf p ≠ textOf q ∧ joinP p = joinP q) : clashP ((allP a).map textOf) ((allP b).map textOf) = true := by
  obtain ⟨p, hp, q, hq, h1, h2⟩ := h
  unfold clashP
  rw [List.any_eq_true]
  refine ⟨_, List.mem_map_of_mem hp, ?_⟩
  rw [List.any_eq_true]
  refine ⟨_, List.mem_map_of_mem hq, ?_⟩
  rw [decide_eq_false h1, decide_eq_true (show sumP (sumP (textOf p)) = sumP (sumP (textOf q)) from h2)]
  rfl
end Go.Vi
end

section
set_option linter.unusedVariables false
set_option linter.unusedSimpArgs false
set_option maxHeartbeats 0
set_option maxRecDepth 20000
namespace Go.Vi.C8
open Go.Proofs

theorem arrs_eq_nil {l : L2} (e : arrs l = []) : l.length = 0 := by
  have := congrArg List.length e
  rwa [arrs_length] at this
theorem slis_eq_nil {l : L2} (e : slis l = []) : l.length = 0 := by
  have := congrArg List.length e
  rwa [slis_length] at this
theorem partner_pair (l : L2) (i : Nat) (h : 2 * i < l.length) : partnerP l (2 * i) = (pairAt l i).2.1 ∧ (pairAt l i).1 = l.getD (2 * i) [] := by
  refine ⟨?_, rfl⟩
  unfold partnerP pairAt
  rw [if_neg (show ¬ 2 * i % 2 = 1 by omega)]
  by_cases h2 : 2 * i + 2 ≤ l.length
  · rw [if_neg (by omega)]; simp [h2]
  · rw [if_pos (by omega)]; simp [h2]
theorem above_get (l : L2) (i : Nat) (h : i < (l.length + 1) / 2) : (aboveP l).getD i [] = joinP (pairAt l i) := by
  simp [aboveP, pairsOf, List.getD, h]
theorem w2i {i : Nat} (h : i < 100000) : IntKind.wrap .i64 (2 * (i : Int) + 2) = 2 * ((i + 1 : Nat) : Int) := by rw [IntWalk.i64_in _ (by omega)]; omega
theorem bare_sli (k : IntKind) (xs : List Int) : (D.sli .no k xs).bare = D.sli .no k xs := rfl
theorem c_refPartner : Contract E 38 := by
  refine contract_see hE hgl (show E.P.funcs[38]? = some Tryd.f38 from Tryd.func38) rfl (p := sp_refPartner) (fun _ _ _ => rfl) ?_
  intro args hv
  unfold sp_refPartner at hv ⊢
  split at hv
  case h_2 => exact hv.elim
  rename_i es i
  refine ⟨by simp, Nat.le_of_ble_eq_true rfl, ?_⟩
  simp only [givesIf] at hv
  obtain ⟨⟨l, rfl, hl⟩, hlen, h0, h1⟩ := hv
  obtain ⟨n, rfl⟩ : ∃ n : Nat, i = (n : Int) := ⟨i.toNat, by omega⟩
  simp only [arrs_length] at hlen h1
  have w1 : IntKind.wrap .i64 ((n : Int) + 1) = ((n + 1 : Nat) : Int) := w64' (by omega) (by omega)
  rcases Nat.mod_two_eq_zero_or_one n with hm | hm
  · have c1 : decide ((n : Int).tmod 2 = 1) = false := by rw [Int.tmod_eq_emod_of_nonneg (by omega)]; simp; omega
    by_cases h2 : n + 1 < l.length
    · have c2 : decide (((n + 1 : Nat) : Int) ≥ (l.length : Int)) = false := decide_eq_false (by omega)
      have g := arrs_get l (n + 1) (by omega)
      have hp : partnerP l n = l.getD (n + 1) [] := by unfold partnerP; rw [if_neg (show ¬ n % 2 = 1 by omega), if_neg (by omega)]
      simp (config := {dsimp := false}) only [↓a_range, ↓roundQ_normal, ↓roundQ_ret, ↓roundQ_exit, ↓a_skip, ↓a_exit, ↓a_ret, ↓a_seq, ↓a_cond, ↓a_block, ↓a_loop, ↓a_region, ↓a_draw, ↓a_region', ↓a_draw', ↓then_key, ↓with_key, ↓withY_key, ↓cond_key, ↓one_key, ↓thenQ_normal, ↓thenQ_exit, ↓thenQ_ret, ↓blockQ_normal, ↓blockQ_exit, ↓blockQ_ret, ↓aops, ↓aopsD, ↓imp_tt, ↓imp_ff, ↓imp_tf, ↓imp_ft, ↓imp_tnt, ↓imp_tnf, ↓imp_fnt, ↓imp_fnf, look, setL, resQ, argSlots, buildSt, buildArr, intsOf, eqB, keepSl, bindM, bindP, opR, okIf, ok, bad, ev, ofConst, putS, updS, S.upd, dstOk, yieldD, yieldY, strBin, isShift, cellD, retQ, resD, stripO, convR, conv2R, makeR, indexR, indexAddrR, fieldAddrR, loadR, storeR, allocR, boxR, pickR, buildR, buildSliceR, lenR, nilCheckR, extractR, funcR, ipSlice, sliceR, appendR, callR, minR, maxR, S.box, S.tok, TK.sh, known, tsize, destI, ownTok, srcI, isIn, isSl, isSt, appendI, appendL, bnd, aggBin, nilD, isPtr, fieldOf, sized, enumS, seeR, seeL, hasB, flat, flats, List.foldl_nil, List.foldl_cons, Option.getD_some, Option.getD_none, if_true, if_false, reduceIte, reduceCtorEq, Nat.reduceEqDiff, Nat.reduceAdd, Nat.reduceMul, Nat.reduceLT, Nat.reduceSub, Nat.reduceLeDiff, true_and, and_true, List.map_cons, List.map_nil, List.size_toArray, List.length_cons, List.length_nil, Option.map_some, Option.map_none, Option.bind_some, true_implies, Bool.false_eq_true, Bool.true_eq_false, false_implies, Bool.not_true, Bool.not_false, List.getElem?_cons_zero, List.getElem?_cons_succ, implies_true, and_self, Bool.and_true, Bool.true_and, BEq.rfl, and_assoc, Option.isSome_some, Option.isSome_none, List.take_succ_cons, List.take_zero, List.set_cons_zero, List.set_cons_succ, List.forall_mem_cons, List.not_mem_nil, forall_const, List.range, List.range.loop, ne_eq, not_false_eq_true, not_true_eq_false, List.cons.injEq, Prod.mk.injEq, List.append_nil, List.nil_append, List.cons_append, false_and, and_false, Bool.false_and, Bool.and_false, Nat.reduceBNe, Nat.reduceBEq, beq_self_eq_true, bne_self_eq_false, Nat.reduceBeqDiff, Bool.or_false, Bool.false_or, Bool.or_true, Bool.true_or, vs0, vs1, vs2, vs3, vs4, tys, gl0, Tryd.ntmps38, Tryd.results38, arrs_length, w1, c1, c2, g, Int.toNat_natCast]
      rw [hs_arrs, hp]
      exact ⟨by decide, by omega, by omega, rfl⟩
    · have c2 : decide (((n + 1 : Nat) : Int) ≥ (l.length : Int)) = true := decide_eq_true (by omega)
      have g := arrs_get l n (by omega)
      have hp : partnerP l n = l.getD n [] := by unfold partnerP; rw [if_neg (show ¬ n % 2 = 1 by omega), if_pos (by omega)]
      simp (config := {dsimp := false}) only [↓a_range, ↓roundQ_normal, ↓roundQ_ret, ↓roundQ_exit, ↓a_skip, ↓a_exit, ↓a_ret, ↓a_seq, ↓a_cond, ↓a_block, ↓a_loop, ↓a_region, ↓a_draw, ↓a_region', ↓a_draw', ↓then_key, ↓with_key, ↓withY_key, ↓cond_key, ↓one_key, ↓thenQ_normal, ↓thenQ_exit, ↓thenQ_ret, ↓blockQ_normal, ↓blockQ_exit, ↓blockQ_ret, ↓aops, ↓aopsD, ↓imp_tt, ↓imp_ff, ↓imp_tf, ↓imp_ft, ↓imp_tnt, ↓imp_tnf, ↓imp_fnt, ↓imp_fnf, look, setL, resQ, argSlots, buildSt, buildArr, intsOf, eqB, keepSl, bindM, bindP, opR, okIf, ok, bad, ev, ofConst, putS, updS, S.upd, dstOk, yieldD, yieldY, strBin, isShift, cellD, retQ, resD, stripO, convR, conv2R, makeR, indexR, indexAddrR, fieldAddrR, loadR, storeR, allocR, boxR, pickR, buildR, buildSliceR, lenR, nilCheckR, extractR, funcR, ipSlice, sliceR, appendR, callR, minR, maxR, S.box, S.tok, TK.sh, known, tsize, destI, ownTok, srcI, isIn, isSl, isSt, appendI, appendL, bnd, aggBin, nilD, isPtr, fieldOf, sized, enumS, seeR, seeL, hasB, flat, flats, List.foldl_nil, List.foldl_cons, Option.getD_some, Option.getD_none, if_true, if_false, reduceIte, reduceCtorEq, Nat.reduceEqDiff, Nat.reduceAdd, Nat.reduceMul, Nat.reduceLT, Nat.reduceSub, Nat.reduceLeDiff, true_and, and_true, List.map_cons, List.map_nil, List.size_toArray, List.length_cons, List.length_nil, Option.map_some, Option.map_none, Option.bind_some, true_implies, Bool.false_eq_true, Bool.true_eq_false, false_implies, Bool.not_true, Bool.not_false, List.getElem?_cons_zero, List.getElem?_cons_succ, implies_true, and_self, Bool.and_true, Bool.true_and, BEq.rfl, and_assoc, Option.isSome_some, Option.isSome_none, List.take_succ_cons, List.take_zero, List.set_cons_zero, List.set_cons_succ, List.forall_mem_cons, List.not_mem_nil, forall_const, List.range, List.range.loop, ne_eq, not_false_eq_true, not_true_eq_false, List.cons.injEq, Prod.mk.injEq, List.append_nil, List.nil_append, List.cons_append, false_and, and_false, Bool.false_and, Bool.and_false, Nat.reduceBNe, Nat.reduceBEq, beq_self_eq_true, bne_self_eq_false, Nat.reduceBeqDiff, Bool.or_false, Bool.false_or, Bool.or_true, Bool.true_or, vs0, vs1, vs2, vs3, vs4, tys, gl0, Tryd.ntmps38, Tryd.results38, arrs_length, w1, c1, c2, g, Int.toNat_natCast]
      rw [hs_arrs, hp]
      exact ⟨by decide, by omega, by omega, rfl⟩
  · have c1 : decide ((n : Int).tmod 2 = 1) = true := by rw [Int.tmod_eq_emod_of_nonneg (by omega)]; simp; omega
    have w2 : IntKind.wrap .i64 ((n : Int) - 1) = ((n - 1 : Nat) : Int) := w64' (by omega) (by omega)
    have c2 : decide (((n - 1 : Nat) : Int) ≥ (l.length : Int)) = false := decide_eq_false (by omega)
    have g := arrs_get l (n - 1) (by omega)
    have hp : partnerP l n = l.getD (n - 1) [] := by unfold partnerP; rw [if_pos hm, if_neg (by omega)]
    simp (config := {dsimp := false}) only [↓a_range, ↓roundQ_normal, ↓roundQ_ret, ↓roundQ_exit, ↓a_skip, ↓a_exit, ↓a_ret, ↓a_seq, ↓a_cond, ↓a_block, ↓a_loop, ↓a_region, ↓a_draw, ↓a_region', ↓a_draw', ↓then_key, ↓with_key, ↓withY_key, ↓cond_key, ↓one_key, ↓thenQ_normal, ↓thenQ_exit, ↓thenQ_ret, ↓blockQ_normal, ↓blockQ_exit, ↓blockQ_ret, ↓aops, ↓aopsD, ↓imp_tt, ↓imp_ff, ↓imp_tf, ↓imp_ft, ↓imp_tnt, ↓imp_tnf, ↓imp_fnt, ↓imp_fnf, look, setL, resQ, argSlots, buildSt, buildArr, intsOf, eqB, keepSl, bindM, bindP, opR, okIf, ok, bad, ev, ofConst, putS, updS, S.upd, dstOk, yieldD, yieldY, strBin, isShift, cellD, retQ, resD, stripO, convR, conv2R, makeR, indexR, indexAddrR, fieldAddrR, loadR, storeR, allocR, boxR, pickR, buildR, buildSliceR, lenR, nilCheckR, extractR, funcR, ipSlice, sliceR, appendR, callR, minR, maxR, S.box, S.tok, TK.sh, known, tsize, destI, ownTok, srcI, isIn, isSl, isSt, appendI, appendL, bnd, aggBin, nilD, isPtr, fieldOf, sized, enumS, seeR, seeL, hasB, flat, flats, List.foldl_nil, List.foldl_cons, Option.getD_some, Option.getD_none, if_true, if_false, reduceIte, reduceCtorEq, Nat.reduceEqDiff, Nat.reduceAdd, Nat.reduceMul, Nat.reduceLT, Nat.reduceSub, Nat.reduceLeDiff, true_and, and_true, List.map_cons, List.map_nil, List.size_toArray, List.length_cons, List.length_nil, Option.map_some, Option.map_none, Option.bind_some, true_implies, Bool.false_eq_true, Bool.true_eq_false, false_implies, Bool.not_true, Bool.not_false, List.getElem?_cons_zero, List.getElem?_cons_succ, implies_true, and_self, Bool.and_true, Bool.true_and, BEq.rfl, and_assoc, Option.isSome_some, Option.isSome_none, List.take_succ_cons, List.take_zero, List.set_cons_zero, List.set_cons_succ, List.forall_mem_cons, List.not_mem_nil, forall_const, List.range, List.range.loop, ne_eq, not_false_eq_true, not_true_eq_false, List.cons.injEq, Prod.mk.injEq, List.append_nil, List.nil_append, List.cons_append, false_and, and_false, Bool.false_and, Bool.and_false, Nat.reduceBNe, Nat.reduceBEq, beq_self_eq_true, bne_self_eq_false, Nat.reduceBeqDiff, Bool.or_false, Bool.false_or, Bool.or_true, Bool.true_or, vs0, vs1, vs2, vs3, vs4, tys, gl0, Tryd.ntmps38, Tryd.results38, arrs_length, w1, w2, c1, c2, g, Int.toNat_natCast]
    rw [hs_arrs, hp]
    exact ⟨by decide, by omega, by omega, rfl⟩
theorem take_snoc {α : Type} (l : List α) (i : Nat) (h : i < l.length) (d : α) : l.take i ++ [l.getD i d] = l.take (i + 1) := by
  rw [List.take_add_one]
  simp [List.getD, h]
theorem c_refMText : Contract E 37 := by
  refine contract_see hE hgl (show E.P.funcs[37]? = some Tryd.f37 from Tryd.func37) rfl (p := sp_refMText) (fun _ _ _ => rfl) ?_
  intro args hv
  unfold sp_refMText at hv ⊢
  split at hv
  case h_2 => exact hv.elim
  rename_i a b
  refine ⟨by simp, Nat.le_of_ble_eq_true rfl, ?_⟩
  simp only [givesIf] at hv
  obtain ⟨ha, hb⟩ := hv
  simp (config := {dsimp := false}) only [↓a_range, ↓roundQ_normal, ↓roundQ_ret, ↓roundQ_exit, ↓a_skip, ↓a_exit, ↓a_ret, ↓a_seq, ↓a_cond, ↓a_block, ↓a_loop, ↓a_region, ↓a_draw, ↓a_region', ↓a_draw', ↓then_key, ↓with_key, ↓withY_key, ↓cond_key, ↓one_key, ↓thenQ_normal, ↓thenQ_exit, ↓thenQ_ret, ↓blockQ_normal, ↓blockQ_exit, ↓blockQ_ret, ↓aops, ↓aopsD, ↓imp_tt, ↓imp_ff, ↓imp_tf, ↓imp_ft, ↓imp_tnt, ↓imp_tnf, ↓imp_fnt, ↓imp_fnf, look, setL, resQ, argSlots, buildSt, buildArr, intsOf, eqB, keepSl, bindM, bindP, opR, okIf, ok, bad, ev, ofConst, putS, updS, S.upd, dstOk, yieldD, yieldY, strBin, isShift, cellD, retQ, resD, stripO, convR, conv2R, makeR, indexR, indexAddrR, fieldAddrR, loadR, storeR, allocR, boxR, pickR, buildR, buildSliceR, lenR, nilCheckR, extractR, funcR, ipSlice, sliceR, appendR, callR, minR, maxR, S.box, S.tok, TK.sh, known, tsize, destI, ownTok, srcI, isIn, isSl, isSt, appendI, appendL, bnd, aggBin, nilD, isPtr, fieldOf, sized, enumS, seeR, seeL, hasB, flat, flats, List.foldl_nil, List.foldl_cons, Option.getD_some, Option.getD_none, if_true, if_false, reduceIte, reduceCtorEq, Nat.reduceEqDiff, Nat.reduceAdd, Nat.reduceMul, Nat.reduceLT, Nat.reduceSub, Nat.reduceLeDiff, true_and, and_true, List.map_cons, List.map_nil, List.size_toArray, List.length_cons, List.length_nil, Option.map_some, Option.map_none, Option.bind_some, true_implies, Bool.false_eq_true, Bool.true_eq_false, false_implies, Bool.not_true, Bool.not_false, List.getElem?_cons_zero, List.getElem?_cons_succ, implies_true, and_self, Bool.and_true, Bool.true_and, BEq.rfl, and_assoc, Option.isSome_some, Option.isSome_none, List.take_succ_cons, List.take_zero, List.set_cons_zero, List.set_cons_succ, List.forall_mem_cons, List.not_mem_nil, forall_const, List.range, List.range.loop, ne_eq, not_false_eq_true, not_true_eq_false, List.cons.injEq, Prod.mk.injEq, List.append_nil, List.nil_append, List.cons_append, false_and, and_false, Bool.false_and, Bool.and_false, Nat.reduceBNe, Nat.reduceBEq, beq_self_eq_true, bne_self_eq_false, Nat.reduceBeqDiff, Bool.or_false, Bool.false_or, Bool.or_true, Bool.true_or, vs0, vs1, vs2, vs3, vs4, tys, gl0, Tryd.ntmps37, Tryd.results37]
  refine loopA [(5, some .u8, 0)] ?_
  simp (config := {dsimp := false}) only [↓a_range, ↓roundQ_normal, ↓roundQ_ret, ↓roundQ_exit, ↓a_skip, ↓a_exit, ↓a_ret, ↓a_seq, ↓a_cond, ↓a_block, ↓a_loop, ↓a_region, ↓a_draw, ↓a_region', ↓a_draw', ↓then_key, ↓with_key, ↓withY_key, ↓cond_key, ↓one_key, ↓thenQ_normal, ↓thenQ_exit, ↓thenQ_ret, ↓blockQ_normal, ↓blockQ_exit, ↓blockQ_ret, ↓aops, ↓aopsD, ↓imp_tt, ↓imp_ff, ↓imp_tf, ↓imp_ft, ↓imp_tnt, ↓imp_tnf, ↓imp_fnt, ↓imp_fnf, look, setL, resQ, argSlots, buildSt, buildArr, intsOf, eqB, keepSl, bindM, bindP, opR, okIf, ok, bad, ev, ofConst, putS, updS, S.upd, dstOk, yieldD, yieldY, strBin, isShift, cellD, retQ, resD, stripO, convR, conv2R, makeR, indexR, indexAddrR, fieldAddrR, loadR, storeR, allocR, boxR, pickR, buildR, buildSliceR, lenR, nilCheckR, extractR, funcR, ipSlice, sliceR, appendR, callR, minR, maxR, S.box, S.tok, TK.sh, known, tsize, destI, ownTok, srcI, isIn, isSl, isSt, appendI, appendL, bnd, aggBin, nilD, isPtr, fieldOf, sized, enumS, seeR, seeL, hasB, flat, flats, List.foldl_nil, List.foldl_cons, Option.getD_some, Option.getD_none, if_true, if_false, reduceIte, reduceCtorEq, Nat.reduceEqDiff, Nat.reduceAdd, Nat.reduceMul, Nat.reduceLT, Nat.reduceSub, Nat.reduceLeDiff, true_and, and_true, List.map_cons, List.map_nil, List.size_toArray, List.length_cons, List.length_nil, Option.map_some, Option.map_none, Option.bind_some, true_implies, Bool.false_eq_true, Bool.true_eq_false, false_implies, Bool.not_true, Bool.not_false, List.getElem?_cons_zero, List.getElem?_cons_succ, implies_true, and_self, Bool.and_true, Bool.true_and, BEq.rfl, and_assoc, Option.isSome_some, Option.isSome_none, List.take_succ_cons, List.take_zero, List.set_cons_zero, List.set_cons_succ, List.forall_mem_cons, List.not_mem_nil, forall_const, List.range, List.range.loop, ne_eq, not_false_eq_true, not_true_eq_false, List.cons.injEq, Prod.mk.injEq, List.append_nil, List.nil_append, List.cons_append, false_and, and_false, Bool.false_and, Bool.and_false, Nat.reduceBNe, Nat.reduceBEq, beq_self_eq_true, bne_self_eq_false, Nat.reduceBeqDiff, Bool.or_false, Bool.false_or, Bool.or_true, Bool.true_or, vs0, vs1, vs2, vs3, vs4, tys, gl0, Tryd.ntmps37, Tryd.results37, adopt]
  refine ⟨Fin 33, (fun i => [(5, .sli (.tok 20) .u8 (a.take i.1)), (6, .int .i64 (i.1 : Int)), (2, .bp 0 0), (3, .bp 4 0)]), (fun i => ⟨[(0, .arr .u8 32 a), (4, .arr .u8 32 b)], [(20, (i.1, 1))], 24⟩), (fun i => 32 - i.1), 0, (fun _ => rfl), ⟨⟨wkD_eq rfl, rfl, wkD_eq rfl, rfl, wkD_eq rfl, rfl, wkD_eq rfl, rfl, trivial⟩, ⟨rfl, Nat.le_of_ble_eq_true rfl, rfl, rfl, Nat.le_of_ble_eq_true rfl, rfl, trivial⟩, ⟨rfl, Nat.le_of_ble_eq_true rfl, trivial⟩⟩, ?_⟩
  rintro ⟨i, hi⟩
  have l1 : (a.take i).length = i := by rw [List.length_take]; omega
  simp (config := {dsimp := false}) only [↓a_range, ↓roundQ_normal, ↓roundQ_ret, ↓roundQ_exit, ↓a_skip, ↓a_exit, ↓a_ret, ↓a_seq, ↓a_cond, ↓a_block, ↓a_loop, ↓a_region, ↓a_draw, ↓a_region', ↓a_draw', ↓then_key, ↓with_key, ↓withY_key, ↓cond_key, ↓one_key, ↓thenQ_normal, ↓thenQ_exit, ↓thenQ_ret, ↓blockQ_normal, ↓blockQ_exit, ↓blockQ_ret, ↓aops, ↓aopsD, ↓imp_tt, ↓imp_ff, ↓imp_tf, ↓imp_ft, ↓imp_tnt, ↓imp_tnf, ↓imp_fnt, ↓imp_fnf, look, setL, resQ, argSlots, buildSt, buildArr, intsOf, eqB, keepSl, bindM, bindP, opR, okIf, ok, bad, ev, ofConst, putS, updS, S.upd, dstOk, yieldD, yieldY, strBin, isShift, cellD, retQ, resD, stripO, convR, conv2R, makeR, indexR, indexAddrR, fieldAddrR, loadR, storeR, allocR, boxR, pickR, buildR, buildSliceR, lenR, nilCheckR, extractR, funcR, ipSlice, sliceR, appendR, callR, minR, maxR, S.box, S.tok, TK.sh, known, tsize, destI, ownTok, srcI, isIn, isSl, isSt, appendI, appendL, bnd, aggBin, nilD, isPtr, fieldOf, sized, enumS, seeR, seeL, hasB, flat, flats, List.foldl_nil, List.foldl_cons, Option.getD_some, Option.getD_none, if_true, if_false, reduceIte, reduceCtorEq, Nat.reduceEqDiff, Nat.reduceAdd, Nat.reduceMul, Nat.reduceLT, Nat.reduceSub, Nat.reduceLeDiff, true_and, and_true, List.map_cons, List.map_nil, List.size_toArray, List.length_cons, List.length_nil, Option.map_some, Option.map_none, Option.bind_some, true_implies, Bool.false_eq_true, Bool.true_eq_false, false_implies, Bool.not_true, Bool.not_false, List.getElem?_cons_zero, List.getElem?_cons_succ, implies_true, and_self, Bool.and_true, Bool.true_and, BEq.rfl, and_assoc, Option.isSome_some, Option.isSome_none, List.take_succ_cons, List.take_zero, List.set_cons_zero, List.set_cons_succ, List.forall_mem_cons, List.not_mem_nil, forall_const, List.range, List.range.loop, ne_eq, not_false_eq_true, not_true_eq_false, List.cons.injEq, Prod.mk.injEq, List.append_nil, List.nil_append, List.cons_append, false_and, and_false, Bool.false_and, Bool.and_false, Nat.reduceBNe, Nat.reduceBEq, beq_self_eq_true, bne_self_eq_false, Nat.reduceBeqDiff, Bool.or_false, Bool.false_or, Bool.or_true, Bool.true_or, vs0, vs1, vs2, vs3, vs4, tys, gl0, Tryd.ntmps37, Tryd.results37, Int.toNat_natCast, l1]
  refine ⟨fun hh => ?_, fun hh => ?_⟩
  · have hh := of_decide_eq_true hh
    refine ⟨by omega, by omega, by omega, ⟨i + 1, by omega⟩, ⟨⟨wkD_eq ?_, rfl, wkD_eq ?_, rfl, wkD_eq rfl, rfl, wkD_eq rfl, rfl, trivial⟩, ⟨rfl, Nat.le_of_ble_eq_true rfl, rfl, rfl, Nat.le_of_ble_eq_true rfl, rfl, trivial⟩, ⟨rfl, Nat.le_of_ble_eq_true rfl, trivial⟩⟩, by (try simp only); omega⟩
    · exact congrArg (fun x => some (D.sli (.tok 20) .u8 x)) (take_snoc a i (by omega) 0)
    · exact some_i64 (by (try simp only); omega)
  have hh := of_decide_eq_false hh
  obtain rfl : i = 32 := by omega
  rw [List.take_of_length_le (by omega)]
  refine loopI (Fin 33) (fun i => [(5, .sli (.tok 20) .u8 (a ++ b.take i.1)), (7, .int .i64 (i.1 : Int)), (2, .bp 0 0), (3, .bp 4 0)]) (fun i => ⟨[(0, .arr .u8 32 a), (4, .arr .u8 32 b)], [(20, (32 + i.1, 1))], 36⟩) (fun i => 32 - i.1) 0 (fun _ => rfl) ?_ ?_
  · refine ⟨⟨wkD_eq ?_, rfl, wkD_eq rfl, rfl, wkD_eq rfl, rfl, wkD_eq rfl, rfl, trivial⟩, ⟨rfl, Nat.le_of_ble_eq_true rfl, rfl, rfl, Nat.le_of_ble_eq_true rfl, rfl, trivial⟩, ⟨rfl, Nat.le_of_ble_eq_true rfl, trivial⟩⟩
    rw [show ((0 : Fin 33) : Nat) = 0 from rfl, List.take_zero, List.append_nil]
    rfl
  rintro ⟨i, hi⟩
  have l2 : (b.take i).length = i := by rw [List.length_take]; omega
  simp (config := {dsimp := false}) only [↓a_range, ↓roundQ_normal, ↓roundQ_ret, ↓roundQ_exit, ↓a_skip, ↓a_exit, ↓a_ret, ↓a_seq, ↓a_cond, ↓a_block, ↓a_loop, ↓a_region, ↓a_draw, ↓a_region', ↓a_draw', ↓then_key, ↓with_key, ↓withY_key, ↓cond_key, ↓one_key, ↓thenQ_normal, ↓thenQ_exit, ↓thenQ_ret, ↓blockQ_normal, ↓blockQ_exit, ↓blockQ_ret, ↓aops, ↓aopsD, ↓imp_tt, ↓imp_ff, ↓imp_tf, ↓imp_ft, ↓imp_tnt, ↓imp_tnf, ↓imp_fnt, ↓imp_fnf, look, setL, resQ, argSlots, buildSt, buildArr, intsOf, eqB, keepSl, bindM, bindP, opR, okIf, ok, bad, ev, ofConst, putS, updS, S.upd, dstOk, yieldD, yieldY, strBin, isShift, cellD, retQ, resD, stripO, convR, conv2R, makeR, indexR, indexAddrR, fieldAddrR, loadR, storeR, allocR, boxR, pickR, buildR, buildSliceR, lenR, nilCheckR, extractR, funcR, ipSlice, sliceR, appendR, callR, minR, maxR, S.box, S.tok, TK.sh, known, tsize, destI, ownTok, srcI, isIn, isSl, isSt, appendI, appendL, bnd, aggBin, nilD, isPtr, fieldOf, sized, enumS, seeR, seeL, hasB, flat, flats, List.foldl_nil, List.foldl_cons, Option.getD_some, Option.getD_none, if_true, if_false, reduceIte, reduceCtorEq, Nat.reduceEqDiff, Nat.reduceAdd, Nat.reduceMul, Nat.reduceLT, Nat.reduceSub, Nat.reduceLeDiff, true_and, and_true, List.map_cons, List.map_nil, List.size_toArray, List.length_cons, List.length_nil, Option.map_some, Option.map_none, Option.bind_some, true_implies, Bool.false_eq_true, Bool.true_eq_false, false_implies, Bool.not_true, Bool.not_false, List.getElem?_cons_zero, List.getElem?_cons_succ, implies_true, and_self, Bool.and_true, Bool.true_and, BEq.rfl, and_assoc, Option.isSome_some, Option.isSome_none, List.take_succ_cons, List.take_zero, List.set_cons_zero, List.set_cons_succ, List.forall_mem_cons, List.not_mem_nil, forall_const, List.range, List.range.loop, ne_eq, not_false_eq_true, not_true_eq_false, List.cons.injEq, Prod.mk.injEq, List.append_nil, List.nil_append, List.cons_append, false_and, and_false, Bool.false_and, Bool.and_false, Nat.reduceBNe, Nat.reduceBEq, beq_self_eq_true, bne_self_eq_false, Nat.reduceBeqDiff, Bool.or_false, Bool.false_or, Bool.or_true, Bool.true_or, vs0, vs1, vs2, vs3, vs4, tys, gl0, Tryd.ntmps37, Tryd.results37, Int.toNat_natCast, List.length_append, l2, ha]
  refine ⟨fun hh => ?_, fun hh => ?_⟩
  · have hh := of_decide_eq_true hh
    refine ⟨by omega, by omega, by omega, ⟨i + 1, by omega⟩, ⟨⟨wkD_eq ?_, rfl, wkD_eq ?_, rfl, wkD_eq rfl, rfl, wkD_eq rfl, rfl, trivial⟩, ⟨rfl, Nat.le_of_ble_eq_true rfl, rfl, rfl, Nat.le_of_ble_eq_true rfl, rfl, trivial⟩, ⟨rfl, Nat.le_of_ble_eq_true rfl, trivial⟩⟩, by (try simp only); omega⟩
    · exact congrArg (fun x => some (D.sli (.tok 20) .u8 x)) ((List.append_assoc ..).trans (congrArg (a ++ ·) (take_snoc b i (by omega) 0)))
    · exact some_i64 (by (try simp only); omega)
  · have hh := of_decide_eq_false hh
    obtain rfl : i = 32 := by omega
    rw [List.take_of_length_le (by omega)]
    rfl
theorem c_hashes : Contract E 17 := by
  refine contract_see hE hgl (show E.P.funcs[17]? = some Tryd.f17 from Tryd.func17) rfl (p := sp_hashes) (fun _ _ _ => rfl) ?_
  intro args hv
  unfold sp_hashes at hv ⊢
  split at hv
  case h_2 => exact hv.elim
  rename_i z es y fs
  refine ⟨by simp, Nat.le_of_ble_eq_true rfl, ?_⟩
  simp only [givesIf] at hv
  obtain ⟨hz, hy, ⟨l, rfl, hl⟩, ⟨m, rfl, hm⟩, h3, h4⟩ := hv
  simp only [arrs_length] at h3 h4
  simp (config := {dsimp := false}) only [↓a_range, ↓roundQ_normal, ↓roundQ_ret, ↓roundQ_exit, ↓a_skip, ↓a_exit, ↓a_ret, ↓a_seq, ↓a_cond, ↓a_block, ↓a_loop, ↓a_region, ↓a_draw, ↓a_region', ↓a_draw', ↓then_key, ↓with_key, ↓withY_key, ↓cond_key, ↓one_key, ↓thenQ_normal, ↓thenQ_exit, ↓thenQ_ret, ↓blockQ_normal, ↓blockQ_exit, ↓blockQ_ret, ↓aops, ↓aopsD, ↓imp_tt, ↓imp_ff, ↓imp_tf, ↓imp_ft, ↓imp_tnt, ↓imp_tnf, ↓imp_fnt, ↓imp_fnf, look, setL, resQ, argSlots, buildSt, buildArr, intsOf, eqB, keepSl, bindM, bindP, opR, okIf, ok, bad, ev, ofConst, putS, updS, S.upd, dstOk, yieldD, yieldY, strBin, isShift, cellD, retQ, resD, stripO, convR, conv2R, makeR, indexR, indexAddrR, fieldAddrR, loadR, storeR, allocR, boxR, pickR, buildR, buildSliceR, lenR, nilCheckR, extractR, funcR, ipSlice, sliceR, appendR, callR, minR, maxR, S.box, S.tok, TK.sh, known, tsize, destI, ownTok, srcI, isIn, isSl, isSt, appendI, appendL, bnd, aggBin, nilD, isPtr, fieldOf, sized, enumS, seeR, seeL, hasB, flat, flats, List.foldl_nil, List.foldl_cons, Option.getD_some, Option.getD_none, if_true, if_false, reduceIte, reduceCtorEq, Nat.reduceEqDiff, Nat.reduceAdd, Nat.reduceMul, Nat.reduceLT, Nat.reduceSub, Nat.reduceLeDiff, true_and, and_true, List.map_cons, List.map_nil, List.size_toArray, List.length_cons, List.length_nil, Option.map_some, Option.map_none, Option.bind_some, true_implies, Bool.false_eq_true, Bool.true_eq_false, false_implies, Bool.not_true, Bool.not_false, List.getElem?_cons_zero, List.getElem?_cons_succ, implies_true, and_self, Bool.and_true, Bool.true_and, BEq.rfl, and_assoc, Option.isSome_some, Option.isSome_none, List.take_succ_cons, List.take_zero, List.set_cons_zero, List.set_cons_succ, List.forall_mem_cons, List.not_mem_nil, forall_const, List.range, List.range.loop, ne_eq, not_false_eq_true, not_true_eq_false, List.cons.injEq, Prod.mk.injEq, List.append_nil, List.nil_append, List.cons_append, false_and, and_false, Bool.false_and, Bool.and_false, Nat.reduceBNe, Nat.reduceBEq, beq_self_eq_true, bne_self_eq_false, Nat.reduceBeqDiff, Bool.or_false, Bool.false_or, Bool.or_true, Bool.true_or, vs0, vs1, vs2, vs3, vs4, tys, gl0, Tryd.ntmps17, Tryd.results17, arrs_length, givesIf, hs_arrs]
  refine ⟨fun h => ?_, fun h => ?_⟩
  · have : l ≠ m := fun e => by subst e; simp at h
    simp [this]
  have h : l.length = m.length := by simp at h; omega
  refine loopI {i : Nat // i ≤ l.length ∧ ∀ j, j < i → l.getD j [] = m.getD j []} (fun i => [(0, .sl .no z (arrs l)), (1, .sl .no y (arrs m)), (5, .int .i64 (i.1 : Nat))]) (fun _ => ⟨[], [], 28⟩) (fun i => l.length - i.1) ⟨0, by simp⟩ (fun _ => rfl) ?_ ?_
  · exact ⟨⟨wkD_eq rfl, rfl, wkD_eq rfl, rfl, wkD_eq rfl, rfl, trivial⟩, trivial, trivial⟩
  rintro ⟨i, hi, hj⟩
  simp (config := {dsimp := false}) only [↓a_range, ↓roundQ_normal, ↓roundQ_ret, ↓roundQ_exit, ↓a_skip, ↓a_exit, ↓a_ret, ↓a_seq, ↓a_cond, ↓a_block, ↓a_loop, ↓a_region, ↓a_draw, ↓a_region', ↓a_draw', ↓then_key, ↓with_key, ↓withY_key, ↓cond_key, ↓one_key, ↓thenQ_normal, ↓thenQ_exit, ↓thenQ_ret, ↓blockQ_normal, ↓blockQ_exit, ↓blockQ_ret, ↓aops, ↓aopsD, ↓imp_tt, ↓imp_ff, ↓imp_tf, ↓imp_ft, ↓imp_tnt, ↓imp_tnf, ↓imp_fnt, ↓imp_fnf, look, setL, resQ, argSlots, buildSt, buildArr, intsOf, eqB, keepSl, bindM, bindP, opR, okIf, ok, bad, ev, ofConst, putS, updS, S.upd, dstOk, yieldD, yieldY, strBin, isShift, cellD, retQ, resD, stripO, convR, conv2R, makeR, indexR, indexAddrR, fieldAddrR, loadR, storeR, allocR, boxR, pickR, buildR, buildSliceR, lenR, nilCheckR, extractR, funcR, ipSlice, sliceR, appendR, callR, minR, maxR, S.box, S.tok, TK.sh, known, tsize, destI, ownTok, srcI, isIn, isSl, isSt, appendI, appendL, bnd, aggBin, nilD, isPtr, fieldOf, sized, enumS, seeR, seeL, hasB, flat, flats, List.foldl_nil, List.foldl_cons, Option.getD_some, Option.getD_none, if_true, if_false, reduceIte, reduceCtorEq, Nat.reduceEqDiff, Nat.reduceAdd, Nat.reduceMul, Nat.reduceLT, Nat.reduceSub, Nat.reduceLeDiff, true_and, and_true, List.map_cons, List.map_nil, List.size_toArray, List.length_cons, List.length_nil, Option.map_some, Option.map_none, Option.bind_some, true_implies, Bool.false_eq_true, Bool.true_eq_false, false_implies, Bool.not_true, Bool.not_false, List.getElem?_cons_zero, List.getElem?_cons_succ, implies_true, and_self, Bool.and_true, Bool.true_and, BEq.rfl, and_assoc, Option.isSome_some, Option.isSome_none, List.take_succ_cons, List.take_zero, List.set_cons_zero, List.set_cons_succ, List.forall_mem_cons, List.not_mem_nil, forall_const, List.range, List.range.loop, ne_eq, not_false_eq_true, not_true_eq_false, List.cons.injEq, Prod.mk.injEq, List.append_nil, List.nil_append, List.cons_append, false_and, and_false, Bool.false_and, Bool.and_false, Nat.reduceBNe, Nat.reduceBEq, beq_self_eq_true, bne_self_eq_false, Nat.reduceBeqDiff, Bool.or_false, Bool.false_or, Bool.or_true, Bool.true_or, vs0, vs1, vs2, vs3, vs4, tys, gl0, Tryd.ntmps17, Tryd.results17, arrs_length]
  refine ⟨fun hh => ?_, fun hh => ?_⟩
  · have hh := of_decide_eq_true hh
    obtain rfl : z = 32 := hz.resolve_left (fun e => by have := arrs_eq_nil e; omega)
    obtain rfl : y = 32 := hy.resolve_left (fun e => by have := arrs_eq_nil e; omega)
    have g1 := arrs_get l i (by omega)
    have g2 := arrs_get m i (by omega)
    refine drawI [0, 1, 5] (by kernel_rfl) ?_
    simp (config := {dsimp := false}) only [↓a_range, ↓roundQ_normal, ↓roundQ_ret, ↓roundQ_exit, ↓a_skip, ↓a_exit, ↓a_ret, ↓a_seq, ↓a_cond, ↓a_block, ↓a_loop, ↓a_region, ↓a_draw, ↓a_region', ↓a_draw', ↓then_key, ↓with_key, ↓withY_key, ↓cond_key, ↓one_key, ↓thenQ_normal, ↓thenQ_exit, ↓thenQ_ret, ↓blockQ_normal, ↓blockQ_exit, ↓blockQ_ret, ↓aops, ↓aopsD, ↓imp_tt, ↓imp_ff, ↓imp_tf, ↓imp_ft, ↓imp_tnt, ↓imp_tnf, ↓imp_fnt, ↓imp_fnf, look, setL, resQ, argSlots, buildSt, buildArr, intsOf, eqB, keepSl, bindM, bindP, opR, okIf, ok, bad, ev, ofConst, putS, updS, S.upd, dstOk, yieldD, yieldY, strBin, isShift, cellD, retQ, resD, stripO, convR, conv2R, makeR, indexR, indexAddrR, fieldAddrR, loadR, storeR, allocR, boxR, pickR, buildR, buildSliceR, lenR, nilCheckR, extractR, funcR, ipSlice, sliceR, appendR, callR, minR, maxR, S.box, S.tok, TK.sh, known, tsize, destI, ownTok, srcI, isIn, isSl, isSt, appendI, appendL, bnd, aggBin, nilD, isPtr, fieldOf, sized, enumS, seeR, seeL, hasB, flat, flats, List.foldl_nil, List.foldl_cons, Option.getD_some, Option.getD_none, if_true, if_false, reduceIte, reduceCtorEq, Nat.reduceEqDiff, Nat.reduceAdd, Nat.reduceMul, Nat.reduceLT, Nat.reduceSub, Nat.reduceLeDiff, true_and, and_true, List.map_cons, List.map_nil, List.size_toArray, List.length_cons, List.length_nil, Option.map_some, Option.map_none, Option.bind_some, true_implies, Bool.false_eq_true, Bool.true_eq_false, false_implies, Bool.not_true, Bool.not_false, List.getElem?_cons_zero, List.getElem?_cons_succ, implies_true, and_self, Bool.and_true, Bool.true_and, BEq.rfl, and_assoc, Option.isSome_some, Option.isSome_none, List.take_succ_cons, List.take_zero, List.set_cons_zero, List.set_cons_succ, List.forall_mem_cons, List.not_mem_nil, forall_const, List.range, List.range.loop, ne_eq, not_false_eq_true, not_true_eq_false, List.cons.injEq, Prod.mk.injEq, List.append_nil, List.nil_append, List.cons_append, false_and, and_false, Bool.false_and, Bool.and_false, Nat.reduceBNe, Nat.reduceBEq, beq_self_eq_true, bne_self_eq_false, Nat.reduceBeqDiff, Bool.or_false, Bool.false_or, Bool.or_true, Bool.true_or, vs0, vs1, vs2, vs3, vs4, tys, gl0, Tryd.ntmps17, Tryd.results17, arrs_length, Int.toNat_natCast, g1, g2]
    refine ⟨by omega, by omega, by omega, by omega, fun h5 => ?_, fun h5 => ?_⟩
    · have h5 : ¬ l.getD i [] = m.getD i [] := by simpa using h5
      have : l ≠ m := fun e => by subst e; exact h5 rfl
      rw [hs_arrs, hs_arrs]
      simp [this]
      all_goals rfl
    · have h5 : l.getD i [] = m.getD i [] := by simpa using h5
      refine ⟨⟨i + 1, by omega, fun j h6 => ?_⟩, ⟨⟨wkD_eq rfl, rfl, wkD_eq rfl, rfl, wkD_eq ?_, rfl, trivial⟩, trivial, trivial⟩, by (try simp only); omega⟩
      · rcases Nat.lt_or_ge j i with h7 | h7
        · exact hj j h7
        · obtain rfl : j = i := by omega
          exact h5
      · exact some_i64 (by (try simp only); omega)
  · have hh := of_decide_eq_false hh
    obtain rfl : i = l.length := by omega
    have : l = m := by
      apply List.ext_getElem h
      intro j h6 h7
      have := hj j h6
      simpa [List.getD, h6, h7] using this
    subst this
    simp (config := {dsimp := false}) only [↓a_range, ↓roundQ_normal, ↓roundQ_ret, ↓roundQ_exit, ↓a_skip, ↓a_exit, ↓a_ret, ↓a_seq, ↓a_cond, ↓a_block, ↓a_loop, ↓a_region, ↓a_draw, ↓a_region', ↓a_draw', ↓then_key, ↓with_key, ↓withY_key, ↓cond_key, ↓one_key, ↓thenQ_normal, ↓thenQ_exit, ↓thenQ_ret, ↓blockQ_normal, ↓blockQ_exit, ↓blockQ_ret, ↓aops, ↓aopsD, ↓imp_tt, ↓imp_ff, ↓imp_tf, ↓imp_ft, ↓imp_tnt, ↓imp_tnf, ↓imp_fnt, ↓imp_fnf, look, setL, resQ, argSlots, buildSt, buildArr, intsOf, eqB, keepSl, bindM, bindP, opR, okIf, ok, bad, ev, ofConst, putS, updS, S.upd, dstOk, yieldD, yieldY, strBin, isShift, cellD, retQ, resD, stripO, convR, conv2R, makeR, indexR, indexAddrR, fieldAddrR, loadR, storeR, allocR, boxR, pickR, buildR, buildSliceR, lenR, nilCheckR, extractR, funcR, ipSlice, sliceR, appendR, callR, minR, maxR, S.box, S.tok, TK.sh, known, tsize, destI, ownTok, srcI, isIn, isSl, isSt, appendI, appendL, bnd, aggBin, nilD, isPtr, fieldOf, sized, enumS, seeR, seeL, hasB, flat, flats, List.foldl_nil, List.foldl_cons, Option.getD_some, Option.getD_none, if_true, if_false, reduceIte, reduceCtorEq, Nat.reduceEqDiff, Nat.reduceAdd, Nat.reduceMul, Nat.reduceLT, Nat.reduceSub, Nat.reduceLeDiff, true_and, and_true, List.map_cons, List.map_nil, List.size_toArray, List.length_cons, List.length_nil, Option.map_some, Option.map_none, Option.bind_some, true_implies, Bool.false_eq_true, Bool.true_eq_false, false_implies, Bool.not_true, Bool.not_false, List.getElem?_cons_zero, List.getElem?_cons_succ, implies_true, and_self, Bool.and_true, Bool.true_and, BEq.rfl, and_assoc, Option.isSome_some, Option.isSome_none, List.take_succ_cons, List.take_zero, List.set_cons_zero, List.set_cons_succ, List.forall_mem_cons, List.not_mem_nil, forall_const, List.range, List.range.loop, ne_eq, not_false_eq_true, not_true_eq_false, List.cons.injEq, Prod.mk.injEq, List.append_nil, List.nil_append, List.cons_append, false_and, and_false, Bool.false_and, Bool.and_false, Nat.reduceBNe, Nat.reduceBEq, beq_self_eq_true, bne_self_eq_false, Nat.reduceBeqDiff, Bool.or_false, Bool.false_or, Bool.or_true, Bool.true_or, vs0, vs1, vs2, vs3, vs4, tys, gl0, Tryd.ntmps17, Tryd.results17, hs_arrs]
    simp
    all_goals rfl
theorem c_refAbove : Contract E 35 := by
  refine contract_see hE hgl (show E.P.funcs[35]? = some Tryd.f35 from Tryd.func35) rfl (p := sp_refAbove) (fun _ _ _ => rfl) ?_
  intro args hv
  unfold sp_refAbove at hv ⊢
  split at hv
  case h_2 => exact hv.elim
  rename_i es
  refine ⟨by simp, Nat.le_of_ble_eq_true rfl, ?_⟩
  simp only [givesIf] at hv
  obtain ⟨⟨l, rfl, hl⟩, hlen, hby⟩ := hv
  rw [hs_arrs] at hby
  rw [arrs_length] at hlen
  simp (config := {dsimp := false}) only [↓a_range, ↓roundQ_normal, ↓roundQ_ret, ↓roundQ_exit, ↓a_skip, ↓a_exit, ↓a_ret, ↓a_seq, ↓a_cond, ↓a_block, ↓a_loop, ↓a_region, ↓a_draw, ↓a_region', ↓a_draw', ↓then_key, ↓with_key, ↓withY_key, ↓cond_key, ↓one_key, ↓thenQ_normal, ↓thenQ_exit, ↓thenQ_ret, ↓blockQ_normal, ↓blockQ_exit, ↓blockQ_ret, ↓aops, ↓aopsD, ↓imp_tt, ↓imp_ff, ↓imp_tf, ↓imp_ft, ↓imp_tnt, ↓imp_tnf, ↓imp_fnt, ↓imp_fnf, look, setL, resQ, argSlots, buildSt, buildArr, intsOf, eqB, keepSl, bindM, bindP, opR, okIf, ok, bad, ev, ofConst, putS, updS, S.upd, dstOk, yieldD, yieldY, strBin, isShift, cellD, retQ, resD, stripO, convR, conv2R, makeR, indexR, indexAddrR, fieldAddrR, loadR, storeR, allocR, boxR, pickR, buildR, buildSliceR, lenR, nilCheckR, extractR, funcR, ipSlice, sliceR, appendR, callR, minR, maxR, S.box, S.tok, TK.sh, known, tsize, destI, ownTok, srcI, isIn, isSl, isSt, appendI, appendL, bnd, aggBin, nilD, isPtr, fieldOf, sized, enumS, seeR, seeL, hasB, flat, flats, List.foldl_nil, List.foldl_cons, Option.getD_some, Option.getD_none, if_true, if_false, reduceIte, reduceCtorEq, Nat.reduceEqDiff, Nat.reduceAdd, Nat.reduceMul, Nat.reduceLT, Nat.reduceSub, Nat.reduceLeDiff, true_and, and_true, List.map_cons, List.map_nil, List.size_toArray, List.length_cons, List.length_nil, Option.map_some, Option.map_none, Option.bind_some, true_implies, Bool.false_eq_true, Bool.true_eq_false, false_implies, Bool.not_true, Bool.not_false, List.getElem?_cons_zero, List.getElem?_cons_succ, implies_true, and_self, Bool.and_true, Bool.true_and, BEq.rfl, and_assoc, Option.isSome_some, Option.isSome_none, List.take_succ_cons, List.take_zero, List.set_cons_zero, List.set_cons_succ, List.forall_mem_cons, List.not_mem_nil, forall_const, List.range, List.range.loop, ne_eq, not_false_eq_true, not_true_eq_false, List.cons.injEq, Prod.mk.injEq, List.append_nil, List.nil_append, List.cons_append, false_and, and_false, Bool.false_and, Bool.and_false, Nat.reduceBNe, Nat.reduceBEq, beq_self_eq_true, bne_self_eq_false, Nat.reduceBeqDiff, Bool.or_false, Bool.false_or, Bool.or_true, Bool.true_or, vs0, vs1, vs2, vs3, vs4, tys, gl0, Tryd.ntmps35, Tryd.results35, arrs_length]
  refine loopA [(3, none, 32)] ?_
  simp (config := {dsimp := false}) only [↓a_range, ↓roundQ_normal, ↓roundQ_ret, ↓roundQ_exit, ↓a_skip, ↓a_exit, ↓a_ret, ↓a_seq, ↓a_cond, ↓a_block, ↓a_loop, ↓a_region, ↓a_draw, ↓a_region', ↓a_draw', ↓then_key, ↓with_key, ↓withY_key, ↓cond_key, ↓one_key, ↓thenQ_normal, ↓thenQ_exit, ↓thenQ_ret, ↓blockQ_normal, ↓blockQ_exit, ↓blockQ_ret, ↓aops, ↓aopsD, ↓imp_tt, ↓imp_ff, ↓imp_tf, ↓imp_ft, ↓imp_tnt, ↓imp_tnf, ↓imp_fnt, ↓imp_fnf, look, setL, resQ, argSlots, buildSt, buildArr, intsOf, eqB, keepSl, bindM, bindP, opR, okIf, ok, bad, ev, ofConst, putS, updS, S.upd, dstOk, yieldD, yieldY, strBin, isShift, cellD, retQ, resD, stripO, convR, conv2R, makeR, indexR, indexAddrR, fieldAddrR, loadR, storeR, allocR, boxR, pickR, buildR, buildSliceR, lenR, nilCheckR, extractR, funcR, ipSlice, sliceR, appendR, callR, minR, maxR, S.box, S.tok, TK.sh, known, tsize, destI, ownTok, srcI, isIn, isSl, isSt, appendI, appendL, bnd, aggBin, nilD, isPtr, fieldOf, sized, enumS, seeR, seeL, hasB, flat, flats, List.foldl_nil, List.foldl_cons, Option.getD_some, Option.getD_none, if_true, if_false, reduceIte, reduceCtorEq, Nat.reduceEqDiff, Nat.reduceAdd, Nat.reduceMul, Nat.reduceLT, Nat.reduceSub, Nat.reduceLeDiff, true_and, and_true, List.map_cons, List.map_nil, List.size_toArray, List.length_cons, List.length_nil, Option.map_some, Option.map_none, Option.bind_some, true_implies, Bool.false_eq_true, Bool.true_eq_false, false_implies, Bool.not_true, Bool.not_false, List.getElem?_cons_zero, List.getElem?_cons_succ, implies_true, and_self, Bool.and_true, Bool.true_and, BEq.rfl, and_assoc, Option.isSome_some, Option.isSome_none, List.take_succ_cons, List.take_zero, List.set_cons_zero, List.set_cons_succ, List.forall_mem_cons, List.not_mem_nil, forall_const, List.range, List.range.loop, ne_eq, not_false_eq_true, not_true_eq_false, List.cons.injEq, Prod.mk.injEq, List.append_nil, List.nil_append, List.cons_append, false_and, and_false, Bool.false_and, Bool.and_false, Nat.reduceBNe, Nat.reduceBEq, beq_self_eq_true, bne_self_eq_false, Nat.reduceBeqDiff, Bool.or_false, Bool.false_or, Bool.or_true, Bool.true_or, vs0, vs1, vs2, vs3, vs4, tys, gl0, Tryd.ntmps35, Tryd.results35, adopt]
  refine ⟨Fin ((l.length + 1) / 2 + 1), (fun i => [(3, .sl (.tok 12) 32 (arrs ((aboveP l).take i.1))), (4, .int .i64 (2 * i.1 : Int)), (0, .sl .no 32 (arrs l))]), (fun i => ⟨[], [(12, (i.1, 32))], 16⟩), (fun i => l.length + 1 - 2 * i.1), 0, (fun _ => rfl), ⟨⟨wkD_eq rfl, rfl, wkD_eq rfl, rfl, wkD_eq rfl, rfl, trivial⟩, trivial, ⟨rfl, Nat.le_of_ble_eq_true rfl, trivial⟩⟩, ?_⟩
  rintro ⟨i, hi⟩
  simp (config := {dsimp := false}) only [↓a_range, ↓roundQ_normal, ↓roundQ_ret, ↓roundQ_exit, ↓a_skip, ↓a_exit, ↓a_ret, ↓a_seq, ↓a_cond, ↓a_block, ↓a_loop, ↓a_region, ↓a_draw, ↓a_region', ↓a_draw', ↓then_key, ↓with_key, ↓withY_key, ↓cond_key, ↓one_key, ↓thenQ_normal, ↓thenQ_exit, ↓thenQ_ret, ↓blockQ_normal, ↓blockQ_exit, ↓blockQ_ret, ↓aops, ↓aopsD, ↓imp_tt, ↓imp_ff, ↓imp_tf, ↓imp_ft, ↓imp_tnt, ↓imp_tnf, ↓imp_fnt, ↓imp_fnf, look, setL, resQ, argSlots, buildSt, buildArr, intsOf, eqB, keepSl, bindM, bindP, opR, okIf, ok, bad, ev, ofConst, putS, updS, S.upd, dstOk, yieldD, yieldY, strBin, isShift, cellD, retQ, resD, stripO, convR, conv2R, makeR, indexR, indexAddrR, fieldAddrR, loadR, storeR, allocR, boxR, pickR, buildR, buildSliceR, lenR, nilCheckR, extractR, funcR, ipSlice, sliceR, appendR, callR, minR, maxR, S.box, S.tok, TK.sh, known, tsize, destI, ownTok, srcI, isIn, isSl, isSt, appendI, appendL, bnd, aggBin, nilD, isPtr, fieldOf, sized, enumS, seeR, seeL, hasB, flat, flats, List.foldl_nil, List.foldl_cons, Option.getD_some, Option.getD_none, if_true, if_false, reduceIte, reduceCtorEq, Nat.reduceEqDiff, Nat.reduceAdd, Nat.reduceMul, Nat.reduceLT, Nat.reduceSub, Nat.reduceLeDiff, true_and, and_true, List.map_cons, List.map_nil, List.size_toArray, List.length_cons, List.length_nil, Option.map_some, Option.map_none, Option.bind_some, true_implies, Bool.false_eq_true, Bool.true_eq_false, false_implies, Bool.not_true, Bool.not_false, List.getElem?_cons_zero, List.getElem?_cons_succ, implies_true, and_self, Bool.and_true, Bool.true_and, BEq.rfl, and_assoc, Option.isSome_some, Option.isSome_none, List.take_succ_cons, List.take_zero, List.set_cons_zero, List.set_cons_succ, List.forall_mem_cons, List.not_mem_nil, forall_const, List.range, List.range.loop, ne_eq, not_false_eq_true, not_true_eq_false, List.cons.injEq, Prod.mk.injEq, List.append_nil, List.nil_append, List.cons_append, false_and, and_false, Bool.false_and, Bool.and_false, Nat.reduceBNe, Nat.reduceBEq, beq_self_eq_true, bne_self_eq_false, Nat.reduceBeqDiff, Bool.or_false, Bool.false_or, Bool.or_true, Bool.true_or, vs0, vs1, vs2, vs3, vs4, tys, gl0, Tryd.ntmps35, Tryd.results35, arrs_length]
  refine ⟨fun hh => ?_, fun hh => ?_⟩
  · have hh := of_decide_eq_true hh
    have hil : 2 * i < l.length := by omega
    have hia : i < (aboveP l).length := by rw [above_len]; omega
    have g := arrs_get l (2 * i) hil
    have i2 : (2 * (i : Int)) = ((2 * i : Nat) : Int) := by omega
    have lt : ((aboveP l).take i).length = i := by rw [List.length_take]; omega
    obtain ⟨p1, p2⟩ := partner_pair l i hil
    obtain ⟨⟨q1, q2⟩, q3, q4⟩ := pair_ok hl hby (p := pairAt l i) (List.mem_map_of_mem (by rw [List.mem_range]; omega))
    have tw := twice_eq ((pairAt l i).1 ++ (pairAt l i).2.1) (bytes_append q3 q4) (by simp [q1, q2])
    rw [p2] at q1 q3 tw
    rw [i2]
    refine drawI [3, 0, 4] (by kernel_rfl) ?_
    simp (config := {dsimp := false}) only [↓a_range, ↓roundQ_normal, ↓roundQ_ret, ↓roundQ_exit, ↓a_skip, ↓a_exit, ↓a_ret, ↓a_seq, ↓a_cond, ↓a_block, ↓a_loop, ↓a_region, ↓a_draw, ↓a_region', ↓a_draw', ↓then_key, ↓with_key, ↓withY_key, ↓cond_key, ↓one_key, ↓thenQ_normal, ↓thenQ_exit, ↓thenQ_ret, ↓blockQ_normal, ↓blockQ_exit, ↓blockQ_ret, ↓aops, ↓aopsD, ↓imp_tt, ↓imp_ff, ↓imp_tf, ↓imp_ft, ↓imp_tnt, ↓imp_tnf, ↓imp_fnt, ↓imp_fnf, look, setL, resQ, argSlots, buildSt, buildArr, intsOf, eqB, keepSl, bindM, bindP, opR, okIf, ok, bad, ev, ofConst, putS, updS, S.upd, dstOk, yieldD, yieldY, strBin, isShift, cellD, retQ, resD, stripO, convR, conv2R, makeR, indexR, indexAddrR, fieldAddrR, loadR, storeR, allocR, boxR, pickR, buildR, buildSliceR, lenR, nilCheckR, extractR, funcR, ipSlice, sliceR, appendR, callR, minR, maxR, S.box, S.tok, TK.sh, known, tsize, destI, ownTok, srcI, isIn, isSl, isSt, appendI, appendL, bnd, aggBin, nilD, isPtr, fieldOf, sized, enumS, seeR, seeL, hasB, flat, flats, List.foldl_nil, List.foldl_cons, Option.getD_some, Option.getD_none, if_true, if_false, reduceIte, reduceCtorEq, Nat.reduceEqDiff, Nat.reduceAdd, Nat.reduceMul, Nat.reduceLT, Nat.reduceSub, Nat.reduceLeDiff, true_and, and_true, List.map_cons, List.map_nil, List.size_toArray, List.length_cons, List.length_nil, Option.map_some, Option.map_none, Option.bind_some, true_implies, Bool.false_eq_true, Bool.true_eq_false, false_implies, Bool.not_true, Bool.not_false, List.getElem?_cons_zero, List.getElem?_cons_succ, implies_true, and_self, Bool.and_true, Bool.true_and, BEq.rfl, and_assoc, Option.isSome_some, Option.isSome_none, List.take_succ_cons, List.take_zero, List.set_cons_zero, List.set_cons_succ, List.forall_mem_cons, List.not_mem_nil, forall_const, List.range, List.range.loop, ne_eq, not_false_eq_true, not_true_eq_false, List.cons.injEq, Prod.mk.injEq, List.append_nil, List.nil_append, List.cons_append, false_and, and_false, Bool.false_and, Bool.and_false, Nat.reduceBNe, Nat.reduceBEq, beq_self_eq_true, bne_self_eq_false, Nat.reduceBeqDiff, Bool.or_false, Bool.false_or, Bool.or_true, Bool.true_or, vs0, vs1, vs2, vs3, vs4, tys, gl0, Tryd.ntmps35, Tryd.results35, PF.toR, gives, givesIf, arrs_length, strips_arrs, hs_arrs, Int.toNat_natCast, g, p1, q1, q2, tw, lt, bare_arr, spec_refPartner, sp_refPartner, c_refPartner, b_refPartner, spec_refMText, sp_refMText, c_refMText, b_refMText, spec_refTwice, sp_refTwice, c_refTwice, b_refTwice]
    have hsn : arrs ((aboveP l).take i) ++ [D.arr .u8 32 (sumP (sumP (l.getD (2 * i) [] ++ (pairAt l i).2.1)))] = arrs ((aboveP l).take (i + 1)) := by
      rw [← take_snoc (aboveP l) i hia [], ← arrs_append, above_get l i (by omega)]
      rfl
    refine ⟨by omega, by omega, ⟨l, rfl, hl⟩, by omega, by omega, by omega, by rw [List.length_append, q1, q2]; decide, by omega, .inr trivial, .inr trivial, by kernel_rfl, ⟨i + 1, by omega⟩, ⟨⟨wkD_eq ?_, rfl, wkD_eq ?_, rfl, wkD_eq rfl, rfl, trivial⟩, trivial, ⟨rfl, Nat.le_of_ble_eq_true rfl, trivial⟩⟩, by (try simp only); omega⟩
    · exact congrArg (fun x => some (D.sl (.tok 12) 32 x)) hsn
    · rw [← i2]
      exact congrArg (fun n => some (D.int .i64 n)) (w2i (by omega))
  · have hh := of_decide_eq_false hh
    have : i = (l.length + 1) / 2 := by omega
    rw [List.take_of_length_le (by rw [above_len]; omega), strips_arrs, hs_arrs]
    rfl
theorem c_refSame : Contract E 14 := by
  refine contract_see hE hgl (show E.P.funcs[14]? = some Tryd.f14 from Tryd.func14) rfl (p := sp_refSame) (fun _ _ _ => rfl) ?_
  intro args hv
  unfold sp_refSame at hv ⊢
  split at hv
  case h_2 => exact hv.elim
  rename_i z es y fs
  refine ⟨by simp, Nat.le_of_ble_eq_true rfl, ?_⟩
  simp only [givesIf] at hv
  obtain ⟨hz, hy, ⟨l, rfl⟩, ⟨m, rfl⟩, ⟨h3, h4⟩, h6, h7⟩ := hv
  simp only [slis_length, ts_slis] at h3 h4 h6 h7
  simp (config := {dsimp := false}) only [↓a_range, ↓roundQ_normal, ↓roundQ_ret, ↓roundQ_exit, ↓a_skip, ↓a_exit, ↓a_ret, ↓a_seq, ↓a_cond, ↓a_block, ↓a_loop, ↓a_region, ↓a_draw, ↓a_region', ↓a_draw', ↓then_key, ↓with_key, ↓withY_key, ↓cond_key, ↓one_key, ↓thenQ_normal, ↓thenQ_exit, ↓thenQ_ret, ↓blockQ_normal, ↓blockQ_exit, ↓blockQ_ret, ↓aops, ↓aopsD, ↓imp_tt, ↓imp_ff, ↓imp_tf, ↓imp_ft, ↓imp_tnt, ↓imp_tnf, ↓imp_fnt, ↓imp_fnf, look, setL, resQ, argSlots, buildSt, buildArr, intsOf, eqB, keepSl, bindM, bindP, opR, okIf, ok, bad, ev, ofConst, putS, updS, S.upd, dstOk, yieldD, yieldY, strBin, isShift, cellD, retQ, resD, stripO, convR, conv2R, makeR, indexR, indexAddrR, fieldAddrR, loadR, storeR, allocR, boxR, pickR, buildR, buildSliceR, lenR, nilCheckR, extractR, funcR, ipSlice, sliceR, appendR, callR, minR, maxR, S.box, S.tok, TK.sh, known, tsize, destI, ownTok, srcI, isIn, isSl, isSt, appendI, appendL, bnd, aggBin, nilD, isPtr, fieldOf, sized, enumS, seeR, seeL, hasB, flat, flats, List.foldl_nil, List.foldl_cons, Option.getD_some, Option.getD_none, if_true, if_false, reduceIte, reduceCtorEq, Nat.reduceEqDiff, Nat.reduceAdd, Nat.reduceMul, Nat.reduceLT, Nat.reduceSub, Nat.reduceLeDiff, true_and, and_true, List.map_cons, List.map_nil, List.size_toArray, List.length_cons, List.length_nil, Option.map_some, Option.map_none, Option.bind_some, true_implies, Bool.false_eq_true, Bool.true_eq_false, false_implies, Bool.not_true, Bool.not_false, List.getElem?_cons_zero, List.getElem?_cons_succ, implies_true, and_self, Bool.and_true, Bool.true_and, BEq.rfl, and_assoc, Option.isSome_some, Option.isSome_none, List.take_succ_cons, List.take_zero, List.set_cons_zero, List.set_cons_succ, List.forall_mem_cons, List.not_mem_nil, forall_const, List.range, List.range.loop, ne_eq, not_false_eq_true, not_true_eq_false, List.cons.injEq, Prod.mk.injEq, List.append_nil, List.nil_append, List.cons_append, false_and, and_false, Bool.false_and, Bool.and_false, Nat.reduceBNe, Nat.reduceBEq, beq_self_eq_true, bne_self_eq_false, Nat.reduceBeqDiff, Bool.or_false, Bool.false_or, Bool.or_true, Bool.true_or, vs0, vs1, vs2, vs3, vs4, tys, gl0, Tryd.ntmps14, Tryd.results14, slis_length, givesIf, ts_slis]
  refine ⟨fun h => ?_, fun h => ?_⟩
  · have : l ≠ m := fun e => by subst e; simp at h
    simp [this]
  have h : l.length = m.length := by simp at h; omega
  refine loopI {i : Nat // i ≤ l.length ∧ ∀ j, j < i → l.getD j [] = m.getD j []} (fun i => [(0, .sl .no z (slis l)), (1, .sl .no y (slis m)), (5, .int .i64 (i.1 : Nat))]) (fun _ => ⟨[], [], 28⟩) (fun i => l.length - i.1) ⟨0, by simp⟩ (fun _ => rfl) ?_ ?_
  · exact ⟨⟨wkD_eq rfl, rfl, wkD_eq rfl, rfl, wkD_eq rfl, rfl, trivial⟩, trivial, trivial⟩
  rintro ⟨i, hi, hj⟩
  simp (config := {dsimp := false}) only [↓a_range, ↓roundQ_normal, ↓roundQ_ret, ↓roundQ_exit, ↓a_skip, ↓a_exit, ↓a_ret, ↓a_seq, ↓a_cond, ↓a_block, ↓a_loop, ↓a_region, ↓a_draw, ↓a_region', ↓a_draw', ↓then_key, ↓with_key, ↓withY_key, ↓cond_key, ↓one_key, ↓thenQ_normal, ↓thenQ_exit, ↓thenQ_ret, ↓blockQ_normal, ↓blockQ_exit, ↓blockQ_ret, ↓aops, ↓aopsD, ↓imp_tt, ↓imp_ff, ↓imp_tf, ↓imp_ft, ↓imp_tnt, ↓imp_tnf, ↓imp_fnt, ↓imp_fnf, look, setL, resQ, argSlots, buildSt, buildArr, intsOf, eqB, keepSl, bindM, bindP, opR, okIf, ok, bad, ev, ofConst, putS, updS, S.upd, dstOk, yieldD, yieldY, strBin, isShift, cellD, retQ, resD, stripO, convR, conv2R, makeR, indexR, indexAddrR, fieldAddrR, loadR, storeR, allocR, boxR, pickR, buildR, buildSliceR, lenR, nilCheckR, extractR, funcR, ipSlice, sliceR, appendR, callR, minR, maxR, S.box, S.tok, TK.sh, known, tsize, destI, ownTok, srcI, isIn, isSl, isSt, appendI, appendL, bnd, aggBin, nilD, isPtr, fieldOf, sized, enumS, seeR, seeL, hasB, flat, flats, List.foldl_nil, List.foldl_cons, Option.getD_some, Option.getD_none, if_true, if_false, reduceIte, reduceCtorEq, Nat.reduceEqDiff, Nat.reduceAdd, Nat.reduceMul, Nat.reduceLT, Nat.reduceSub, Nat.reduceLeDiff, true_and, and_true, List.map_cons, List.map_nil, List.size_toArray, List.length_cons, List.length_nil, Option.map_some, Option.map_none, Option.bind_some, true_implies, Bool.false_eq_true, Bool.true_eq_false, false_implies, Bool.not_true, Bool.not_false, List.getElem?_cons_zero, List.getElem?_cons_succ, implies_true, and_self, Bool.and_true, Bool.true_and, BEq.rfl, and_assoc, Option.isSome_some, Option.isSome_none, List.take_succ_cons, List.take_zero, List.set_cons_zero, List.set_cons_succ, List.forall_mem_cons, List.not_mem_nil, forall_const, List.range, List.range.loop, ne_eq, not_false_eq_true, not_true_eq_false, List.cons.injEq, Prod.mk.injEq, List.append_nil, List.nil_append, List.cons_append, false_and, and_false, Bool.false_and, Bool.and_false, Nat.reduceBNe, Nat.reduceBEq, beq_self_eq_true, bne_self_eq_false, Nat.reduceBeqDiff, Bool.or_false, Bool.false_or, Bool.or_true, Bool.true_or, vs0, vs1, vs2, vs3, vs4, tys, gl0, Tryd.ntmps14, Tryd.results14, slis_length]
  refine ⟨fun hh => ?_, fun hh => ?_⟩
  · have hh := of_decide_eq_true hh
    obtain rfl : z = 1 := hz.resolve_left (fun e => by have := slis_eq_nil e; omega)
    obtain rfl : y = 1 := hy.resolve_left (fun e => by have := slis_eq_nil e; omega)
    have g1 := slis_get l i (by omega)
    have g2 := slis_get m i (by omega)
    have hil : i < l.length := by omega
    have him : i < m.length := by omega
    have hne := strN_inj (h6 _ (getD_mem hil)).2 (h7 _ (getD_mem him)).2
    refine drawI [0, 1, 5] (by kernel_rfl) ?_
    simp (config := {dsimp := false}) only [↓a_range, ↓roundQ_normal, ↓roundQ_ret, ↓roundQ_exit, ↓a_skip, ↓a_exit, ↓a_ret, ↓a_seq, ↓a_cond, ↓a_block, ↓a_loop, ↓a_region, ↓a_draw, ↓a_region', ↓a_draw', ↓then_key, ↓with_key, ↓withY_key, ↓cond_key, ↓one_key, ↓thenQ_normal, ↓thenQ_exit, ↓thenQ_ret, ↓blockQ_normal, ↓blockQ_exit, ↓blockQ_ret, ↓aops, ↓aopsD, ↓imp_tt, ↓imp_ff, ↓imp_tf, ↓imp_ft, ↓imp_tnt, ↓imp_tnf, ↓imp_fnt, ↓imp_fnf, look, setL, resQ, argSlots, buildSt, buildArr, intsOf, eqB, keepSl, bindM, bindP, opR, okIf, ok, bad, ev, ofConst, putS, updS, S.upd, dstOk, yieldD, yieldY, strBin, isShift, cellD, retQ, resD, stripO, convR, conv2R, makeR, indexR, indexAddrR, fieldAddrR, loadR, storeR, allocR, boxR, pickR, buildR, buildSliceR, lenR, nilCheckR, extractR, funcR, ipSlice, sliceR, appendR, callR, minR, maxR, S.box, S.tok, TK.sh, known, tsize, destI, ownTok, srcI, isIn, isSl, isSt, appendI, appendL, bnd, aggBin, nilD, isPtr, fieldOf, sized, enumS, seeR, seeL, hasB, flat, flats, List.foldl_nil, List.foldl_cons, Option.getD_some, Option.getD_none, if_true, if_false, reduceIte, reduceCtorEq, Nat.reduceEqDiff, Nat.reduceAdd, Nat.reduceMul, Nat.reduceLT, Nat.reduceSub, Nat.reduceLeDiff, true_and, and_true, List.map_cons, List.map_nil, List.size_toArray, List.length_cons, List.length_nil, Option.map_some, Option.map_none, Option.bind_some, true_implies, Bool.false_eq_true, Bool.true_eq_false, false_implies, Bool.not_true, Bool.not_false, List.getElem?_cons_zero, List.getElem?_cons_succ, implies_true, and_self, Bool.and_true, Bool.true_and, BEq.rfl, and_assoc, Option.isSome_some, Option.isSome_none, List.take_succ_cons, List.take_zero, List.set_cons_zero, List.set_cons_succ, List.forall_mem_cons, List.not_mem_nil, forall_const, List.range, List.range.loop, ne_eq, not_false_eq_true, not_true_eq_false, List.cons.injEq, Prod.mk.injEq, List.append_nil, List.nil_append, List.cons_append, false_and, and_false, Bool.false_and, Bool.and_false, Nat.reduceBNe, Nat.reduceBEq, beq_self_eq_true, bne_self_eq_false, Nat.reduceBeqDiff, Bool.or_false, Bool.false_or, Bool.or_true, Bool.true_or, vs0, vs1, vs2, vs3, vs4, tys, gl0, Tryd.ntmps14, Tryd.results14, slis_length, Int.toNat_natCast, g1, g2, hne]
    refine ⟨by omega, by omega, by omega, by omega, fun h5 => ?_, fun h5 => ?_⟩
    · have h5 : ¬ l.getD i [] = m.getD i [] := by simpa using h5
      have : l ≠ m := fun e => by subst e; exact h5 rfl
      rw [ts_slis, ts_slis]
      simp [this]
      all_goals rfl
    · have h5 : l.getD i [] = m.getD i [] := by simpa using h5
      refine ⟨⟨i + 1, by omega, fun j h6 => ?_⟩, ⟨⟨wkD_eq rfl, rfl, wkD_eq rfl, rfl, wkD_eq ?_, rfl, trivial⟩, trivial, trivial⟩, by (try simp only); omega⟩
      · rcases Nat.lt_or_ge j i with h7 | h7
        · exact hj j h7
        · obtain rfl : j = i := by omega
          exact h5
      · exact some_i64 (by (try simp only); omega)
  · have hh := of_decide_eq_false hh
    obtain rfl : i = l.length := by omega
    have : l = m := by
      apply List.ext_getElem h
      intro j h6 h7
      have := hj j h6
      simpa [List.getD, h6, h7] using this
    subst this
    simp (config := {dsimp := false}) only [↓a_range, ↓roundQ_normal, ↓roundQ_ret, ↓roundQ_exit, ↓a_skip, ↓a_exit, ↓a_ret, ↓a_seq, ↓a_cond, ↓a_block, ↓a_loop, ↓a_region, ↓a_draw, ↓a_region', ↓a_draw', ↓then_key, ↓with_key, ↓withY_key, ↓cond_key, ↓one_key, ↓thenQ_normal, ↓thenQ_exit, ↓thenQ_ret, ↓blockQ_normal, ↓blockQ_exit, ↓blockQ_ret, ↓aops, ↓aopsD, ↓imp_tt, ↓imp_ff, ↓imp_tf, ↓imp_ft, ↓imp_tnt, ↓imp_tnf, ↓imp_fnt, ↓imp_fnf, look, setL, resQ, argSlots, buildSt, buildArr, intsOf, eqB, keepSl, bindM, bindP, opR, okIf, ok, bad, ev, ofConst, putS, updS, S.upd, dstOk, yieldD, yieldY, strBin, isShift, cellD, retQ, resD, stripO, convR, conv2R, makeR, indexR, indexAddrR, fieldAddrR, loadR, storeR, allocR, boxR, pickR, buildR, buildSliceR, lenR, nilCheckR, extractR, funcR, ipSlice, sliceR, appendR, callR, minR, maxR, S.box, S.tok, TK.sh, known, tsize, destI, ownTok, srcI, isIn, isSl, isSt, appendI, appendL, bnd, aggBin, nilD, isPtr, fieldOf, sized, enumS, seeR, seeL, hasB, flat, flats, List.foldl_nil, List.foldl_cons, Option.getD_some, Option.getD_none, if_true, if_false, reduceIte, reduceCtorEq, Nat.reduceEqDiff, Nat.reduceAdd, Nat.reduceMul, Nat.reduceLT, Nat.reduceSub, Nat.reduceLeDiff, true_and, and_true, List.map_cons, List.map_nil, List.size_toArray, List.length_cons, List.length_nil, Option.map_some, Option.map_none, Option.bind_some, true_implies, Bool.false_eq_true, Bool.true_eq_false, false_implies, Bool.not_true, Bool.not_false, List.getElem?_cons_zero, List.getElem?_cons_succ, implies_true, and_self, Bool.and_true, Bool.true_and, BEq.rfl, and_assoc, Option.isSome_some, Option.isSome_none, List.take_succ_cons, List.take_zero, List.set_cons_zero, List.set_cons_succ, List.forall_mem_cons, List.not_mem_nil, forall_const, List.range, List.range.loop, ne_eq, not_false_eq_true, not_true_eq_false, List.cons.injEq, Prod.mk.injEq, List.append_nil, List.nil_append, List.cons_append, false_and, and_false, Bool.false_and, Bool.and_false, Nat.reduceBNe, Nat.reduceBEq, beq_self_eq_true, bne_self_eq_false, Nat.reduceBeqDiff, Bool.or_false, Bool.false_or, Bool.or_true, Bool.true_or, vs0, vs1, vs2, vs3, vs4, tys, gl0, Tryd.ntmps14, Tryd.results14, ts_slis]
    simp
    all_goals rfl
end Go.Vi.C8
end

section
set_option linter.unusedVariables false
set_option linter.unusedSimpArgs false
set_option maxHeartbeats 0
set_option maxRecDepth 20000
namespace Go.Vi.C8
open Go.Proofs

theorem needs_le : ∀ (n i : Nat), needsN i n ≤ n := by
  intro n
  induction n using Nat.strongRecOn with
  | _ n ih =>
    intro i
    rw [needsN]
    split
    · omega
    · have := ih ((n + 1) / 2) (by omega) (i / 2)
      split <;> omega
theorem needs_one {i n : Nat} (h : n ≤ 1) : needsN i n = 0 := by rw [needsN]; simp [h]
theorem needs_gt {i n : Nat} (h : ¬ n ≤ 1) : needsN i n = (if aloneN i n = true then 0 else 1) + needsN (i / 2) ((n + 1) / 2) := by rw [needsN]; simp [h]
theorem fold_one {i n : Nat} {x : List Int} {b : L2} (h : n ≤ 1) : foldN x i n b = x := by rw [foldN]; simp [h]
theorem fold_gt {i n : Nat} {x : List Int} {b : L2} (h : ¬ n ≤ 1) : foldN x i n b = if aloneN i n = true then foldN (H2 x x) (i / 2) ((n + 1) / 2) b
    else if i % 2 = 0 then foldN (H2 x (b.getD 0 [])) (i / 2) ((n + 1) / 2) (b.drop 1) else foldN (H2 (b.getD 0 []) x) (i / 2) ((n + 1) / 2) (b.drop 1) := by rw [foldN]; simp [h]
theorem c_alone : Contract E 41 := by
  refine contract_see hE hgl (show E.P.funcs[41]? = some Tryd.f41 from Tryd.func41) rfl (p := sp_alone) (fun _ _ _ => rfl) ?_
  intro args hv
  unfold sp_alone at hv ⊢
  split at hv
  case h_2 => exact hv.elim
  rename_i i n
  refine ⟨by simp, Nat.le_of_ble_eq_true rfl, ?_⟩
  simp only [givesIf] at hv
  obtain ⟨i0, n0, h1, h2⟩ := hv
  obtain ⟨i, rfl⟩ : ∃ k : Nat, i = (k : Int) := ⟨i.toNat, by omega⟩
  obtain ⟨n, rfl⟩ : ∃ k : Nat, n = (k : Int) := ⟨n.toNat, by omega⟩
  have w1 : IntKind.wrap .i64 ((n : Int) - 1) = (n : Int) - 1 := IntWalk.i64_in _ (by omega)
  have e1 := even_dec i
  have e3 : aloneN (i : Int).toNat (n : Int).toNat = aloneN i n := rfl
  rcases Nat.mod_two_eq_zero_or_one i with h | h
  · rw [decide_eq_true h] at e1
    simp (config := {dsimp := false}) only [↓a_range, ↓roundQ_normal, ↓roundQ_ret, ↓roundQ_exit, ↓a_skip, ↓a_exit, ↓a_ret, ↓a_seq, ↓a_cond, ↓a_block, ↓a_loop, ↓a_region, ↓a_draw, ↓a_region', ↓a_draw', ↓then_key, ↓with_key, ↓withY_key, ↓cond_key, ↓one_key, ↓thenQ_normal, ↓thenQ_exit, ↓thenQ_ret, ↓blockQ_normal, ↓blockQ_exit, ↓blockQ_ret, ↓aops, ↓aopsD, ↓imp_tt, ↓imp_ff, ↓imp_tf, ↓imp_ft, ↓imp_tnt, ↓imp_tnf, ↓imp_fnt, ↓imp_fnf, look, setL, resQ, argSlots, buildSt, buildArr, intsOf, eqB, keepSl, bindM, bindP, opR, okIf, ok, bad, ev, ofConst, putS, updS, S.upd, dstOk, yieldD, yieldY, strBin, isShift, cellD, retQ, resD, stripO, convR, conv2R, makeR, indexR, indexAddrR, fieldAddrR, loadR, storeR, allocR, boxR, pickR, buildR, buildSliceR, lenR, nilCheckR, extractR, funcR, ipSlice, sliceR, appendR, callR, minR, maxR, S.box, S.tok, TK.sh, known, tsize, destI, ownTok, srcI, isIn, isSl, isSt, appendI, appendL, bnd, aggBin, nilD, isPtr, fieldOf, sized, enumS, seeR, seeL, hasB, flat, flats, List.foldl_nil, List.foldl_cons, Option.getD_some, Option.getD_none, if_true, if_false, reduceIte, reduceCtorEq, Nat.reduceEqDiff, Nat.reduceAdd, Nat.reduceMul, Nat.reduceLT, Nat.reduceSub, Nat.reduceLeDiff, true_and, and_true, List.map_cons, List.map_nil, List.size_toArray, List.length_cons, List.length_nil, Option.map_some, Option.map_none, Option.bind_some, true_implies, Bool.false_eq_true, Bool.true_eq_false, false_implies, Bool.not_true, Bool.not_false, List.getElem?_cons_zero, List.getElem?_cons_succ, implies_true, and_self, Bool.and_true, Bool.true_and, BEq.rfl, and_assoc, Option.isSome_some, Option.isSome_none, List.take_succ_cons, List.take_zero, List.set_cons_zero, List.set_cons_succ, List.forall_mem_cons, List.not_mem_nil, forall_const, List.range, List.range.loop, ne_eq, not_false_eq_true, not_true_eq_false, List.cons.injEq, Prod.mk.injEq, List.append_nil, List.nil_append, List.cons_append, false_and, and_false, Bool.false_and, Bool.and_false, Nat.reduceBNe, Nat.reduceBEq, beq_self_eq_true, bne_self_eq_false, Nat.reduceBeqDiff, Bool.or_false, Bool.false_or, Bool.or_true, Bool.true_or, vs0, vs1, vs2, vs3, vs4, tys, gl0, Tryd.ntmps41, Tryd.results41, w1, e1]
    rw [e3]
    refine ⟨by decide, congrArg D.bool ?_⟩
    unfold aloneN
    rw [decide_eq_true h, Bool.true_and]
    exact decide_eq_decide.2 (by omega)
  · rw [decide_eq_false (show ¬ i % 2 = 0 by omega)] at e1
    simp (config := {dsimp := false}) only [↓a_range, ↓roundQ_normal, ↓roundQ_ret, ↓roundQ_exit, ↓a_skip, ↓a_exit, ↓a_ret, ↓a_seq, ↓a_cond, ↓a_block, ↓a_loop, ↓a_region, ↓a_draw, ↓a_region', ↓a_draw', ↓then_key, ↓with_key, ↓withY_key, ↓cond_key, ↓one_key, ↓thenQ_normal, ↓thenQ_exit, ↓thenQ_ret, ↓blockQ_normal, ↓blockQ_exit, ↓blockQ_ret, ↓aops, ↓aopsD, ↓imp_tt, ↓imp_ff, ↓imp_tf, ↓imp_ft, ↓imp_tnt, ↓imp_tnf, ↓imp_fnt, ↓imp_fnf, look, setL, resQ, argSlots, buildSt, buildArr, intsOf, eqB, keepSl, bindM, bindP, opR, okIf, ok, bad, ev, ofConst, putS, updS, S.upd, dstOk, yieldD, yieldY, strBin, isShift, cellD, retQ, resD, stripO, convR, conv2R, makeR, indexR, indexAddrR, fieldAddrR, loadR, storeR, allocR, boxR, pickR, buildR, buildSliceR, lenR, nilCheckR, extractR, funcR, ipSlice, sliceR, appendR, callR, minR, maxR, S.box, S.tok, TK.sh, known, tsize, destI, ownTok, srcI, isIn, isSl, isSt, appendI, appendL, bnd, aggBin, nilD, isPtr, fieldOf, sized, enumS, seeR, seeL, hasB, flat, flats, List.foldl_nil, List.foldl_cons, Option.getD_some, Option.getD_none, if_true, if_false, reduceIte, reduceCtorEq, Nat.reduceEqDiff, Nat.reduceAdd, Nat.reduceMul, Nat.reduceLT, Nat.reduceSub, Nat.reduceLeDiff, true_and, and_true, List.map_cons, List.map_nil, List.size_toArray, List.length_cons, List.length_nil, Option.map_some, Option.map_none, Option.bind_some, true_implies, Bool.false_eq_true, Bool.true_eq_false, false_implies, Bool.not_true, Bool.not_false, List.getElem?_cons_zero, List.getElem?_cons_succ, implies_true, and_self, Bool.and_true, Bool.true_and, BEq.rfl, and_assoc, Option.isSome_some, Option.isSome_none, List.take_succ_cons, List.take_zero, List.set_cons_zero, List.set_cons_succ, List.forall_mem_cons, List.not_mem_nil, forall_const, List.range, List.range.loop, ne_eq, not_false_eq_true, not_true_eq_false, List.cons.injEq, Prod.mk.injEq, List.append_nil, List.nil_append, List.cons_append, false_and, and_false, Bool.false_and, Bool.and_false, Nat.reduceBNe, Nat.reduceBEq, beq_self_eq_true, bne_self_eq_false, Nat.reduceBeqDiff, Bool.or_false, Bool.false_or, Bool.or_true, Bool.true_or, vs0, vs1, vs2, vs3, vs4, tys, gl0, Tryd.ntmps41, Tryd.results41, w1, e1]
    rw [e3]
    refine ⟨by decide, congrArg D.bool ?_⟩
    unfold aloneN
    rw [decide_eq_false (show ¬ i % 2 = 0 by omega), Bool.false_and]
theorem c_needs : Contract E 40 := by
  refine contract_see hE hgl (show E.P.funcs[40]? = some Tryd.f40 from Tryd.func40) rfl (p := sp_needs) (fun _ _ _ => rfl) ?_
  intro args hv
  unfold sp_needs at hv ⊢
  split at hv
  case h_2 => exact hv.elim
  rename_i i n
  refine ⟨by simp, Nat.le_of_ble_eq_true rfl, ?_⟩
  simp only [givesIf] at hv
  obtain ⟨i0, n0, h1, h2⟩ := hv
  obtain ⟨i, rfl⟩ : ∃ k : Nat, i = (k : Int) := ⟨i.toNat, by omega⟩
  obtain ⟨n, rfl⟩ : ∃ k : Nat, n = (k : Int) := ⟨n.toNat, by omega⟩
  have e3 : needsN (i : Int).toNat (n : Int).toNat = needsN i n := rfl
  simp (config := {dsimp := false}) only [↓a_range, ↓roundQ_normal, ↓roundQ_ret, ↓roundQ_exit, ↓a_skip, ↓a_exit, ↓a_ret, ↓a_seq, ↓a_cond, ↓a_block, ↓a_loop, ↓a_region, ↓a_draw, ↓a_region', ↓a_draw', ↓then_key, ↓with_key, ↓withY_key, ↓cond_key, ↓one_key, ↓thenQ_normal, ↓thenQ_exit, ↓thenQ_ret, ↓blockQ_normal, ↓blockQ_exit, ↓blockQ_ret, ↓aops, ↓aopsD, ↓imp_tt, ↓imp_ff, ↓imp_tf, ↓imp_ft, ↓imp_tnt, ↓imp_tnf, ↓imp_fnt, ↓imp_fnf, look, setL, resQ, argSlots, buildSt, buildArr, intsOf, eqB, keepSl, bindM, bindP, opR, okIf, ok, bad, ev, ofConst, putS, updS, S.upd, dstOk, yieldD, yieldY, strBin, isShift, cellD, retQ, resD, stripO, convR, conv2R, makeR, indexR, indexAddrR, fieldAddrR, loadR, storeR, allocR, boxR, pickR, buildR, buildSliceR, lenR, nilCheckR, extractR, funcR, ipSlice, sliceR, appendR, callR, minR, maxR, S.box, S.tok, TK.sh, known, tsize, destI, ownTok, srcI, isIn, isSl, isSt, appendI, appendL, bnd, aggBin, nilD, isPtr, fieldOf, sized, enumS, seeR, seeL, hasB, flat, flats, List.foldl_nil, List.foldl_cons, Option.getD_some, Option.getD_none, if_true, if_false, reduceIte, reduceCtorEq, Nat.reduceEqDiff, Nat.reduceAdd, Nat.reduceMul, Nat.reduceLT, Nat.reduceSub, Nat.reduceLeDiff, true_and, and_true, List.map_cons, List.map_nil, List.size_toArray, List.length_cons, List.length_nil, Option.map_some, Option.map_none, Option.bind_some, true_implies, Bool.false_eq_true, Bool.true_eq_false, false_implies, Bool.not_true, Bool.not_false, List.getElem?_cons_zero, List.getElem?_cons_succ, implies_true, and_self, Bool.and_true, Bool.true_and, BEq.rfl, and_assoc, Option.isSome_some, Option.isSome_none, List.take_succ_cons, List.take_zero, List.set_cons_zero, List.set_cons_succ, List.forall_mem_cons, List.not_mem_nil, forall_const, List.range, List.range.loop, ne_eq, not_false_eq_true, not_true_eq_false, List.cons.injEq, Prod.mk.injEq, List.append_nil, List.nil_append, List.cons_append, false_and, and_false, Bool.false_and, Bool.and_false, Nat.reduceBNe, Nat.reduceBEq, beq_self_eq_true, bne_self_eq_false, Nat.reduceBeqDiff, Bool.or_false, Bool.false_or, Bool.or_true, Bool.true_or, vs0, vs1, vs2, vs3, vs4, tys, gl0, Tryd.ntmps40, Tryd.results40]
  refine loopI {x : Nat × Nat × Nat // x.1 < 10000000 ∧ x.2.1 < 10000000 ∧ x.2.2 + needsN x.1 x.2.1 = needsN i n} (fun x => [(0, .int .i64 (x.1.1 : Nat)), (1, .int .i64 (x.1.2.1 : Nat)), (5, .int .i64 (x.1.2.2 : Nat))]) (fun _ => ⟨[], [], 8⟩) (fun x => x.1.2.1) ⟨(i, n, 0), by simp only; omega⟩ (fun _ => rfl) ⟨⟨wkD_eq rfl, rfl, wkD_eq rfl, rfl, wkD_eq rfl, rfl, trivial⟩, trivial, trivial⟩ ?_
  rintro ⟨⟨a, b, c⟩, ha, hb, hc⟩
  simp only at ha hb hc ⊢
  have q1 := half a ha
  have q2 := halfup b hb
  have e4 : aloneN (a : Int).toNat (b : Int).toNat = aloneN a b := rfl
  have hle := needs_le n i
  simp (config := {dsimp := false}) only [↓a_range, ↓roundQ_normal, ↓roundQ_ret, ↓roundQ_exit, ↓a_skip, ↓a_exit, ↓a_ret, ↓a_seq, ↓a_cond, ↓a_block, ↓a_loop, ↓a_region, ↓a_draw, ↓a_region', ↓a_draw', ↓then_key, ↓with_key, ↓withY_key, ↓cond_key, ↓one_key, ↓thenQ_normal, ↓thenQ_exit, ↓thenQ_ret, ↓blockQ_normal, ↓blockQ_exit, ↓blockQ_ret, ↓aops, ↓aopsD, ↓imp_tt, ↓imp_ff, ↓imp_tf, ↓imp_ft, ↓imp_tnt, ↓imp_tnf, ↓imp_fnt, ↓imp_fnf, look, setL, resQ, argSlots, buildSt, buildArr, intsOf, eqB, keepSl, bindM, bindP, opR, okIf, ok, bad, ev, ofConst, putS, updS, S.upd, dstOk, yieldD, yieldY, strBin, isShift, cellD, retQ, resD, stripO, convR, conv2R, makeR, indexR, indexAddrR, fieldAddrR, loadR, storeR, allocR, boxR, pickR, buildR, buildSliceR, lenR, nilCheckR, extractR, funcR, ipSlice, sliceR, appendR, callR, minR, maxR, S.box, S.tok, TK.sh, known, tsize, destI, ownTok, srcI, isIn, isSl, isSt, appendI, appendL, bnd, aggBin, nilD, isPtr, fieldOf, sized, enumS, seeR, seeL, hasB, flat, flats, List.foldl_nil, List.foldl_cons, Option.getD_some, Option.getD_none, if_true, if_false, reduceIte, reduceCtorEq, Nat.reduceEqDiff, Nat.reduceAdd, Nat.reduceMul, Nat.reduceLT, Nat.reduceSub, Nat.reduceLeDiff, true_and, and_true, List.map_cons, List.map_nil, List.size_toArray, List.length_cons, List.length_nil, Option.map_some, Option.map_none, Option.bind_some, true_implies, Bool.false_eq_true, Bool.true_eq_false, false_implies, Bool.not_true, Bool.not_false, List.getElem?_cons_zero, List.getElem?_cons_succ, implies_true, and_self, Bool.and_true, Bool.true_and, BEq.rfl, and_assoc, Option.isSome_some, Option.isSome_none, List.take_succ_cons, List.take_zero, List.set_cons_zero, List.set_cons_succ, List.forall_mem_cons, List.not_mem_nil, forall_const, List.range, List.range.loop, ne_eq, not_false_eq_true, not_true_eq_false, List.cons.injEq, Prod.mk.injEq, List.append_nil, List.nil_append, List.cons_append, false_and, and_false, Bool.false_and, Bool.and_false, Nat.reduceBNe, Nat.reduceBEq, beq_self_eq_true, bne_self_eq_false, Nat.reduceBeqDiff, Bool.or_false, Bool.false_or, Bool.or_true, Bool.true_or, vs0, vs1, vs2, vs3, vs4, tys, gl0, Tryd.ntmps40, Tryd.results40, PF.toR, givesIf, q1, q2, e4, spec_alone, sp_alone, c_alone, b_alone]
  refine ⟨fun hh => ?_, fun hh => ?_⟩
  · have hh := of_decide_eq_true hh
    have hg := needs_gt (i := a) (n := b) (by omega)
    refine ⟨by omega, by omega, by omega, by omega, fun h3 => ?_, fun h3 => ?_⟩
    · have h3 : aloneN a b = false := by simpa using h3
      rw [h3] at hg
      simp only [Bool.false_eq_true, if_false] at hg
      refine ⟨by decide, by decide, ⟨(a / 2, (b + 1) / 2, c + 1), by simp only; omega⟩, ⟨⟨wkD_eq rfl, rfl, wkD_eq rfl, rfl, wkD_eq ?_, rfl, trivial⟩, trivial, trivial⟩, by (try simp only); omega⟩
      exact congrArg (fun z => some (D.int .i64 z)) (IntWalk.i64_in _ (by omega))
    · have h3 : aloneN a b = true := by simpa using h3
      rw [h3] at hg
      simp only [if_true] at hg
      exact ⟨by decide, by decide, ⟨(a / 2, (b + 1) / 2, c), by simp only; omega⟩, ⟨⟨wkD_eq rfl, rfl, wkD_eq rfl, rfl, wkD_eq rfl, rfl, trivial⟩, trivial, trivial⟩, by (try simp only); omega⟩
  · have hh := of_decide_eq_false hh
    have := needs_one (i := a) (n := b) (by omega)
    rw [e3]
    exact congrArg (fun z : Nat => D.int .i64 (z : Int)) (by omega)
theorem c_fold : Contract E 22 := by
  refine contract_see hE hgl (show E.P.funcs[22]? = some Tryd.f22 from Tryd.func22) rfl (p := sp_fold) (fun _ _ _ => rfl) ?_
  intro args hv
  unfold sp_fold at hv ⊢
  split at hv
  case h_2 => exact hv.elim
  rename_i h i n z es
  refine ⟨by simp, Nat.le_of_ble_eq_true rfl, ?_⟩
  simp only [givesIf] at hv
  obtain ⟨hh, hz, ⟨l, rfl, hl⟩⟩ := hv
  change awp E Tryd.f22.ntmps _ (retQ E Tryd.f22 (foldV h i n (hs (arrs l)))) _ _
  rw [hs_arrs]
  by_cases c1 : i < 0
  · have d1 : decide (i < 0) = true := decide_eq_true c1
    have hV : foldV h i n l = .tup [.arr .u8 32 (List.replicate 32 0), .bool false] := if_pos (.inl c1)
    simp (config := {dsimp := false}) only [↓a_range, ↓roundQ_normal, ↓roundQ_ret, ↓roundQ_exit, ↓a_skip, ↓a_exit, ↓a_ret, ↓a_seq, ↓a_cond, ↓a_block, ↓a_loop, ↓a_region, ↓a_draw, ↓a_region', ↓a_draw', ↓then_key, ↓with_key, ↓withY_key, ↓cond_key, ↓one_key, ↓thenQ_normal, ↓thenQ_exit, ↓thenQ_ret, ↓blockQ_normal, ↓blockQ_exit, ↓blockQ_ret, ↓aops, ↓aopsD, ↓imp_tt, ↓imp_ff, ↓imp_tf, ↓imp_ft, ↓imp_tnt, ↓imp_tnf, ↓imp_fnt, ↓imp_fnf, look, setL, resQ, argSlots, buildSt, buildArr, intsOf, eqB, keepSl, bindM, bindP, opR, okIf, ok, bad, ev, ofConst, putS, updS, S.upd, dstOk, yieldD, yieldY, strBin, isShift, cellD, retQ, resD, stripO, convR, conv2R, makeR, indexR, indexAddrR, fieldAddrR, loadR, storeR, allocR, boxR, pickR, buildR, buildSliceR, lenR, nilCheckR, extractR, funcR, ipSlice, sliceR, appendR, callR, minR, maxR, S.box, S.tok, TK.sh, known, tsize, destI, ownTok, srcI, isIn, isSl, isSt, appendI, appendL, bnd, aggBin, nilD, isPtr, fieldOf, sized, enumS, seeR, seeL, hasB, flat, flats, List.foldl_nil, List.foldl_cons, Option.getD_some, Option.getD_none, if_true, if_false, reduceIte, reduceCtorEq, Nat.reduceEqDiff, Nat.reduceAdd, Nat.reduceMul, Nat.reduceLT, Nat.reduceSub, Nat.reduceLeDiff, true_and, and_true, List.map_cons, List.map_nil, List.size_toArray, List.length_cons, List.length_nil, Option.map_some, Option.map_none, Option.bind_some, true_implies, Bool.false_eq_true, Bool.true_eq_false, false_implies, Bool.not_true, Bool.not_false, List.getElem?_cons_zero, List.getElem?_cons_succ, implies_true, and_self, Bool.and_true, Bool.true_and, BEq.rfl, and_assoc, Option.isSome_some, Option.isSome_none, List.take_succ_cons, List.take_zero, List.set_cons_zero, List.set_cons_succ, List.forall_mem_cons, List.not_mem_nil, forall_const, List.range, List.range.loop, ne_eq, not_false_eq_true, not_true_eq_false, List.cons.injEq, Prod.mk.injEq, List.append_nil, List.nil_append, List.cons_append, false_and, and_false, Bool.false_and, Bool.and_false, Nat.reduceBNe, Nat.reduceBEq, beq_self_eq_true, bne_self_eq_false, Nat.reduceBeqDiff, Bool.or_false, Bool.false_or, Bool.or_true, Bool.true_or, vs0, vs1, vs2, vs3, vs4, tys, gl0, Tryd.ntmps22, Tryd.results22, arrs_length, d1, hV]
  have d1 : decide (i < 0) = false := decide_eq_false c1
  by_cases c2 : i ≥ n
  · have d2 : decide (i ≥ n) = true := decide_eq_true c2
    have hV : foldV h i n l = .tup [.arr .u8 32 (List.replicate 32 0), .bool false] := if_pos (.inr (.inl c2))
    simp (config := {dsimp := false}) only [↓a_range, ↓roundQ_normal, ↓roundQ_ret, ↓roundQ_exit, ↓a_skip, ↓a_exit, ↓a_ret, ↓a_seq, ↓a_cond, ↓a_block, ↓a_loop, ↓a_region, ↓a_draw, ↓a_region', ↓a_draw', ↓then_key, ↓with_key, ↓withY_key, ↓cond_key, ↓one_key, ↓thenQ_normal, ↓thenQ_exit, ↓thenQ_ret, ↓blockQ_normal, ↓blockQ_exit, ↓blockQ_ret, ↓aops, ↓aopsD, ↓imp_tt, ↓imp_ff, ↓imp_tf, ↓imp_ft, ↓imp_tnt, ↓imp_tnf, ↓imp_fnt, ↓imp_fnf, look, setL, resQ, argSlots, buildSt, buildArr, intsOf, eqB, keepSl, bindM, bindP, opR, okIf, ok, bad, ev, ofConst, putS, updS, S.upd, dstOk, yieldD, yieldY, strBin, isShift, cellD, retQ, resD, stripO, convR, conv2R, makeR, indexR, indexAddrR, fieldAddrR, loadR, storeR, allocR, boxR, pickR, buildR, buildSliceR, lenR, nilCheckR, extractR, funcR, ipSlice, sliceR, appendR, callR, minR, maxR, S.box, S.tok, TK.sh, known, tsize, destI, ownTok, srcI, isIn, isSl, isSt, appendI, appendL, bnd, aggBin, nilD, isPtr, fieldOf, sized, enumS, seeR, seeL, hasB, flat, flats, List.foldl_nil, List.foldl_cons, Option.getD_some, Option.getD_none, if_true, if_false, reduceIte, reduceCtorEq, Nat.reduceEqDiff, Nat.reduceAdd, Nat.reduceMul, Nat.reduceLT, Nat.reduceSub, Nat.reduceLeDiff, true_and, and_true, List.map_cons, List.map_nil, List.size_toArray, List.length_cons, List.length_nil, Option.map_some, Option.map_none, Option.bind_some, true_implies, Bool.false_eq_true, Bool.true_eq_false, false_implies, Bool.not_true, Bool.not_false, List.getElem?_cons_zero, List.getElem?_cons_succ, implies_true, and_self, Bool.and_true, Bool.true_and, BEq.rfl, and_assoc, Option.isSome_some, Option.isSome_none, List.take_succ_cons, List.take_zero, List.set_cons_zero, List.set_cons_succ, List.forall_mem_cons, List.not_mem_nil, forall_const, List.range, List.range.loop, ne_eq, not_false_eq_true, not_true_eq_false, List.cons.injEq, Prod.mk.injEq, List.append_nil, List.nil_append, List.cons_append, false_and, and_false, Bool.false_and, Bool.and_false, Nat.reduceBNe, Nat.reduceBEq, beq_self_eq_true, bne_self_eq_false, Nat.reduceBeqDiff, Bool.or_false, Bool.false_or, Bool.or_true, Bool.true_or, vs0, vs1, vs2, vs3, vs4, tys, gl0, Tryd.ntmps22, Tryd.results22, arrs_length, d1, d2, hV]
  have d2 : decide (i ≥ n) = false := decide_eq_false c2
  by_cases c3 : n > 1048576
  · have d3 : decide (n > 1048576) = true := decide_eq_true c3
    have hV : foldV h i n l = .tup [.arr .u8 32 (List.replicate 32 0), .bool false] := if_pos (.inr (.inr (.inl c3)))
    simp (config := {dsimp := false}) only [↓a_range, ↓roundQ_normal, ↓roundQ_ret, ↓roundQ_exit, ↓a_skip, ↓a_exit, ↓a_ret, ↓a_seq, ↓a_cond, ↓a_block, ↓a_loop, ↓a_region, ↓a_draw, ↓a_region', ↓a_draw', ↓then_key, ↓with_key, ↓withY_key, ↓cond_key, ↓one_key, ↓thenQ_normal, ↓thenQ_exit, ↓thenQ_ret, ↓blockQ_normal, ↓blockQ_exit, ↓blockQ_ret, ↓aops, ↓aopsD, ↓imp_tt, ↓imp_ff, ↓imp_tf, ↓imp_ft, ↓imp_tnt, ↓imp_tnf, ↓imp_fnt, ↓imp_fnf, look, setL, resQ, argSlots, buildSt, buildArr, intsOf, eqB, keepSl, bindM, bindP, opR, okIf, ok, bad, ev, ofConst, putS, updS, S.upd, dstOk, yieldD, yieldY, strBin, isShift, cellD, retQ, resD, stripO, convR, conv2R, makeR, indexR, indexAddrR, fieldAddrR, loadR, storeR, allocR, boxR, pickR, buildR, buildSliceR, lenR, nilCheckR, extractR, funcR, ipSlice, sliceR, appendR, callR, minR, maxR, S.box, S.tok, TK.sh, known, tsize, destI, ownTok, srcI, isIn, isSl, isSt, appendI, appendL, bnd, aggBin, nilD, isPtr, fieldOf, sized, enumS, seeR, seeL, hasB, flat, flats, List.foldl_nil, List.foldl_cons, Option.getD_some, Option.getD_none, if_true, if_false, reduceIte, reduceCtorEq, Nat.reduceEqDiff, Nat.reduceAdd, Nat.reduceMul, Nat.reduceLT, Nat.reduceSub, Nat.reduceLeDiff, true_and, and_true, List.map_cons, List.map_nil, List.size_toArray, List.length_cons, List.length_nil, Option.map_some, Option.map_none, Option.bind_some, true_implies, Bool.false_eq_true, Bool.true_eq_false, false_implies, Bool.not_true, Bool.not_false, List.getElem?_cons_zero, List.getElem?_cons_succ, implies_true, and_self, Bool.and_true, Bool.true_and, BEq.rfl, and_assoc, Option.isSome_some, Option.isSome_none, List.take_succ_cons, List.take_zero, List.set_cons_zero, List.set_cons_succ, List.forall_mem_cons, List.not_mem_nil, forall_const, List.range, List.range.loop, ne_eq, not_false_eq_true, not_true_eq_false, List.cons.injEq, Prod.mk.injEq, List.append_nil, List.nil_append, List.cons_append, false_and, and_false, Bool.false_and, Bool.and_false, Nat.reduceBNe, Nat.reduceBEq, beq_self_eq_true, bne_self_eq_false, Nat.reduceBeqDiff, Bool.or_false, Bool.false_or, Bool.or_true, Bool.true_or, vs0, vs1, vs2, vs3, vs4, tys, gl0, Tryd.ntmps22, Tryd.results22, arrs_length, d1, d2, d3, hV]
  have d3 : decide (n > 1048576) = false := decide_eq_false c3
  obtain ⟨i, rfl⟩ : ∃ k : Nat, i = (k : Int) := ⟨i.toNat, by omega⟩
  obtain ⟨n, rfl⟩ : ∃ k : Nat, n = (k : Int) := ⟨n.toNat, by omega⟩
  have en : needsN (i : Int).toNat (n : Int).toNat = needsN i n := rfl
  by_cases c4 : l.length = needsN i n
  case neg =>
    have d4 : decide ((l.length : Int) = ((needsN i n : Nat) : Int)) = false := decide_eq_false (by omega)
    have hV : foldV h i n l = .tup [.arr .u8 32 (List.replicate 32 0), .bool false] := if_pos (.inr (.inr (.inr c4)))
    simp (config := {dsimp := false}) only [↓a_range, ↓roundQ_normal, ↓roundQ_ret, ↓roundQ_exit, ↓a_skip, ↓a_exit, ↓a_ret, ↓a_seq, ↓a_cond, ↓a_block, ↓a_loop, ↓a_region, ↓a_draw, ↓a_region', ↓a_draw', ↓then_key, ↓with_key, ↓withY_key, ↓cond_key, ↓one_key, ↓thenQ_normal, ↓thenQ_exit, ↓thenQ_ret, ↓blockQ_normal, ↓blockQ_exit, ↓blockQ_ret, ↓aops, ↓aopsD, ↓imp_tt, ↓imp_ff, ↓imp_tf, ↓imp_ft, ↓imp_tnt, ↓imp_tnf, ↓imp_fnt, ↓imp_fnf, look, setL, resQ, argSlots, buildSt, buildArr, intsOf, eqB, keepSl, bindM, bindP, opR, okIf, ok, bad, ev, ofConst, putS, updS, S.upd, dstOk, yieldD, yieldY, strBin, isShift, cellD, retQ, resD, stripO, convR, conv2R, makeR, indexR, indexAddrR, fieldAddrR, loadR, storeR, allocR, boxR, pickR, buildR, buildSliceR, lenR, nilCheckR, extractR, funcR, ipSlice, sliceR, appendR, callR, minR, maxR, S.box, S.tok, TK.sh, known, tsize, destI, ownTok, srcI, isIn, isSl, isSt, appendI, appendL, bnd, aggBin, nilD, isPtr, fieldOf, sized, enumS, seeR, seeL, hasB, flat, flats, List.foldl_nil, List.foldl_cons, Option.getD_some, Option.getD_none, if_true, if_false, reduceIte, reduceCtorEq, Nat.reduceEqDiff, Nat.reduceAdd, Nat.reduceMul, Nat.reduceLT, Nat.reduceSub, Nat.reduceLeDiff, true_and, and_true, List.map_cons, List.map_nil, List.size_toArray, List.length_cons, List.length_nil, Option.map_some, Option.map_none, Option.bind_some, true_implies, Bool.false_eq_true, Bool.true_eq_false, false_implies, Bool.not_true, Bool.not_false, List.getElem?_cons_zero, List.getElem?_cons_succ, implies_true, and_self, Bool.and_true, Bool.true_and, BEq.rfl, and_assoc, Option.isSome_some, Option.isSome_none, List.take_succ_cons, List.take_zero, List.set_cons_zero, List.set_cons_succ, List.forall_mem_cons, List.not_mem_nil, forall_const, List.range, List.range.loop, ne_eq, not_false_eq_true, not_true_eq_false, List.cons.injEq, Prod.mk.injEq, List.append_nil, List.nil_append, List.cons_append, false_and, and_false, Bool.false_and, Bool.and_false, Nat.reduceBNe, Nat.reduceBEq, beq_self_eq_true, bne_self_eq_false, Nat.reduceBeqDiff, Bool.or_false, Bool.false_or, Bool.or_true, Bool.true_or, vs0, vs1, vs2, vs3, vs4, tys, gl0, Tryd.ntmps22, Tryd.results22, arrs_length, PF.toR, givesIf, d1, d2, d3, d4, en, hV, spec_needs, sp_needs, c_needs, b_needs]
    exact ⟨by omega, by omega, by omega, by omega⟩
  have d4 : decide ((l.length : Int) = ((needsN i n : Nat) : Int)) = true := decide_eq_true (by omega)
  have hV : foldV h i n l = .tup [.arr .u8 32 (foldN h i n l), .bool true] := if_neg (by rw [en]; omega)
  simp (config := {dsimp := false}) only [↓a_range, ↓roundQ_normal, ↓roundQ_ret, ↓roundQ_exit, ↓a_skip, ↓a_exit, ↓a_ret, ↓a_seq, ↓a_cond, ↓a_block, ↓a_loop, ↓a_region, ↓a_draw, ↓a_region', ↓a_draw', ↓then_key, ↓with_key, ↓withY_key, ↓cond_key, ↓one_key, ↓thenQ_normal, ↓thenQ_exit, ↓thenQ_ret, ↓blockQ_normal, ↓blockQ_exit, ↓blockQ_ret, ↓aops, ↓aopsD, ↓imp_tt, ↓imp_ff, ↓imp_tf, ↓imp_ft, ↓imp_tnt, ↓imp_tnf, ↓imp_fnt, ↓imp_fnf, look, setL, resQ, argSlots, buildSt, buildArr, intsOf, eqB, keepSl, bindM, bindP, opR, okIf, ok, bad, ev, ofConst, putS, updS, S.upd, dstOk, yieldD, yieldY, strBin, isShift, cellD, retQ, resD, stripO, convR, conv2R, makeR, indexR, indexAddrR, fieldAddrR, loadR, storeR, allocR, boxR, pickR, buildR, buildSliceR, lenR, nilCheckR, extractR, funcR, ipSlice, sliceR, appendR, callR, minR, maxR, S.box, S.tok, TK.sh, known, tsize, destI, ownTok, srcI, isIn, isSl, isSt, appendI, appendL, bnd, aggBin, nilD, isPtr, fieldOf, sized, enumS, seeR, seeL, hasB, flat, flats, List.foldl_nil, List.foldl_cons, Option.getD_some, Option.getD_none, if_true, if_false, reduceIte, reduceCtorEq, Nat.reduceEqDiff, Nat.reduceAdd, Nat.reduceMul, Nat.reduceLT, Nat.reduceSub, Nat.reduceLeDiff, true_and, and_true, List.map_cons, List.map_nil, List.size_toArray, List.length_cons, List.length_nil, Option.map_some, Option.map_none, Option.bind_some, true_implies, Bool.false_eq_true, Bool.true_eq_false, false_implies, Bool.not_true, Bool.not_false, List.getElem?_cons_zero, List.getElem?_cons_succ, implies_true, and_self, Bool.and_true, Bool.true_and, BEq.rfl, and_assoc, Option.isSome_some, Option.isSome_none, List.take_succ_cons, List.take_zero, List.set_cons_zero, List.set_cons_succ, List.forall_mem_cons, List.not_mem_nil, forall_const, List.range, List.range.loop, ne_eq, not_false_eq_true, not_true_eq_false, List.cons.injEq, Prod.mk.injEq, List.append_nil, List.nil_append, List.cons_append, false_and, and_false, Bool.false_and, Bool.and_false, Nat.reduceBNe, Nat.reduceBEq, beq_self_eq_true, bne_self_eq_false, Nat.reduceBeqDiff, Bool.or_false, Bool.false_or, Bool.or_true, Bool.true_or, vs0, vs1, vs2, vs3, vs4, tys, gl0, Tryd.ntmps22, Tryd.results22, arrs_length, PF.toR, givesIf, d1, d2, d3, d4, en, hV, spec_needs, sp_needs, c_needs, b_needs]
  refine ⟨by omega, by omega, by omega, by omega, ?_⟩
  have hlen : l.length < 2000000 := by have := needs_le n i; omega
  have hz' : l = [] ∨ z = 32 := hz.imp (fun e => List.eq_nil_of_length_eq_zero (arrs_eq_nil e)) (fun e => e)
  refine loopI {x : List Int × Nat × Nat × L2 // (x.2.2.2 = [] ∨ z = 32) ∧ x.1.length = 32 ∧ x.2.1 < 10000000 ∧ x.2.2.1 ≤ 1048576 ∧ h32 x.2.2.2 ∧ x.2.2.2.length < 2000000 ∧ x.2.2.2.length = needsN x.2.1 x.2.2.1 ∧ foldN x.1 x.2.1 x.2.2.1 x.2.2.2 = foldN h i n l} (fun x => [(1, .int .i64 (x.1.2.1 : Nat)), (2, .int .i64 (x.1.2.2.1 : Nat)), (3, .sl .no z (arrs x.1.2.2.2)), (4, .bp 0 0), (8, .bp 4 0)]) (fun x => ⟨[(0, .arr .u8 32 x.1.1), (4, .arr .u8 32 (List.replicate 32 0))], [], 88⟩) (fun x => x.1.2.2.1) ⟨(h, i, n, l), hz', hh, by simp only; omega, by simp only; omega, hl, hlen, c4, rfl⟩ (fun _ => rfl) ⟨⟨wkD_eq rfl, rfl, wkD_eq rfl, rfl, wkD_eq rfl, rfl, wkD_eq rfl, rfl, wkD_eq rfl, rfl, trivial⟩, ⟨rfl, Nat.le_of_ble_eq_true rfl, rfl, rfl, Nat.le_of_ble_eq_true rfl, rfl, trivial⟩, trivial⟩ ?_
  rintro ⟨⟨x, a, b, m⟩, hmz, hx, ha, hb, hm, hml, hmn, hfo⟩
  simp only at hmz hx ha hb hm hml hmn hfo ⊢
  have q1 := half a ha
  have q2 := halfup b (by omega)
  have e4 : aloneN (a : Int).toNat (b : Int).toNat = aloneN a b := rfl
  have ev2 := even_dec a
  by_cases hb1 : b ≤ 1
  · have hd : decide ((b : Int) > 1) = false := decide_eq_false (by omega)
    rw [fold_one hb1] at hfo
    subst hfo
    simp (config := {dsimp := false}) only [↓a_range, ↓roundQ_normal, ↓roundQ_ret, ↓roundQ_exit, ↓a_skip, ↓a_exit, ↓a_ret, ↓a_seq, ↓a_cond, ↓a_block, ↓a_loop, ↓a_region, ↓a_draw, ↓a_region', ↓a_draw', ↓then_key, ↓with_key, ↓withY_key, ↓cond_key, ↓one_key, ↓thenQ_normal, ↓thenQ_exit, ↓thenQ_ret, ↓blockQ_normal, ↓blockQ_exit, ↓blockQ_ret, ↓aops, ↓aopsD, ↓imp_tt, ↓imp_ff, ↓imp_tf, ↓imp_ft, ↓imp_tnt, ↓imp_tnf, ↓imp_fnt, ↓imp_fnf, look, setL, resQ, argSlots, buildSt, buildArr, intsOf, eqB, keepSl, bindM, bindP, opR, okIf, ok, bad, ev, ofConst, putS, updS, S.upd, dstOk, yieldD, yieldY, strBin, isShift, cellD, retQ, resD, stripO, convR, conv2R, makeR, indexR, indexAddrR, fieldAddrR, loadR, storeR, allocR, boxR, pickR, buildR, buildSliceR, lenR, nilCheckR, extractR, funcR, ipSlice, sliceR, appendR, callR, minR, maxR, S.box, S.tok, TK.sh, known, tsize, destI, ownTok, srcI, isIn, isSl, isSt, appendI, appendL, bnd, aggBin, nilD, isPtr, fieldOf, sized, enumS, seeR, seeL, hasB, flat, flats, List.foldl_nil, List.foldl_cons, Option.getD_some, Option.getD_none, if_true, if_false, reduceIte, reduceCtorEq, Nat.reduceEqDiff, Nat.reduceAdd, Nat.reduceMul, Nat.reduceLT, Nat.reduceSub, Nat.reduceLeDiff, true_and, and_true, List.map_cons, List.map_nil, List.size_toArray, List.length_cons, List.length_nil, Option.map_some, Option.map_none, Option.bind_some, true_implies, Bool.false_eq_true, Bool.true_eq_false, false_implies, Bool.not_true, Bool.not_false, List.getElem?_cons_zero, List.getElem?_cons_succ, implies_true, and_self, Bool.and_true, Bool.true_and, BEq.rfl, and_assoc, Option.isSome_some, Option.isSome_none, List.take_succ_cons, List.take_zero, List.set_cons_zero, List.set_cons_succ, List.forall_mem_cons, List.not_mem_nil, forall_const, List.range, List.range.loop, ne_eq, not_false_eq_true, not_true_eq_false, List.cons.injEq, Prod.mk.injEq, List.append_nil, List.nil_append, List.cons_append, false_and, and_false, Bool.false_and, Bool.and_false, Nat.reduceBNe, Nat.reduceBEq, beq_self_eq_true, bne_self_eq_false, Nat.reduceBeqDiff, Bool.or_false, Bool.false_or, Bool.or_true, Bool.true_or, vs0, vs1, vs2, vs3, vs4, tys, gl0, Tryd.ntmps22, Tryd.results22, hd]
    exact hV.symm
  have hd : decide ((b : Int) > 1) = true := decide_eq_true (by omega)
  rw [fold_gt hb1] at hfo
  rw [needs_gt hb1] at hmn
  cases hal : aloneN a b
  · rw [hal] at hfo hmn
    simp only [Bool.false_eq_true, if_false] at hfo hmn
    obtain ⟨y, r, rfl⟩ : ∃ y r, m = y :: r := by cases m with
      | nil => simp at hmn; omega
      | cons y r => exact ⟨y, r, rfl⟩
    obtain rfl : z = 32 := hmz.resolve_left (by simp)
    have hy : y.length = 32 := hm y (List.mem_cons_self ..)
    have hr : h32 r := fun x hx => hm x (List.mem_cons_of_mem _ hx)
    have hrl : r.length + 1 < 2000000 := by simpa using hml
    have ea : arrs (y :: r) = D.arr .u8 32 y :: arrs r := rfl
    have edr : List.drop (Int.toNat 1) (List.take (((arrs r).length + 1 : Nat) : Int).toNat (D.arr .u8 32 y :: arrs r)) = arrs r := by
      rw [show Int.toNat 1 = 1 from rfl, Int.toNat_natCast, List.take_of_length_le (by simp)]
      rfl
    have hrn : r.length = needsN (a / 2) ((b + 1) / 2) := by simp at hmn; omega
    simp only [List.getD_cons_zero, List.drop_succ_cons, List.drop_zero] at hfo
    rcases Nat.mod_two_eq_zero_or_one a with h2 | h2
    · rw [if_pos h2] at hfo
      rw [decide_eq_true h2] at ev2
      simp (config := {dsimp := false}) only [↓a_range, ↓roundQ_normal, ↓roundQ_ret, ↓roundQ_exit, ↓a_skip, ↓a_exit, ↓a_ret, ↓a_seq, ↓a_cond, ↓a_block, ↓a_loop, ↓a_region, ↓a_draw, ↓a_region', ↓a_draw', ↓then_key, ↓with_key, ↓withY_key, ↓cond_key, ↓one_key, ↓thenQ_normal, ↓thenQ_exit, ↓thenQ_ret, ↓blockQ_normal, ↓blockQ_exit, ↓blockQ_ret, ↓aops, ↓aopsD, ↓imp_tt, ↓imp_ff, ↓imp_tf, ↓imp_ft, ↓imp_tnt, ↓imp_tnf, ↓imp_fnt, ↓imp_fnf, look, setL, resQ, argSlots, buildSt, buildArr, intsOf, eqB, keepSl, bindM, bindP, opR, okIf, ok, bad, ev, ofConst, putS, updS, S.upd, dstOk, yieldD, yieldY, strBin, isShift, cellD, retQ, resD, stripO, convR, conv2R, makeR, indexR, indexAddrR, fieldAddrR, loadR, storeR, allocR, boxR, pickR, buildR, buildSliceR, lenR, nilCheckR, extractR, funcR, ipSlice, sliceR, appendR, callR, minR, maxR, S.box, S.tok, TK.sh, known, tsize, destI, ownTok, srcI, isIn, isSl, isSt, appendI, appendL, bnd, aggBin, nilD, isPtr, fieldOf, sized, enumS, seeR, seeL, hasB, flat, flats, List.foldl_nil, List.foldl_cons, Option.getD_some, Option.getD_none, if_true, if_false, reduceIte, reduceCtorEq, Nat.reduceEqDiff, Nat.reduceAdd, Nat.reduceMul, Nat.reduceLT, Nat.reduceSub, Nat.reduceLeDiff, true_and, and_true, List.map_cons, List.map_nil, List.size_toArray, List.length_cons, List.length_nil, Option.map_some, Option.map_none, Option.bind_some, true_implies, Bool.false_eq_true, Bool.true_eq_false, false_implies, Bool.not_true, Bool.not_false, List.getElem?_cons_zero, List.getElem?_cons_succ, implies_true, and_self, Bool.and_true, Bool.true_and, BEq.rfl, and_assoc, Option.isSome_some, Option.isSome_none, List.take_succ_cons, List.take_zero, List.set_cons_zero, List.set_cons_succ, List.forall_mem_cons, List.not_mem_nil, forall_const, List.range, List.range.loop, ne_eq, not_false_eq_true, not_true_eq_false, List.cons.injEq, Prod.mk.injEq, List.append_nil, List.nil_append, List.cons_append, false_and, and_false, Bool.false_and, Bool.and_false, Nat.reduceBNe, Nat.reduceBEq, beq_self_eq_true, bne_self_eq_false, Nat.reduceBeqDiff, Bool.or_false, Bool.false_or, Bool.or_true, Bool.true_or, vs0, vs1, vs2, vs3, vs4, tys, gl0, Tryd.ntmps22, Tryd.results22, PF.toR, givesIf, hd, e4, hal, ev2, ea, spec_alone, sp_alone, c_alone, b_alone]
      refine ⟨by omega, by omega, by omega, by omega, by decide, ?_⟩
      refine drawI [3, 4, 1, 2, 8] (by kernel_rfl) ?_
      simp (config := {dsimp := false}) only [↓a_range, ↓roundQ_normal, ↓roundQ_ret, ↓roundQ_exit, ↓a_skip, ↓a_exit, ↓a_ret, ↓a_seq, ↓a_cond, ↓a_block, ↓a_loop, ↓a_region, ↓a_draw, ↓a_region', ↓a_draw', ↓then_key, ↓with_key, ↓withY_key, ↓cond_key, ↓one_key, ↓thenQ_normal, ↓thenQ_exit, ↓thenQ_ret, ↓blockQ_normal, ↓blockQ_exit, ↓blockQ_ret, ↓aops, ↓aopsD, ↓imp_tt, ↓imp_ff, ↓imp_tf, ↓imp_ft, ↓imp_tnt, ↓imp_tnf, ↓imp_fnt, ↓imp_fnf, look, setL, resQ, argSlots, buildSt, buildArr, intsOf, eqB, keepSl, bindM, bindP, opR, okIf, ok, bad, ev, ofConst, putS, updS, S.upd, dstOk, yieldD, yieldY, strBin, isShift, cellD, retQ, resD, stripO, convR, conv2R, makeR, indexR, indexAddrR, fieldAddrR, loadR, storeR, allocR, boxR, pickR, buildR, buildSliceR, lenR, nilCheckR, extractR, funcR, ipSlice, sliceR, appendR, callR, minR, maxR, S.box, S.tok, TK.sh, known, tsize, destI, ownTok, srcI, isIn, isSl, isSt, appendI, appendL, bnd, aggBin, nilD, isPtr, fieldOf, sized, enumS, seeR, seeL, hasB, flat, flats, List.foldl_nil, List.foldl_cons, Option.getD_some, Option.getD_none, if_true, if_false, reduceIte, reduceCtorEq, Nat.reduceEqDiff, Nat.reduceAdd, Nat.reduceMul, Nat.reduceLT, Nat.reduceSub, Nat.reduceLeDiff, true_and, and_true, List.map_cons, List.map_nil, List.size_toArray, List.length_cons, List.length_nil, Option.map_some, Option.map_none, Option.bind_some, true_implies, Bool.false_eq_true, Bool.true_eq_false, false_implies, Bool.not_true, Bool.not_false, List.getElem?_cons_zero, List.getElem?_cons_succ, implies_true, and_self, Bool.and_true, Bool.true_and, BEq.rfl, and_assoc, Option.isSome_some, Option.isSome_none, List.take_succ_cons, List.take_zero, List.set_cons_zero, List.set_cons_succ, List.forall_mem_cons, List.not_mem_nil, forall_const, List.range, List.range.loop, ne_eq, not_false_eq_true, not_true_eq_false, List.cons.injEq, Prod.mk.injEq, List.append_nil, List.nil_append, List.cons_append, false_and, and_false, Bool.false_and, Bool.and_false, Nat.reduceBNe, Nat.reduceBEq, beq_self_eq_true, bne_self_eq_false, Nat.reduceBeqDiff, Bool.or_false, Bool.false_or, Bool.or_true, Bool.true_or, vs0, vs1, vs2, vs3, vs4, tys, gl0, Tryd.ntmps22, Tryd.results22, PF.toR, givesIf, q1, q2, hx, hy, List.length_append, show Int.toNat 0 = 0 from rfl, List.getD_cons_zero, edr, spec_pair, sp_pair, c_pair, b_pair, spec_twice, sp_twice, c_twice, b_twice]
      exact ⟨by decide, by omega, by kernel_rfl, by decide, by omega, by omega, .inr trivial, by decide, by decide, ⟨(H2 x y, a / 2, (b + 1) / 2, r), .inr rfl, H2_len _ _, by simp only; omega, by simp only; omega, hr, by simp only; omega, hrn, hfo⟩, ⟨⟨wkD_eq rfl, rfl, wkD_eq rfl, rfl, wkD_eq rfl, rfl, wkD_eq rfl, rfl, wkD_eq rfl, rfl, trivial⟩, ⟨rfl, Nat.le_of_ble_eq_true rfl, rfl, rfl, Nat.le_of_ble_eq_true rfl, rfl, trivial⟩, trivial⟩, by (try simp only); omega⟩
    · rw [if_neg (show ¬ a % 2 = 0 by omega)] at hfo
      rw [decide_eq_false (show ¬ a % 2 = 0 by omega)] at ev2
      simp (config := {dsimp := false}) only [↓a_range, ↓roundQ_normal, ↓roundQ_ret, ↓roundQ_exit, ↓a_skip, ↓a_exit, ↓a_ret, ↓a_seq, ↓a_cond, ↓a_block, ↓a_loop, ↓a_region, ↓a_draw, ↓a_region', ↓a_draw', ↓then_key, ↓with_key, ↓withY_key, ↓cond_key, ↓one_key, ↓thenQ_normal, ↓thenQ_exit, ↓thenQ_ret, ↓blockQ_normal, ↓blockQ_exit, ↓blockQ_ret, ↓aops, ↓aopsD, ↓imp_tt, ↓imp_ff, ↓imp_tf, ↓imp_ft, ↓imp_tnt, ↓imp_tnf, ↓imp_fnt, ↓imp_fnf, look, setL, resQ, argSlots, buildSt, buildArr, intsOf, eqB, keepSl, bindM, bindP, opR, okIf, ok, bad, ev, ofConst, putS, updS, S.upd, dstOk, yieldD, yieldY, strBin, isShift, cellD, retQ, resD, stripO, convR, conv2R, makeR, indexR, indexAddrR, fieldAddrR, loadR, storeR, allocR, boxR, pickR, buildR, buildSliceR, lenR, nilCheckR, extractR, funcR, ipSlice, sliceR, appendR, callR, minR, maxR, S.box, S.tok, TK.sh, known, tsize, destI, ownTok, srcI, isIn, isSl, isSt, appendI, appendL, bnd, aggBin, nilD, isPtr, fieldOf, sized, enumS, seeR, seeL, hasB, flat, flats, List.foldl_nil, List.foldl_cons, Option.getD_some, Option.getD_none, if_true, if_false, reduceIte, reduceCtorEq, Nat.reduceEqDiff, Nat.reduceAdd, Nat.reduceMul, Nat.reduceLT, Nat.reduceSub, Nat.reduceLeDiff, true_and, and_true, List.map_cons, List.map_nil, List.size_toArray, List.length_cons, List.length_nil, Option.map_some, Option.map_none, Option.bind_some, true_implies, Bool.false_eq_true, Bool.true_eq_false, false_implies, Bool.not_true, Bool.not_false, List.getElem?_cons_zero, List.getElem?_cons_succ, implies_true, and_self, Bool.and_true, Bool.true_and, BEq.rfl, and_assoc, Option.isSome_some, Option.isSome_none, List.take_succ_cons, List.take_zero, List.set_cons_zero, List.set_cons_succ, List.forall_mem_cons, List.not_mem_nil, forall_const, List.range, List.range.loop, ne_eq, not_false_eq_true, not_true_eq_false, List.cons.injEq, Prod.mk.injEq, List.append_nil, List.nil_append, List.cons_append, false_and, and_false, Bool.false_and, Bool.and_false, Nat.reduceBNe, Nat.reduceBEq, beq_self_eq_true, bne_self_eq_false, Nat.reduceBeqDiff, Bool.or_false, Bool.false_or, Bool.or_true, Bool.true_or, vs0, vs1, vs2, vs3, vs4, tys, gl0, Tryd.ntmps22, Tryd.results22, PF.toR, givesIf, hd, e4, hal, ev2, ea, spec_alone, sp_alone, c_alone, b_alone]
      refine ⟨by omega, by omega, by omega, by omega, by decide, ?_⟩
      refine drawI [3, 4, 1, 2, 8] (by kernel_rfl) ?_
      simp (config := {dsimp := false}) only [↓a_range, ↓roundQ_normal, ↓roundQ_ret, ↓roundQ_exit, ↓a_skip, ↓a_exit, ↓a_ret, ↓a_seq, ↓a_cond, ↓a_block, ↓a_loop, ↓a_region, ↓a_draw, ↓a_region', ↓a_draw', ↓then_key, ↓with_key, ↓withY_key, ↓cond_key, ↓one_key, ↓thenQ_normal, ↓thenQ_exit, ↓thenQ_ret, ↓blockQ_normal, ↓blockQ_exit, ↓blockQ_ret, ↓aops, ↓aopsD, ↓imp_tt, ↓imp_ff, ↓imp_tf, ↓imp_ft, ↓imp_tnt, ↓imp_tnf, ↓imp_fnt, ↓imp_fnf, look, setL, resQ, argSlots, buildSt, buildArr, intsOf, eqB, keepSl, bindM, bindP, opR, okIf, ok, bad, ev, ofConst, putS, updS, S.upd, dstOk, yieldD, yieldY, strBin, isShift, cellD, retQ, resD, stripO, convR, conv2R, makeR, indexR, indexAddrR, fieldAddrR, loadR, storeR, allocR, boxR, pickR, buildR, buildSliceR, lenR, nilCheckR, extractR, funcR, ipSlice, sliceR, appendR, callR, minR, maxR, S.box, S.tok, TK.sh, known, tsize, destI, ownTok, srcI, isIn, isSl, isSt, appendI, appendL, bnd, aggBin, nilD, isPtr, fieldOf, sized, enumS, seeR, seeL, hasB, flat, flats, List.foldl_nil, List.foldl_cons, Option.getD_some, Option.getD_none, if_true, if_false, reduceIte, reduceCtorEq, Nat.reduceEqDiff, Nat.reduceAdd, Nat.reduceMul, Nat.reduceLT, Nat.reduceSub, Nat.reduceLeDiff, true_and, and_true, List.map_cons, List.map_nil, List.size_toArray, List.length_cons, List.length_nil, Option.map_some, Option.map_none, Option.bind_some, true_implies, Bool.false_eq_true, Bool.true_eq_false, false_implies, Bool.not_true, Bool.not_false, List.getElem?_cons_zero, List.getElem?_cons_succ, implies_true, and_self, Bool.and_true, Bool.true_and, BEq.rfl, and_assoc, Option.isSome_some, Option.isSome_none, List.take_succ_cons, List.take_zero, List.set_cons_zero, List.set_cons_succ, List.forall_mem_cons, List.not_mem_nil, forall_const, List.range, List.range.loop, ne_eq, not_false_eq_true, not_true_eq_false, List.cons.injEq, Prod.mk.injEq, List.append_nil, List.nil_append, List.cons_append, false_and, and_false, Bool.false_and, Bool.and_false, Nat.reduceBNe, Nat.reduceBEq, beq_self_eq_true, bne_self_eq_false, Nat.reduceBeqDiff, Bool.or_false, Bool.false_or, Bool.or_true, Bool.true_or, vs0, vs1, vs2, vs3, vs4, tys, gl0, Tryd.ntmps22, Tryd.results22, PF.toR, givesIf, q1, q2, hx, hy, List.length_append, show Int.toNat 0 = 0 from rfl, List.getD_cons_zero, edr, spec_pair, sp_pair, c_pair, b_pair, spec_twice, sp_twice, c_twice, b_twice]
      exact ⟨by decide, by omega, by kernel_rfl, by decide, by omega, by omega, .inr trivial, by decide, by decide, ⟨(H2 y x, a / 2, (b + 1) / 2, r), .inr rfl, H2_len _ _, by simp only; omega, by simp only; omega, hr, by simp only; omega, hrn, hfo⟩, ⟨⟨wkD_eq rfl, rfl, wkD_eq rfl, rfl, wkD_eq rfl, rfl, wkD_eq rfl, rfl, wkD_eq rfl, rfl, trivial⟩, ⟨rfl, Nat.le_of_ble_eq_true rfl, rfl, rfl, Nat.le_of_ble_eq_true rfl, rfl, trivial⟩, trivial⟩, by (try simp only); omega⟩
  · rw [hal] at hfo hmn
    simp only [if_true] at hfo hmn
    simp (config := {dsimp := false}) only [↓a_range, ↓roundQ_normal, ↓roundQ_ret, ↓roundQ_exit, ↓a_skip, ↓a_exit, ↓a_ret, ↓a_seq, ↓a_cond, ↓a_block, ↓a_loop, ↓a_region, ↓a_draw, ↓a_region', ↓a_draw', ↓then_key, ↓with_key, ↓withY_key, ↓cond_key, ↓one_key, ↓thenQ_normal, ↓thenQ_exit, ↓thenQ_ret, ↓blockQ_normal, ↓blockQ_exit, ↓blockQ_ret, ↓aops, ↓aopsD, ↓imp_tt, ↓imp_ff, ↓imp_tf, ↓imp_ft, ↓imp_tnt, ↓imp_tnf, ↓imp_fnt, ↓imp_fnf, look, setL, resQ, argSlots, buildSt, buildArr, intsOf, eqB, keepSl, bindM, bindP, opR, okIf, ok, bad, ev, ofConst, putS, updS, S.upd, dstOk, yieldD, yieldY, strBin, isShift, cellD, retQ, resD, stripO, convR, conv2R, makeR, indexR, indexAddrR, fieldAddrR, loadR, storeR, allocR, boxR, pickR, buildR, buildSliceR, lenR, nilCheckR, extractR, funcR, ipSlice, sliceR, appendR, callR, minR, maxR, S.box, S.tok, TK.sh, known, tsize, destI, ownTok, srcI, isIn, isSl, isSt, appendI, appendL, bnd, aggBin, nilD, isPtr, fieldOf, sized, enumS, seeR, seeL, hasB, flat, flats, List.foldl_nil, List.foldl_cons, Option.getD_some, Option.getD_none, if_true, if_false, reduceIte, reduceCtorEq, Nat.reduceEqDiff, Nat.reduceAdd, Nat.reduceMul, Nat.reduceLT, Nat.reduceSub, Nat.reduceLeDiff, true_and, and_true, List.map_cons, List.map_nil, List.size_toArray, List.length_cons, List.length_nil, Option.map_some, Option.map_none, Option.bind_some, true_implies, Bool.false_eq_true, Bool.true_eq_false, false_implies, Bool.not_true, Bool.not_false, List.getElem?_cons_zero, List.getElem?_cons_succ, implies_true, and_self, Bool.and_true, Bool.true_and, BEq.rfl, and_assoc, Option.isSome_some, Option.isSome_none, List.take_succ_cons, List.take_zero, List.set_cons_zero, List.set_cons_succ, List.forall_mem_cons, List.not_mem_nil, forall_const, List.range, List.range.loop, ne_eq, not_false_eq_true, not_true_eq_false, List.cons.injEq, Prod.mk.injEq, List.append_nil, List.nil_append, List.cons_append, false_and, and_false, Bool.false_and, Bool.and_false, Nat.reduceBNe, Nat.reduceBEq, beq_self_eq_true, bne_self_eq_false, Nat.reduceBeqDiff, Bool.or_false, Bool.false_or, Bool.or_true, Bool.true_or, vs0, vs1, vs2, vs3, vs4, tys, gl0, Tryd.ntmps22, Tryd.results22, PF.toR, givesIf, hd, e4, hal, q1, q2, hx, List.length_append, spec_alone, sp_alone, c_alone, b_alone, spec_pair, sp_pair, c_pair, b_pair, spec_twice, sp_twice, c_twice, b_twice]
    exact ⟨by omega, by omega, by omega, by omega, by decide, by decide, ⟨(H2 x x, a / 2, (b + 1) / 2, m), hmz, H2_len _ _, by simp only; omega, by simp only; omega, hm, hml, by simp only; omega, hfo⟩, ⟨⟨wkD_eq rfl, rfl, wkD_eq rfl, rfl, wkD_eq rfl, rfl, wkD_eq rfl, rfl, wkD_eq rfl, rfl, trivial⟩, ⟨rfl, Nat.le_of_ble_eq_true rfl, rfl, rfl, Nat.le_of_ble_eq_true rfl, rfl, trivial⟩, trivial⟩, by (try simp only); omega⟩
theorem c_refFold : Contract E 23 := by
  refine contract_see hE hgl (show E.P.funcs[23]? = some Tryd.f23 from Tryd.func23) rfl (p := sp_refFold) (fun _ _ _ => rfl) ?_
  intro args hv
  unfold sp_refFold at hv ⊢
  split at hv
  case h_2 => exact hv.elim
  rename_i h i n z es
  refine ⟨by simp, Nat.le_of_ble_eq_true rfl, ?_⟩
  simp only [givesIf] at hv
  obtain ⟨hh, hz, ⟨l, rfl, hl⟩, hlen, hbh, hby⟩ := hv
  rw [arrs_length] at hlen
  rw [hs_arrs] at hby
  change awp E Tryd.f23.ntmps _ (retQ E Tryd.f23 (foldV h i n (hs (arrs l)))) _ _
  rw [hs_arrs]
  by_cases c1 : i < 0
  · have d1 : decide (i < 0) = true := decide_eq_true c1
    have hV : foldV h i n l = .tup [.arr .u8 32 (List.replicate 32 0), .bool false] := if_pos (.inl c1)
    simp (config := {dsimp := false}) only [↓a_range, ↓roundQ_normal, ↓roundQ_ret, ↓roundQ_exit, ↓a_skip, ↓a_exit, ↓a_ret, ↓a_seq, ↓a_cond, ↓a_block, ↓a_loop, ↓a_region, ↓a_draw, ↓a_region', ↓a_draw', ↓then_key, ↓with_key, ↓withY_key, ↓cond_key, ↓one_key, ↓thenQ_normal, ↓thenQ_exit, ↓thenQ_ret, ↓blockQ_normal, ↓blockQ_exit, ↓blockQ_ret, ↓aops, ↓aopsD, ↓imp_tt, ↓imp_ff, ↓imp_tf, ↓imp_ft, ↓imp_tnt, ↓imp_tnf, ↓imp_fnt, ↓imp_fnf, look, setL, resQ, argSlots, buildSt, buildArr, intsOf, eqB, keepSl, bindM, bindP, opR, okIf, ok, bad, ev, ofConst, putS, updS, S.upd, dstOk, yieldD, yieldY, strBin, isShift, cellD, retQ, resD, stripO, convR, conv2R, makeR, indexR, indexAddrR, fieldAddrR, loadR, storeR, allocR, boxR, pickR, buildR, buildSliceR, lenR, nilCheckR, extractR, funcR, ipSlice, sliceR, appendR, callR, minR, maxR, S.box, S.tok, TK.sh, known, tsize, destI, ownTok, srcI, isIn, isSl, isSt, appendI, appendL, bnd, aggBin, nilD, isPtr, fieldOf, sized, enumS, seeR, seeL, hasB, flat, flats, List.foldl_nil, List.foldl_cons, Option.getD_some, Option.getD_none, if_true, if_false, reduceIte, reduceCtorEq, Nat.reduceEqDiff, Nat.reduceAdd, Nat.reduceMul, Nat.reduceLT, Nat.reduceSub, Nat.reduceLeDiff, true_and, and_true, List.map_cons, List.map_nil, List.size_toArray, List.length_cons, List.length_nil, Option.map_some, Option.map_none, Option.bind_some, true_implies, Bool.false_eq_true, Bool.true_eq_false, false_implies, Bool.not_true, Bool.not_false, List.getElem?_cons_zero, List.getElem?_cons_succ, implies_true, and_self, Bool.and_true, Bool.true_and, BEq.rfl, and_assoc, Option.isSome_some, Option.isSome_none, List.take_succ_cons, List.take_zero, List.set_cons_zero, List.set_cons_succ, List.forall_mem_cons, List.not_mem_nil, forall_const, List.range, List.range.loop, ne_eq, not_false_eq_true, not_true_eq_false, List.cons.injEq, Prod.mk.injEq, List.append_nil, List.nil_append, List.cons_append, false_and, and_false, Bool.false_and, Bool.and_false, Nat.reduceBNe, Nat.reduceBEq, beq_self_eq_true, bne_self_eq_false, Nat.reduceBeqDiff, Bool.or_false, Bool.false_or, Bool.or_true, Bool.true_or, vs0, vs1, vs2, vs3, vs4, tys, gl0, Tryd.ntmps23, Tryd.results23, arrs_length, d1, hV]
  have d1 : decide (i < 0) = false := decide_eq_false c1
  by_cases c2 : i ≥ n
  · have d2 : decide (i ≥ n) = true := decide_eq_true c2
    have hV : foldV h i n l = .tup [.arr .u8 32 (List.replicate 32 0), .bool false] := if_pos (.inr (.inl c2))
    simp (config := {dsimp := false}) only [↓a_range, ↓roundQ_normal, ↓roundQ_ret, ↓roundQ_exit, ↓a_skip, ↓a_exit, ↓a_ret, ↓a_seq, ↓a_cond, ↓a_block, ↓a_loop, ↓a_region, ↓a_draw, ↓a_region', ↓a_draw', ↓then_key, ↓with_key, ↓withY_key, ↓cond_key, ↓one_key, ↓thenQ_normal, ↓thenQ_exit, ↓thenQ_ret, ↓blockQ_normal, ↓blockQ_exit, ↓blockQ_ret, ↓aops, ↓aopsD, ↓imp_tt, ↓imp_ff, ↓imp_tf, ↓imp_ft, ↓imp_tnt, ↓imp_tnf, ↓imp_fnt, ↓imp_fnf, look, setL, resQ, argSlots, buildSt, buildArr, intsOf, eqB, keepSl, bindM, bindP, opR, okIf, ok, bad, ev, ofConst, putS, updS, S.upd, dstOk, yieldD, yieldY, strBin, isShift, cellD, retQ, resD, stripO, convR, conv2R, makeR, indexR, indexAddrR, fieldAddrR, loadR, storeR, allocR, boxR, pickR, buildR, buildSliceR, lenR, nilCheckR, extractR, funcR, ipSlice, sliceR, appendR, callR, minR, maxR, S.box, S.tok, TK.sh, known, tsize, destI, ownTok, srcI, isIn, isSl, isSt, appendI, appendL, bnd, aggBin, nilD, isPtr, fieldOf, sized, enumS, seeR, seeL, hasB, flat, flats, List.foldl_nil, List.foldl_cons, Option.getD_some, Option.getD_none, if_true, if_false, reduceIte, reduceCtorEq, Nat.reduceEqDiff, Nat.reduceAdd, Nat.reduceMul, Nat.reduceLT, Nat.reduceSub, Nat.reduceLeDiff, true_and, and_true, List.map_cons, List.map_nil, List.size_toArray, List.length_cons, List.length_nil, Option.map_some, Option.map_none, Option.bind_some, true_implies, Bool.false_eq_true, Bool.true_eq_false, false_implies, Bool.not_true, Bool.not_false, List.getElem?_cons_zero, List.getElem?_cons_succ, implies_true, and_self, Bool.and_true, Bool.true_and, BEq.rfl, and_assoc, Option.isSome_some, Option.isSome_none, List.take_succ_cons, List.take_zero, List.set_cons_zero, List.set_cons_succ, List.forall_mem_cons, List.not_mem_nil, forall_const, List.range, List.range.loop, ne_eq, not_false_eq_true, not_true_eq_false, List.cons.injEq, Prod.mk.injEq, List.append_nil, List.nil_append, List.cons_append, false_and, and_false, Bool.false_and, Bool.and_false, Nat.reduceBNe, Nat.reduceBEq, beq_self_eq_true, bne_self_eq_false, Nat.reduceBeqDiff, Bool.or_false, Bool.false_or, Bool.or_true, Bool.true_or, vs0, vs1, vs2, vs3, vs4, tys, gl0, Tryd.ntmps23, Tryd.results23, arrs_length, d1, d2, hV]
  have d2 : decide (i ≥ n) = false := decide_eq_false c2
  by_cases c3 : n > 1048576
  · have d3 : decide (n > 1048576) = true := decide_eq_true c3
    have hV : foldV h i n l = .tup [.arr .u8 32 (List.replicate 32 0), .bool false] := if_pos (.inr (.inr (.inl c3)))
    simp (config := {dsimp := false}) only [↓a_range, ↓roundQ_normal, ↓roundQ_ret, ↓roundQ_exit, ↓a_skip, ↓a_exit, ↓a_ret, ↓a_seq, ↓a_cond, ↓a_block, ↓a_loop, ↓a_region, ↓a_draw, ↓a_region', ↓a_draw', ↓then_key, ↓with_key, ↓withY_key, ↓cond_key, ↓one_key, ↓thenQ_normal, ↓thenQ_exit, ↓thenQ_ret, ↓blockQ_normal, ↓blockQ_exit, ↓blockQ_ret, ↓aops, ↓aopsD, ↓imp_tt, ↓imp_ff, ↓imp_tf, ↓imp_ft, ↓imp_tnt, ↓imp_tnf, ↓imp_fnt, ↓imp_fnf, look, setL, resQ, argSlots, buildSt, buildArr, intsOf, eqB, keepSl, bindM, bindP, opR, okIf, ok, bad, ev, ofConst, putS, updS, S.upd, dstOk, yieldD, yieldY, strBin, isShift, cellD, retQ, resD, stripO, convR, conv2R, makeR, indexR, indexAddrR, fieldAddrR, loadR, storeR, allocR, boxR, pickR, buildR, buildSliceR, lenR, nilCheckR, extractR, funcR, ipSlice, sliceR, appendR, callR, minR, maxR, S.box, S.tok, TK.sh, known, tsize, destI, ownTok, srcI, isIn, isSl, isSt, appendI, appendL, bnd, aggBin, nilD, isPtr, fieldOf, sized, enumS, seeR, seeL, hasB, flat, flats, List.foldl_nil, List.foldl_cons, Option.getD_some, Option.getD_none, if_true, if_false, reduceIte, reduceCtorEq, Nat.reduceEqDiff, Nat.reduceAdd, Nat.reduceMul, Nat.reduceLT, Nat.reduceSub, Nat.reduceLeDiff, true_and, and_true, List.map_cons, List.map_nil, List.size_toArray, List.length_cons, List.length_nil, Option.map_some, Option.map_none, Option.bind_some, true_implies, Bool.false_eq_true, Bool.true_eq_false, false_implies, Bool.not_true, Bool.not_false, List.getElem?_cons_zero, List.getElem?_cons_succ, implies_true, and_self, Bool.and_true, Bool.true_and, BEq.rfl, and_assoc, Option.isSome_some, Option.isSome_none, List.take_succ_cons, List.take_zero, List.set_cons_zero, List.set_cons_succ, List.forall_mem_cons, List.not_mem_nil, forall_const, List.range, List.range.loop, ne_eq, not_false_eq_true, not_true_eq_false, List.cons.injEq, Prod.mk.injEq, List.append_nil, List.nil_append, List.cons_append, false_and, and_false, Bool.false_and, Bool.and_false, Nat.reduceBNe, Nat.reduceBEq, beq_self_eq_true, bne_self_eq_false, Nat.reduceBeqDiff, Bool.or_false, Bool.false_or, Bool.or_true, Bool.true_or, vs0, vs1, vs2, vs3, vs4, tys, gl0, Tryd.ntmps23, Tryd.results23, arrs_length, d1, d2, d3, hV]
  have d3 : decide (n > 1048576) = false := decide_eq_false c3
  obtain ⟨i, rfl⟩ : ∃ k : Nat, i = (k : Int) := ⟨i.toNat, by omega⟩
  obtain ⟨n, rfl⟩ : ∃ k : Nat, n = (k : Int) := ⟨n.toNat, by omega⟩
  have en : needsN (i : Int).toNat (n : Int).toNat = needsN i n := rfl
  have hVn : ¬ l.length = needsN i n → foldV h i n l = .tup [.arr .u8 32 (List.replicate 32 0), .bool false] := fun c4 => if_pos (.inr (.inr (.inr c4)))
  have hVy : l.length = needsN i n → foldV h i n l = .tup [.arr .u8 32 (foldN h i n l), .bool true] := fun c4 => if_neg (by rw [en]; omega)
  have hnl := needs_le n i
  generalize foldV h i n l = V at hVn hVy ⊢
  simp (config := {dsimp := false}) only [↓a_range, ↓roundQ_normal, ↓roundQ_ret, ↓roundQ_exit, ↓a_skip, ↓a_exit, ↓a_ret, ↓a_seq, ↓a_cond, ↓a_block, ↓a_loop, ↓a_region, ↓a_draw, ↓a_region', ↓a_draw', ↓then_key, ↓with_key, ↓withY_key, ↓cond_key, ↓one_key, ↓thenQ_normal, ↓thenQ_exit, ↓thenQ_ret, ↓blockQ_normal, ↓blockQ_exit, ↓blockQ_ret, ↓aops, ↓aopsD, ↓imp_tt, ↓imp_ff, ↓imp_tf, ↓imp_ft, ↓imp_tnt, ↓imp_tnf, ↓imp_fnt, ↓imp_fnf, look, setL, resQ, argSlots, buildSt, buildArr, intsOf, eqB, keepSl, bindM, bindP, opR, okIf, ok, bad, ev, ofConst, putS, updS, S.upd, dstOk, yieldD, yieldY, strBin, isShift, cellD, retQ, resD, stripO, convR, conv2R, makeR, indexR, indexAddrR, fieldAddrR, loadR, storeR, allocR, boxR, pickR, buildR, buildSliceR, lenR, nilCheckR, extractR, funcR, ipSlice, sliceR, appendR, callR, minR, maxR, S.box, S.tok, TK.sh, known, tsize, destI, ownTok, srcI, isIn, isSl, isSt, appendI, appendL, bnd, aggBin, nilD, isPtr, fieldOf, sized, enumS, seeR, seeL, hasB, flat, flats, List.foldl_nil, List.foldl_cons, Option.getD_some, Option.getD_none, if_true, if_false, reduceIte, reduceCtorEq, Nat.reduceEqDiff, Nat.reduceAdd, Nat.reduceMul, Nat.reduceLT, Nat.reduceSub, Nat.reduceLeDiff, true_and, and_true, List.map_cons, List.map_nil, List.size_toArray, List.length_cons, List.length_nil, Option.map_some, Option.map_none, Option.bind_some, true_implies, Bool.false_eq_true, Bool.true_eq_false, false_implies, Bool.not_true, Bool.not_false, List.getElem?_cons_zero, List.getElem?_cons_succ, implies_true, and_self, Bool.and_true, Bool.true_and, BEq.rfl, and_assoc, Option.isSome_some, Option.isSome_none, List.take_succ_cons, List.take_zero, List.set_cons_zero, List.set_cons_succ, List.forall_mem_cons, List.not_mem_nil, forall_const, List.range, List.range.loop, ne_eq, not_false_eq_true, not_true_eq_false, List.cons.injEq, Prod.mk.injEq, List.append_nil, List.nil_append, List.cons_append, false_and, and_false, Bool.false_and, Bool.and_false, Nat.reduceBNe, Nat.reduceBEq, beq_self_eq_true, bne_self_eq_false, Nat.reduceBeqDiff, Bool.or_false, Bool.false_or, Bool.or_true, Bool.true_or, vs0, vs1, vs2, vs3, vs4, tys, gl0, Tryd.ntmps23, Tryd.results23, arrs_length, d1, d2, d3]
  refine loopI {x : List Int × Nat × Nat × Nat // (x.1.length = 32 ∧ bytes x.1) ∧ (x.2.1 < x.2.2.1 ∧ x.2.1 < 10000000) ∧ x.2.2.1 ≤ 1048576 ∧ x.2.2.2 ≤ l.length ∧ x.2.2.2 + needsN x.2.1 x.2.2.1 = needsN i n ∧ foldN x.1 x.2.1 x.2.2.1 (l.drop x.2.2.2) = foldN h i n l} (fun x => [(1, .int .i64 (x.1.2.1 : Nat)), (2, .int .i64 (x.1.2.2.1 : Nat)), (10, .int .i64 (x.1.2.2.2 : Nat)), (3, .sl .no z (arrs l)), (4, .bp 0 0), (8, .bp 4 0)]) (fun x => ⟨[(0, .arr .u8 32 x.1.1), (4, .arr .u8 32 (List.replicate 32 0))], [], 60⟩) (fun x => x.1.2.2.1) ⟨(h, i, n, 0), ⟨hh, hbh⟩, ⟨by simp only; omega, by simp only; omega⟩, by simp only; omega, Nat.zero_le _, by simp only; omega, rfl⟩ (fun _ => rfl) ⟨⟨wkD_eq rfl, rfl, wkD_eq rfl, rfl, wkD_eq rfl, rfl, wkD_eq rfl, rfl, wkD_eq rfl, rfl, wkD_eq rfl, rfl, trivial⟩, ⟨rfl, Nat.le_of_ble_eq_true rfl, rfl, rfl, Nat.le_of_ble_eq_true rfl, rfl, trivial⟩, trivial⟩ ?_
  rintro ⟨⟨x, a, b, m⟩, ⟨hx, hbx⟩, ⟨hab, ha⟩, hb, hml, hmn, hfo⟩
  simp only at hx hbx hab ha hb hml hmn hfo ⊢
  have q1 := half a ha
  have q2 := halfup b (by omega)
  have ev2 := even_dec a
  have w1 : IntKind.wrap .i64 ((a : Int) + 1) = (a : Int) + 1 := IntWalk.i64_in _ (by omega)
  have w2 : IntKind.wrap .i64 ((m : Int) + 1) = ((m + 1 : Nat) : Int) := by rw [IntWalk.i64_in _ (by omega)]; omega
  have hbS : bytes (sumP (sumP (x ++ x))) := bytes_sum _
  by_cases hb1 : b ≤ 1
  · have hd : decide ((b : Int) > 1) = false := decide_eq_false (by omega)
    rw [fold_one hb1] at hfo
    rw [needs_one hb1] at hmn
    subst hfo
    by_cases h4 : l.length = m
    · have d4 : decide ((m : Int) = (l.length : Int)) = true := decide_eq_true (by omega)
      rw [hVy (by omega)]
      simp (config := {dsimp := false}) only [↓a_range, ↓roundQ_normal, ↓roundQ_ret, ↓roundQ_exit, ↓a_skip, ↓a_exit, ↓a_ret, ↓a_seq, ↓a_cond, ↓a_block, ↓a_loop, ↓a_region, ↓a_draw, ↓a_region', ↓a_draw', ↓then_key, ↓with_key, ↓withY_key, ↓cond_key, ↓one_key, ↓thenQ_normal, ↓thenQ_exit, ↓thenQ_ret, ↓blockQ_normal, ↓blockQ_exit, ↓blockQ_ret, ↓aops, ↓aopsD, ↓imp_tt, ↓imp_ff, ↓imp_tf, ↓imp_ft, ↓imp_tnt, ↓imp_tnf, ↓imp_fnt, ↓imp_fnf, look, setL, resQ, argSlots, buildSt, buildArr, intsOf, eqB, keepSl, bindM, bindP, opR, okIf, ok, bad, ev, ofConst, putS, updS, S.upd, dstOk, yieldD, yieldY, strBin, isShift, cellD, retQ, resD, stripO, convR, conv2R, makeR, indexR, indexAddrR, fieldAddrR, loadR, storeR, allocR, boxR, pickR, buildR, buildSliceR, lenR, nilCheckR, extractR, funcR, ipSlice, sliceR, appendR, callR, minR, maxR, S.box, S.tok, TK.sh, known, tsize, destI, ownTok, srcI, isIn, isSl, isSt, appendI, appendL, bnd, aggBin, nilD, isPtr, fieldOf, sized, enumS, seeR, seeL, hasB, flat, flats, List.foldl_nil, List.foldl_cons, Option.getD_some, Option.getD_none, if_true, if_false, reduceIte, reduceCtorEq, Nat.reduceEqDiff, Nat.reduceAdd, Nat.reduceMul, Nat.reduceLT, Nat.reduceSub, Nat.reduceLeDiff, true_and, and_true, List.map_cons, List.map_nil, List.size_toArray, List.length_cons, List.length_nil, Option.map_some, Option.map_none, Option.bind_some, true_implies, Bool.false_eq_true, Bool.true_eq_false, false_implies, Bool.not_true, Bool.not_false, List.getElem?_cons_zero, List.getElem?_cons_succ, implies_true, and_self, Bool.and_true, Bool.true_and, BEq.rfl, and_assoc, Option.isSome_some, Option.isSome_none, List.take_succ_cons, List.take_zero, List.set_cons_zero, List.set_cons_succ, List.forall_mem_cons, List.not_mem_nil, forall_const, List.range, List.range.loop, ne_eq, not_false_eq_true, not_true_eq_false, List.cons.injEq, Prod.mk.injEq, List.append_nil, List.nil_append, List.cons_append, false_and, and_false, Bool.false_and, Bool.and_false, Nat.reduceBNe, Nat.reduceBEq, beq_self_eq_true, bne_self_eq_false, Nat.reduceBeqDiff, Bool.or_false, Bool.false_or, Bool.or_true, Bool.true_or, vs0, vs1, vs2, vs3, vs4, tys, gl0, Tryd.ntmps23, Tryd.results23, arrs_length, hd, d4]
    · have d4 : decide ((m : Int) = (l.length : Int)) = false := decide_eq_false (by omega)
      rw [hVn (by omega)]
      simp (config := {dsimp := false}) only [↓a_range, ↓roundQ_normal, ↓roundQ_ret, ↓roundQ_exit, ↓a_skip, ↓a_exit, ↓a_ret, ↓a_seq, ↓a_cond, ↓a_block, ↓a_loop, ↓a_region, ↓a_draw, ↓a_region', ↓a_draw', ↓then_key, ↓with_key, ↓withY_key, ↓cond_key, ↓one_key, ↓thenQ_normal, ↓thenQ_exit, ↓thenQ_ret, ↓blockQ_normal, ↓blockQ_exit, ↓blockQ_ret, ↓aops, ↓aopsD, ↓imp_tt, ↓imp_ff, ↓imp_tf, ↓imp_ft, ↓imp_tnt, ↓imp_tnf, ↓imp_fnt, ↓imp_fnf, look, setL, resQ, argSlots, buildSt, buildArr, intsOf, eqB, keepSl, bindM, bindP, opR, okIf, ok, bad, ev, ofConst, putS, updS, S.upd, dstOk, yieldD, yieldY, strBin, isShift, cellD, retQ, resD, stripO, convR, conv2R, makeR, indexR, indexAddrR, fieldAddrR, loadR, storeR, allocR, boxR, pickR, buildR, buildSliceR, lenR, nilCheckR, extractR, funcR, ipSlice, sliceR, appendR, callR, minR, maxR, S.box, S.tok, TK.sh, known, tsize, destI, ownTok, srcI, isIn, isSl, isSt, appendI, appendL, bnd, aggBin, nilD, isPtr, fieldOf, sized, enumS, seeR, seeL, hasB, flat, flats, List.foldl_nil, List.foldl_cons, Option.getD_some, Option.getD_none, if_true, if_false, reduceIte, reduceCtorEq, Nat.reduceEqDiff, Nat.reduceAdd, Nat.reduceMul, Nat.reduceLT, Nat.reduceSub, Nat.reduceLeDiff, true_and, and_true, List.map_cons, List.map_nil, List.size_toArray, List.length_cons, List.length_nil, Option.map_some, Option.map_none, Option.bind_some, true_implies, Bool.false_eq_true, Bool.true_eq_false, false_implies, Bool.not_true, Bool.not_false, List.getElem?_cons_zero, List.getElem?_cons_succ, implies_true, and_self, Bool.and_true, Bool.true_and, BEq.rfl, and_assoc, Option.isSome_some, Option.isSome_none, List.take_succ_cons, List.take_zero, List.set_cons_zero, List.set_cons_succ, List.forall_mem_cons, List.not_mem_nil, forall_const, List.range, List.range.loop, ne_eq, not_false_eq_true, not_true_eq_false, List.cons.injEq, Prod.mk.injEq, List.append_nil, List.nil_append, List.cons_append, false_and, and_false, Bool.false_and, Bool.and_false, Nat.reduceBNe, Nat.reduceBEq, beq_self_eq_true, bne_self_eq_false, Nat.reduceBeqDiff, Bool.or_false, Bool.false_or, Bool.or_true, Bool.true_or, vs0, vs1, vs2, vs3, vs4, tys, gl0, Tryd.ntmps23, Tryd.results23, arrs_length, hd, d4]
  have hd : decide ((b : Int) > 1) = true := decide_eq_true (by omega)
  rw [fold_gt hb1] at hfo
  rw [needs_gt hb1] at hmn
  cases hal : aloneN a b
  · rw [hal] at hfo hmn
    simp only [Bool.false_eq_true, if_false] at hfo hmn
    have hna : ¬ (a % 2 = 0 ∧ a + 1 = b) := fun ⟨e1, e2⟩ => by
      unfold aloneN at hal
      rw [decide_eq_true e1, decide_eq_true e2] at hal
      cases hal
    by_cases h5 : m ≥ l.length
    · have d5 : decide ((m : Int) ≥ (l.length : Int)) = true := decide_eq_true (by omega)
      rw [hVn (by omega)]
      rcases Nat.mod_two_eq_zero_or_one a with h2 | h2
      · rw [decide_eq_true h2] at ev2
        have d6 : decide ((a : Int) + 1 ≥ (b : Int)) = false := decide_eq_false (by omega)
        simp (config := {dsimp := false}) only [↓a_range, ↓roundQ_normal, ↓roundQ_ret, ↓roundQ_exit, ↓a_skip, ↓a_exit, ↓a_ret, ↓a_seq, ↓a_cond, ↓a_block, ↓a_loop, ↓a_region, ↓a_draw, ↓a_region', ↓a_draw', ↓then_key, ↓with_key, ↓withY_key, ↓cond_key, ↓one_key, ↓thenQ_normal, ↓thenQ_exit, ↓thenQ_ret, ↓blockQ_normal, ↓blockQ_exit, ↓blockQ_ret, ↓aops, ↓aopsD, ↓imp_tt, ↓imp_ff, ↓imp_tf, ↓imp_ft, ↓imp_tnt, ↓imp_tnf, ↓imp_fnt, ↓imp_fnf, look, setL, resQ, argSlots, buildSt, buildArr, intsOf, eqB, keepSl, bindM, bindP, opR, okIf, ok, bad, ev, ofConst, putS, updS, S.upd, dstOk, yieldD, yieldY, strBin, isShift, cellD, retQ, resD, stripO, convR, conv2R, makeR, indexR, indexAddrR, fieldAddrR, loadR, storeR, allocR, boxR, pickR, buildR, buildSliceR, lenR, nilCheckR, extractR, funcR, ipSlice, sliceR, appendR, callR, minR, maxR, S.box, S.tok, TK.sh, known, tsize, destI, ownTok, srcI, isIn, isSl, isSt, appendI, appendL, bnd, aggBin, nilD, isPtr, fieldOf, sized, enumS, seeR, seeL, hasB, flat, flats, List.foldl_nil, List.foldl_cons, Option.getD_some, Option.getD_none, if_true, if_false, reduceIte, reduceCtorEq, Nat.reduceEqDiff, Nat.reduceAdd, Nat.reduceMul, Nat.reduceLT, Nat.reduceSub, Nat.reduceLeDiff, true_and, and_true, List.map_cons, List.map_nil, List.size_toArray, List.length_cons, List.length_nil, Option.map_some, Option.map_none, Option.bind_some, true_implies, Bool.false_eq_true, Bool.true_eq_false, false_implies, Bool.not_true, Bool.not_false, List.getElem?_cons_zero, List.getElem?_cons_succ, implies_true, and_self, Bool.and_true, Bool.true_and, BEq.rfl, and_assoc, Option.isSome_some, Option.isSome_none, List.take_succ_cons, List.take_zero, List.set_cons_zero, List.set_cons_succ, List.forall_mem_cons, List.not_mem_nil, forall_const, List.range, List.range.loop, ne_eq, not_false_eq_true, not_true_eq_false, List.cons.injEq, Prod.mk.injEq, List.append_nil, List.nil_append, List.cons_append, false_and, and_false, Bool.false_and, Bool.and_false, Nat.reduceBNe, Nat.reduceBEq, beq_self_eq_true, bne_self_eq_false, Nat.reduceBeqDiff, Bool.or_false, Bool.false_or, Bool.or_true, Bool.true_or, vs0, vs1, vs2, vs3, vs4, tys, gl0, Tryd.ntmps23, Tryd.results23, arrs_length, hd, ev2, w1, d5, d6]
        all_goals decide
      · rw [decide_eq_false (show ¬ a % 2 = 0 by omega)] at ev2
        simp (config := {dsimp := false}) only [↓a_range, ↓roundQ_normal, ↓roundQ_ret, ↓roundQ_exit, ↓a_skip, ↓a_exit, ↓a_ret, ↓a_seq, ↓a_cond, ↓a_block, ↓a_loop, ↓a_region, ↓a_draw, ↓a_region', ↓a_draw', ↓then_key, ↓with_key, ↓withY_key, ↓cond_key, ↓one_key, ↓thenQ_normal, ↓thenQ_exit, ↓thenQ_ret, ↓blockQ_normal, ↓blockQ_exit, ↓blockQ_ret, ↓aops, ↓aopsD, ↓imp_tt, ↓imp_ff, ↓imp_tf, ↓imp_ft, ↓imp_tnt, ↓imp_tnf, ↓imp_fnt, ↓imp_fnf, look, setL, resQ, argSlots, buildSt, buildArr, intsOf, eqB, keepSl, bindM, bindP, opR, okIf, ok, bad, ev, ofConst, putS, updS, S.upd, dstOk, yieldD, yieldY, strBin, isShift, cellD, retQ, resD, stripO, convR, conv2R, makeR, indexR, indexAddrR, fieldAddrR, loadR, storeR, allocR, boxR, pickR, buildR, buildSliceR, lenR, nilCheckR, extractR, funcR, ipSlice, sliceR, appendR, callR, minR, maxR, S.box, S.tok, TK.sh, known, tsize, destI, ownTok, srcI, isIn, isSl, isSt, appendI, appendL, bnd, aggBin, nilD, isPtr, fieldOf, sized, enumS, seeR, seeL, hasB, flat, flats, List.foldl_nil, List.foldl_cons, Option.getD_some, Option.getD_none, if_true, if_false, reduceIte, reduceCtorEq, Nat.reduceEqDiff, Nat.reduceAdd, Nat.reduceMul, Nat.reduceLT, Nat.reduceSub, Nat.reduceLeDiff, true_and, and_true, List.map_cons, List.map_nil, List.size_toArray, List.length_cons, List.length_nil, Option.map_some, Option.map_none, Option.bind_some, true_implies, Bool.false_eq_true, Bool.true_eq_false, false_implies, Bool.not_true, Bool.not_false, List.getElem?_cons_zero, List.getElem?_cons_succ, implies_true, and_self, Bool.and_true, Bool.true_and, BEq.rfl, and_assoc, Option.isSome_some, Option.isSome_none, List.take_succ_cons, List.take_zero, List.set_cons_zero, List.set_cons_succ, List.forall_mem_cons, List.not_mem_nil, forall_const, List.range, List.range.loop, ne_eq, not_false_eq_true, not_true_eq_false, List.cons.injEq, Prod.mk.injEq, List.append_nil, List.nil_append, List.cons_append, false_and, and_false, Bool.false_and, Bool.and_false, Nat.reduceBNe, Nat.reduceBEq, beq_self_eq_true, bne_self_eq_false, Nat.reduceBeqDiff, Bool.or_false, Bool.false_or, Bool.or_true, Bool.true_or, vs0, vs1, vs2, vs3, vs4, tys, gl0, Tryd.ntmps23, Tryd.results23, arrs_length, hd, ev2, d5]
        all_goals decide
    have d5 : decide ((m : Int) ≥ (l.length : Int)) = false := decide_eq_false (by omega)
    have hgd : (l.drop m).getD 0 [] = l.getD m [] := by simp [List.getD]
    have hdd : (l.drop m).drop 1 = l.drop (m + 1) := by rw [List.drop_drop]
    rw [hgd, hdd] at hfo
    have g := arrs_get l m (by omega)
    have hy := hl _ (getD_mem (show m < l.length by omega))
    have hyb := hby _ (getD_mem (show m < l.length by omega))
    obtain rfl : z = 32 := hz.resolve_left fun e => by have := arrs_eq_nil e; omega
    rcases Nat.mod_two_eq_zero_or_one a with h2 | h2
    · rw [if_pos h2] at hfo
      rw [decide_eq_true h2] at ev2
      have d6 : decide ((a : Int) + 1 ≥ (b : Int)) = false := decide_eq_false (by omega)
      have tw := twice_eq (x ++ l.getD m []) (bytes_append hbx hyb) (by rw [List.length_append, hx, hy]; decide)
      generalize l.getD m [] = y at g hy hyb tw hfo
      simp (config := {dsimp := false}) only [↓a_range, ↓roundQ_normal, ↓roundQ_ret, ↓roundQ_exit, ↓a_skip, ↓a_exit, ↓a_ret, ↓a_seq, ↓a_cond, ↓a_block, ↓a_loop, ↓a_region, ↓a_draw, ↓a_region', ↓a_draw', ↓then_key, ↓with_key, ↓withY_key, ↓cond_key, ↓one_key, ↓thenQ_normal, ↓thenQ_exit, ↓thenQ_ret, ↓blockQ_normal, ↓blockQ_exit, ↓blockQ_ret, ↓aops, ↓aopsD, ↓imp_tt, ↓imp_ff, ↓imp_tf, ↓imp_ft, ↓imp_tnt, ↓imp_tnf, ↓imp_fnt, ↓imp_fnf, look, setL, resQ, argSlots, buildSt, buildArr, intsOf, eqB, keepSl, bindM, bindP, opR, okIf, ok, bad, ev, ofConst, putS, updS, S.upd, dstOk, yieldD, yieldY, strBin, isShift, cellD, retQ, resD, stripO, convR, conv2R, makeR, indexR, indexAddrR, fieldAddrR, loadR, storeR, allocR, boxR, pickR, buildR, buildSliceR, lenR, nilCheckR, extractR, funcR, ipSlice, sliceR, appendR, callR, minR, maxR, S.box, S.tok, TK.sh, known, tsize, destI, ownTok, srcI, isIn, isSl, isSt, appendI, appendL, bnd, aggBin, nilD, isPtr, fieldOf, sized, enumS, seeR, seeL, hasB, flat, flats, List.foldl_nil, List.foldl_cons, Option.getD_some, Option.getD_none, if_true, if_false, reduceIte, reduceCtorEq, Nat.reduceEqDiff, Nat.reduceAdd, Nat.reduceMul, Nat.reduceLT, Nat.reduceSub, Nat.reduceLeDiff, true_and, and_true, List.map_cons, List.map_nil, List.size_toArray, List.length_cons, List.length_nil, Option.map_some, Option.map_none, Option.bind_some, true_implies, Bool.false_eq_true, Bool.true_eq_false, false_implies, Bool.not_true, Bool.not_false, List.getElem?_cons_zero, List.getElem?_cons_succ, implies_true, and_self, Bool.and_true, Bool.true_and, BEq.rfl, and_assoc, Option.isSome_some, Option.isSome_none, List.take_succ_cons, List.take_zero, List.set_cons_zero, List.set_cons_succ, List.forall_mem_cons, List.not_mem_nil, forall_const, List.range, List.range.loop, ne_eq, not_false_eq_true, not_true_eq_false, List.cons.injEq, Prod.mk.injEq, List.append_nil, List.nil_append, List.cons_append, false_and, and_false, Bool.false_and, Bool.and_false, Nat.reduceBNe, Nat.reduceBEq, beq_self_eq_true, bne_self_eq_false, Nat.reduceBeqDiff, Bool.or_false, Bool.false_or, Bool.or_true, Bool.true_or, vs0, vs1, vs2, vs3, vs4, tys, gl0, Tryd.ntmps23, Tryd.results23, arrs_length, hd, ev2, w1, d5, d6]
      refine ⟨by decide, by decide, ?_⟩
      refine drawI [3, 4, 10, 1, 2, 8] (by kernel_rfl) ?_
      simp (config := {dsimp := false}) only [↓a_range, ↓roundQ_normal, ↓roundQ_ret, ↓roundQ_exit, ↓a_skip, ↓a_exit, ↓a_ret, ↓a_seq, ↓a_cond, ↓a_block, ↓a_loop, ↓a_region, ↓a_draw, ↓a_region', ↓a_draw', ↓then_key, ↓with_key, ↓withY_key, ↓cond_key, ↓one_key, ↓thenQ_normal, ↓thenQ_exit, ↓thenQ_ret, ↓blockQ_normal, ↓blockQ_exit, ↓blockQ_ret, ↓aops, ↓aopsD, ↓imp_tt, ↓imp_ff, ↓imp_tf, ↓imp_ft, ↓imp_tnt, ↓imp_tnf, ↓imp_fnt, ↓imp_fnf, look, setL, resQ, argSlots, buildSt, buildArr, intsOf, eqB, keepSl, bindM, bindP, opR, okIf, ok, bad, ev, ofConst, putS, updS, S.upd, dstOk, yieldD, yieldY, strBin, isShift, cellD, retQ, resD, stripO, convR, conv2R, makeR, indexR, indexAddrR, fieldAddrR, loadR, storeR, allocR, boxR, pickR, buildR, buildSliceR, lenR, nilCheckR, extractR, funcR, ipSlice, sliceR, appendR, callR, minR, maxR, S.box, S.tok, TK.sh, known, tsize, destI, ownTok, srcI, isIn, isSl, isSt, appendI, appendL, bnd, aggBin, nilD, isPtr, fieldOf, sized, enumS, seeR, seeL, hasB, flat, flats, List.foldl_nil, List.foldl_cons, Option.getD_some, Option.getD_none, if_true, if_false, reduceIte, reduceCtorEq, Nat.reduceEqDiff, Nat.reduceAdd, Nat.reduceMul, Nat.reduceLT, Nat.reduceSub, Nat.reduceLeDiff, true_and, and_true, List.map_cons, List.map_nil, List.size_toArray, List.length_cons, List.length_nil, Option.map_some, Option.map_none, Option.bind_some, true_implies, Bool.false_eq_true, Bool.true_eq_false, false_implies, Bool.not_true, Bool.not_false, List.getElem?_cons_zero, List.getElem?_cons_succ, implies_true, and_self, Bool.and_true, Bool.true_and, BEq.rfl, and_assoc, Option.isSome_some, Option.isSome_none, List.take_succ_cons, List.take_zero, List.set_cons_zero, List.set_cons_succ, List.forall_mem_cons, List.not_mem_nil, forall_const, List.range, List.range.loop, ne_eq, not_false_eq_true, not_true_eq_false, List.cons.injEq, Prod.mk.injEq, List.append_nil, List.nil_append, List.cons_append, false_and, and_false, Bool.false_and, Bool.and_false, Nat.reduceBNe, Nat.reduceBEq, beq_self_eq_true, bne_self_eq_false, Nat.reduceBeqDiff, Bool.or_false, Bool.false_or, Bool.or_true, Bool.true_or, vs0, vs1, vs2, vs3, vs4, tys, gl0, Tryd.ntmps23, Tryd.results23, PF.toR, givesIf, arrs_length, q1, q2, w2, hx, hy, g, tw, List.length_append, Int.toNat_natCast, spec_refMText, sp_refMText, c_refMText, b_refMText, spec_refTwice, sp_refTwice, c_refTwice, b_refTwice]
      exact ⟨by omega, by omega, by kernel_rfl, by decide, by decide, ⟨(H2 x y, a / 2, (b + 1) / 2, m + 1), ⟨H2_len _ _, bytes_sum _⟩, ⟨by simp only; omega, by simp only; omega⟩, by simp only; omega, by simp only; omega, by simp only; omega, hfo⟩, ⟨⟨wkD_eq rfl, rfl, wkD_eq rfl, rfl, wkD_eq rfl, rfl, wkD_eq rfl, rfl, wkD_eq rfl, rfl, wkD_eq rfl, rfl, trivial⟩, ⟨rfl, Nat.le_of_ble_eq_true rfl, rfl, rfl, Nat.le_of_ble_eq_true rfl, rfl, trivial⟩, trivial⟩, by (try simp only); omega⟩
    · rw [if_neg (show ¬ a % 2 = 0 by omega)] at hfo
      rw [decide_eq_false (show ¬ a % 2 = 0 by omega)] at ev2
      have tw := twice_eq (l.getD m [] ++ x) (bytes_append hyb hbx) (by rw [List.length_append, hx, hy]; decide)
      generalize l.getD m [] = y at g hy hyb tw hfo
      simp (config := {dsimp := false}) only [↓a_range, ↓roundQ_normal, ↓roundQ_ret, ↓roundQ_exit, ↓a_skip, ↓a_exit, ↓a_ret, ↓a_seq, ↓a_cond, ↓a_block, ↓a_loop, ↓a_region, ↓a_draw, ↓a_region', ↓a_draw', ↓then_key, ↓with_key, ↓withY_key, ↓cond_key, ↓one_key, ↓thenQ_normal, ↓thenQ_exit, ↓thenQ_ret, ↓blockQ_normal, ↓blockQ_exit, ↓blockQ_ret, ↓aops, ↓aopsD, ↓imp_tt, ↓imp_ff, ↓imp_tf, ↓imp_ft, ↓imp_tnt, ↓imp_tnf, ↓imp_fnt, ↓imp_fnf, look, setL, resQ, argSlots, buildSt, buildArr, intsOf, eqB, keepSl, bindM, bindP, opR, okIf, ok, bad, ev, ofConst, putS, updS, S.upd, dstOk, yieldD, yieldY, strBin, isShift, cellD, retQ, resD, stripO, convR, conv2R, makeR, indexR, indexAddrR, fieldAddrR, loadR, storeR, allocR, boxR, pickR, buildR, buildSliceR, lenR, nilCheckR, extractR, funcR, ipSlice, sliceR, appendR, callR, minR, maxR, S.box, S.tok, TK.sh, known, tsize, destI, ownTok, srcI, isIn, isSl, isSt, appendI, appendL, bnd, aggBin, nilD, isPtr, fieldOf, sized, enumS, seeR, seeL, hasB, flat, flats, List.foldl_nil, List.foldl_cons, Option.getD_some, Option.getD_none, if_true, if_false, reduceIte, reduceCtorEq, Nat.reduceEqDiff, Nat.reduceAdd, Nat.reduceMul, Nat.reduceLT, Nat.reduceSub, Nat.reduceLeDiff, true_and, and_true, List.map_cons, List.map_nil, List.size_toArray, List.length_cons, List.length_nil, Option.map_some, Option.map_none, Option.bind_some, true_implies, Bool.false_eq_true, Bool.true_eq_false, false_implies, Bool.not_true, Bool.not_false, List.getElem?_cons_zero, List.getElem?_cons_succ, implies_true, and_self, Bool.and_true, Bool.true_and, BEq.rfl, and_assoc, Option.isSome_some, Option.isSome_none, List.take_succ_cons, List.take_zero, List.set_cons_zero, List.set_cons_succ, List.forall_mem_cons, List.not_mem_nil, forall_const, List.range, List.range.loop, ne_eq, not_false_eq_true, not_true_eq_false, List.cons.injEq, Prod.mk.injEq, List.append_nil, List.nil_append, List.cons_append, false_and, and_false, Bool.false_and, Bool.and_false, Nat.reduceBNe, Nat.reduceBEq, beq_self_eq_true, bne_self_eq_false, Nat.reduceBeqDiff, Bool.or_false, Bool.false_or, Bool.or_true, Bool.true_or, vs0, vs1, vs2, vs3, vs4, tys, gl0, Tryd.ntmps23, Tryd.results23, arrs_length, hd, ev2, d5]
      refine ⟨by decide, by decide, ?_⟩
      refine drawI [3, 4, 10, 1, 2, 8] (by kernel_rfl) ?_
      simp (config := {dsimp := false}) only [↓a_range, ↓roundQ_normal, ↓roundQ_ret, ↓roundQ_exit, ↓a_skip, ↓a_exit, ↓a_ret, ↓a_seq, ↓a_cond, ↓a_block, ↓a_loop, ↓a_region, ↓a_draw, ↓a_region', ↓a_draw', ↓then_key, ↓with_key, ↓withY_key, ↓cond_key, ↓one_key, ↓thenQ_normal, ↓thenQ_exit, ↓thenQ_ret, ↓blockQ_normal, ↓blockQ_exit, ↓blockQ_ret, ↓aops, ↓aopsD, ↓imp_tt, ↓imp_ff, ↓imp_tf, ↓imp_ft, ↓imp_tnt, ↓imp_tnf, ↓imp_fnt, ↓imp_fnf, look, setL, resQ, argSlots, buildSt, buildArr, intsOf, eqB, keepSl, bindM, bindP, opR, okIf, ok, bad, ev, ofConst, putS, updS, S.upd, dstOk, yieldD, yieldY, strBin, isShift, cellD, retQ, resD, stripO, convR, conv2R, makeR, indexR, indexAddrR, fieldAddrR, loadR, storeR, allocR, boxR, pickR, buildR, buildSliceR, lenR, nilCheckR, extractR, funcR, ipSlice, sliceR, appendR, callR, minR, maxR, S.box, S.tok, TK.sh, known, tsize, destI, ownTok, srcI, isIn, isSl, isSt, appendI, appendL, bnd, aggBin, nilD, isPtr, fieldOf, sized, enumS, seeR, seeL, hasB, flat, flats, List.foldl_nil, List.foldl_cons, Option.getD_some, Option.getD_none, if_true, if_false, reduceIte, reduceCtorEq, Nat.reduceEqDiff, Nat.reduceAdd, Nat.reduceMul, Nat.reduceLT, Nat.reduceSub, Nat.reduceLeDiff, true_and, and_true, List.map_cons, List.map_nil, List.size_toArray, List.length_cons, List.length_nil, Option.map_some, Option.map_none, Option.bind_some, true_implies, Bool.false_eq_true, Bool.true_eq_false, false_implies, Bool.not_true, Bool.not_false, List.getElem?_cons_zero, List.getElem?_cons_succ, implies_true, and_self, Bool.and_true, Bool.true_and, BEq.rfl, and_assoc, Option.isSome_some, Option.isSome_none, List.take_succ_cons, List.take_zero, List.set_cons_zero, List.set_cons_succ, List.forall_mem_cons, List.not_mem_nil, forall_const, List.range, List.range.loop, ne_eq, not_false_eq_true, not_true_eq_false, List.cons.injEq, Prod.mk.injEq, List.append_nil, List.nil_append, List.cons_append, false_and, and_false, Bool.false_and, Bool.and_false, Nat.reduceBNe, Nat.reduceBEq, beq_self_eq_true, bne_self_eq_false, Nat.reduceBeqDiff, Bool.or_false, Bool.false_or, Bool.or_true, Bool.true_or, vs0, vs1, vs2, vs3, vs4, tys, gl0, Tryd.ntmps23, Tryd.results23, PF.toR, givesIf, arrs_length, q1, q2, w2, hx, hy, g, tw, List.length_append, Int.toNat_natCast, spec_refMText, sp_refMText, c_refMText, b_refMText, spec_refTwice, sp_refTwice, c_refTwice, b_refTwice]
      exact ⟨by omega, by omega, by kernel_rfl, by decide, by decide, ⟨(H2 y x, a / 2, (b + 1) / 2, m + 1), ⟨H2_len _ _, bytes_sum _⟩, ⟨by simp only; omega, by simp only; omega⟩, by simp only; omega, by simp only; omega, by simp only; omega, hfo⟩, ⟨⟨wkD_eq rfl, rfl, wkD_eq rfl, rfl, wkD_eq rfl, rfl, wkD_eq rfl, rfl, wkD_eq rfl, rfl, wkD_eq rfl, rfl, trivial⟩, ⟨rfl, Nat.le_of_ble_eq_true rfl, rfl, rfl, Nat.le_of_ble_eq_true rfl, rfl, trivial⟩, trivial⟩, by (try simp only); omega⟩
  · rw [hal] at hfo hmn
    simp only [if_true] at hfo hmn
    have hya : a % 2 = 0 ∧ a + 1 = b := by
      unfold aloneN at hal
      rw [Bool.and_eq_true] at hal
      exact ⟨of_decide_eq_true hal.1, of_decide_eq_true hal.2⟩
    rw [decide_eq_true hya.1] at ev2
    have d6 : decide ((a : Int) + 1 ≥ (b : Int)) = true := decide_eq_true (by omega)
    have tw := twice_eq (x ++ x) (bytes_append hbx hbx) (by simp [hx])
    simp (config := {dsimp := false}) only [↓a_range, ↓roundQ_normal, ↓roundQ_ret, ↓roundQ_exit, ↓a_skip, ↓a_exit, ↓a_ret, ↓a_seq, ↓a_cond, ↓a_block, ↓a_loop, ↓a_region, ↓a_draw, ↓a_region', ↓a_draw', ↓then_key, ↓with_key, ↓withY_key, ↓cond_key, ↓one_key, ↓thenQ_normal, ↓thenQ_exit, ↓thenQ_ret, ↓blockQ_normal, ↓blockQ_exit, ↓blockQ_ret, ↓aops, ↓aopsD, ↓imp_tt, ↓imp_ff, ↓imp_tf, ↓imp_ft, ↓imp_tnt, ↓imp_tnf, ↓imp_fnt, ↓imp_fnf, look, setL, resQ, argSlots, buildSt, buildArr, intsOf, eqB, keepSl, bindM, bindP, opR, okIf, ok, bad, ev, ofConst, putS, updS, S.upd, dstOk, yieldD, yieldY, strBin, isShift, cellD, retQ, resD, stripO, convR, conv2R, makeR, indexR, indexAddrR, fieldAddrR, loadR, storeR, allocR, boxR, pickR, buildR, buildSliceR, lenR, nilCheckR, extractR, funcR, ipSlice, sliceR, appendR, callR, minR, maxR, S.box, S.tok, TK.sh, known, tsize, destI, ownTok, srcI, isIn, isSl, isSt, appendI, appendL, bnd, aggBin, nilD, isPtr, fieldOf, sized, enumS, seeR, seeL, hasB, flat, flats, List.foldl_nil, List.foldl_cons, Option.getD_some, Option.getD_none, if_true, if_false, reduceIte, reduceCtorEq, Nat.reduceEqDiff, Nat.reduceAdd, Nat.reduceMul, Nat.reduceLT, Nat.reduceSub, Nat.reduceLeDiff, true_and, and_true, List.map_cons, List.map_nil, List.size_toArray, List.length_cons, List.length_nil, Option.map_some, Option.map_none, Option.bind_some, true_implies, Bool.false_eq_true, Bool.true_eq_false, false_implies, Bool.not_true, Bool.not_false, List.getElem?_cons_zero, List.getElem?_cons_succ, implies_true, and_self, Bool.and_true, Bool.true_and, BEq.rfl, and_assoc, Option.isSome_some, Option.isSome_none, List.take_succ_cons, List.take_zero, List.set_cons_zero, List.set_cons_succ, List.forall_mem_cons, List.not_mem_nil, forall_const, List.range, List.range.loop, ne_eq, not_false_eq_true, not_true_eq_false, List.cons.injEq, Prod.mk.injEq, List.append_nil, List.nil_append, List.cons_append, false_and, and_false, Bool.false_and, Bool.and_false, Nat.reduceBNe, Nat.reduceBEq, beq_self_eq_true, bne_self_eq_false, Nat.reduceBeqDiff, Bool.or_false, Bool.false_or, Bool.or_true, Bool.true_or, vs0, vs1, vs2, vs3, vs4, tys, gl0, Tryd.ntmps23, Tryd.results23, PF.toR, givesIf, arrs_length, hd, ev2, w1, d6, q1, q2, hx, tw, List.length_append, spec_refMText, sp_refMText, c_refMText, b_refMText, spec_refTwice, sp_refTwice, c_refTwice, b_refTwice]
    exact ⟨by decide, by decide, by decide, ⟨(H2 x x, a / 2, (b + 1) / 2, m), ⟨H2_len _ _, bytes_sum _⟩, ⟨by simp only; omega, by simp only; omega⟩, by simp only; omega, by simp only; omega, by simp only; omega, hfo⟩, ⟨⟨wkD_eq rfl, rfl, wkD_eq rfl, rfl, wkD_eq rfl, rfl, wkD_eq rfl, rfl, wkD_eq rfl, rfl, wkD_eq rfl, rfl, trivial⟩, ⟨rfl, Nat.le_of_ble_eq_true rfl, rfl, rfl, Nat.le_of_ble_eq_true rfl, rfl, trivial⟩, trivial⟩, by (try simp only); omega⟩
end Go.Vi.C8
end

section
set_option linter.unusedVariables false
set_option linter.unusedSimpArgs false
set_option maxHeartbeats 0
set_option maxRecDepth 20000
namespace Go.Vi.C8
open Go.Proofs

theorem iAt_lt {l : L2} {i : Nat} (h : i < l.length) : ∀ k, iAt i k < (rowAt l k).length
  | 0 => h
  | k + 1 => by
    have := iAt_lt h k
    rw [show rowAt l (k + 1) = aboveP (rowAt l k) from rfl, above_len]
    simp only [iAt]
    omega
theorem brOf_le (r : L2) (i : Nat) : (brOf r i).length ≤ 1 := by unfold brOf; split <;> simp
theorem branchTo_le (l : L2) (i : Nat) : ∀ k, (branchTo l i k).length ≤ k
  | 0 => Nat.le_refl _
  | k + 1 => by
    have := branchTo_le l i k
    have := brOf_le (rowAt l k) (iAt i k)
    simp only [branchTo, List.length_append]
    omega
theorem brOf_yes {r : L2} {i : Nat} (h : aloneN i r.length = true) : brOf r i = [] := if_pos h
theorem brOf_no {r : L2} {i : Nat} (h : aloneN i r.length = false) : brOf r i = [partnerP r i] := if_neg (by rw [h]; simp)
theorem partner_len {r : L2} {i : Nat} (hr : h32 r) (hi : i < r.length) : (partnerP r i).length = 32 := by
  unfold partnerP
  exact hr _ (getD_mem (by split <;> (try split) <;> omega))
theorem c_refBranch : Contract E 21 := by
  refine contract_see hE hgl (show E.P.funcs[21]? = some Tryd.f21 from Tryd.func21) rfl (p := sp_refBranch) (fun _ _ _ => rfl) ?_
  intro args hv
  unfold sp_refBranch at hv ⊢
  split at hv
  case h_2 => exact hv.elim
  rename_i es i
  refine ⟨by simp, Nat.le_of_ble_eq_true rfl, ?_⟩
  simp only [givesIf] at hv
  obtain ⟨⟨l, rfl, hl⟩, hlen, hby⟩ := hv
  rw [arrs_length] at hlen
  rw [hs_arrs] at hby
  change awp E Tryd.f21.ntmps _ (retQ E Tryd.f21 (branchV (hs (arrs l)) i)) _ _
  rw [hs_arrs]
  by_cases c1 : i < 0
  · have d1 : decide (i < 0) = true := decide_eq_true c1
    have hV : branchV l i = .tup [.sl .full 0 [], .bool false] := if_pos (.inl c1)
    simp (config := {dsimp := false}) only [↓a_range, ↓roundQ_normal, ↓roundQ_ret, ↓roundQ_exit, ↓a_skip, ↓a_exit, ↓a_ret, ↓a_seq, ↓a_cond, ↓a_block, ↓a_loop, ↓a_region, ↓a_draw, ↓a_region', ↓a_draw', ↓then_key, ↓with_key, ↓withY_key, ↓cond_key, ↓one_key, ↓thenQ_normal, ↓thenQ_exit, ↓thenQ_ret, ↓blockQ_normal, ↓blockQ_exit, ↓blockQ_ret, ↓aops, ↓aopsD, ↓imp_tt, ↓imp_ff, ↓imp_tf, ↓imp_ft, ↓imp_tnt, ↓imp_tnf, ↓imp_fnt, ↓imp_fnf, look, setL, resQ, argSlots, buildSt, buildArr, intsOf, eqB, keepSl, bindM, bindP, opR, okIf, ok, bad, ev, ofConst, putS, updS, S.upd, dstOk, yieldD, yieldY, strBin, isShift, cellD, retQ, resD, stripO, convR, conv2R, makeR, indexR, indexAddrR, fieldAddrR, loadR, storeR, allocR, boxR, pickR, buildR, buildSliceR, lenR, nilCheckR, extractR, funcR, ipSlice, sliceR, appendR, callR, minR, maxR, S.box, S.tok, TK.sh, known, tsize, destI, ownTok, srcI, isIn, isSl, isSt, appendI, appendL, bnd, aggBin, nilD, isPtr, fieldOf, sized, enumS, seeR, seeL, hasB, flat, flats, List.foldl_nil, List.foldl_cons, Option.getD_some, Option.getD_none, if_true, if_false, reduceIte, reduceCtorEq, Nat.reduceEqDiff, Nat.reduceAdd, Nat.reduceMul, Nat.reduceLT, Nat.reduceSub, Nat.reduceLeDiff, true_and, and_true, List.map_cons, List.map_nil, List.size_toArray, List.length_cons, List.length_nil, Option.map_some, Option.map_none, Option.bind_some, true_implies, Bool.false_eq_true, Bool.true_eq_false, false_implies, Bool.not_true, Bool.not_false, List.getElem?_cons_zero, List.getElem?_cons_succ, implies_true, and_self, Bool.and_true, Bool.true_and, BEq.rfl, and_assoc, Option.isSome_some, Option.isSome_none, List.take_succ_cons, List.take_zero, List.set_cons_zero, List.set_cons_succ, List.forall_mem_cons, List.not_mem_nil, forall_const, List.range, List.range.loop, ne_eq, not_false_eq_true, not_true_eq_false, List.cons.injEq, Prod.mk.injEq, List.append_nil, List.nil_append, List.cons_append, false_and, and_false, Bool.false_and, Bool.and_false, Nat.reduceBNe, Nat.reduceBEq, beq_self_eq_true, bne_self_eq_false, Nat.reduceBeqDiff, Bool.or_false, Bool.false_or, Bool.or_true, Bool.true_or, vs0, vs1, vs2, vs3, vs4, tys, gl0, Tryd.ntmps21, Tryd.results21, arrs_length, d1, hV]
  have d1 : decide (i < 0) = false := decide_eq_false c1
  by_cases c2 : i ≥ (l.length : Int)
  · have d2 : decide (i ≥ (l.length : Int)) = true := decide_eq_true c2
    have hV : branchV l i = .tup [.sl .full 0 [], .bool false] := if_pos (.inr c2)
    simp (config := {dsimp := false}) only [↓a_range, ↓roundQ_normal, ↓roundQ_ret, ↓roundQ_exit, ↓a_skip, ↓a_exit, ↓a_ret, ↓a_seq, ↓a_cond, ↓a_block, ↓a_loop, ↓a_region, ↓a_draw, ↓a_region', ↓a_draw', ↓then_key, ↓with_key, ↓withY_key, ↓cond_key, ↓one_key, ↓thenQ_normal, ↓thenQ_exit, ↓thenQ_ret, ↓blockQ_normal, ↓blockQ_exit, ↓blockQ_ret, ↓aops, ↓aopsD, ↓imp_tt, ↓imp_ff, ↓imp_tf, ↓imp_ft, ↓imp_tnt, ↓imp_tnf, ↓imp_fnt, ↓imp_fnf, look, setL, resQ, argSlots, buildSt, buildArr, intsOf, eqB, keepSl, bindM, bindP, opR, okIf, ok, bad, ev, ofConst, putS, updS, S.upd, dstOk, yieldD, yieldY, strBin, isShift, cellD, retQ, resD, stripO, convR, conv2R, makeR, indexR, indexAddrR, fieldAddrR, loadR, storeR, allocR, boxR, pickR, buildR, buildSliceR, lenR, nilCheckR, extractR, funcR, ipSlice, sliceR, appendR, callR, minR, maxR, S.box, S.tok, TK.sh, known, tsize, destI, ownTok, srcI, isIn, isSl, isSt, appendI, appendL, bnd, aggBin, nilD, isPtr, fieldOf, sized, enumS, seeR, seeL, hasB, flat, flats, List.foldl_nil, List.foldl_cons, Option.getD_some, Option.getD_none, if_true, if_false, reduceIte, reduceCtorEq, Nat.reduceEqDiff, Nat.reduceAdd, Nat.reduceMul, Nat.reduceLT, Nat.reduceSub, Nat.reduceLeDiff, true_and, and_true, List.map_cons, List.map_nil, List.size_toArray, List.length_cons, List.length_nil, Option.map_some, Option.map_none, Option.bind_some, true_implies, Bool.false_eq_true, Bool.true_eq_false, false_implies, Bool.not_true, Bool.not_false, List.getElem?_cons_zero, List.getElem?_cons_succ, implies_true, and_self, Bool.and_true, Bool.true_and, BEq.rfl, and_assoc, Option.isSome_some, Option.isSome_none, List.take_succ_cons, List.take_zero, List.set_cons_zero, List.set_cons_succ, List.forall_mem_cons, List.not_mem_nil, forall_const, List.range, List.range.loop, ne_eq, not_false_eq_true, not_true_eq_false, List.cons.injEq, Prod.mk.injEq, List.append_nil, List.nil_append, List.cons_append, false_and, and_false, Bool.false_and, Bool.and_false, Nat.reduceBNe, Nat.reduceBEq, beq_self_eq_true, bne_self_eq_false, Nat.reduceBeqDiff, Bool.or_false, Bool.false_or, Bool.or_true, Bool.true_or, vs0, vs1, vs2, vs3, vs4, tys, gl0, Tryd.ntmps21, Tryd.results21, arrs_length, d1, d2, hV]
  have d2 : decide (i ≥ (l.length : Int)) = false := decide_eq_false c2
  obtain ⟨i, rfl⟩ : ∃ k : Nat, i = (k : Int) := ⟨i.toNat, by omega⟩
  have hV : branchV l i = .tup [.sl .no 32 (arrs (branchTo l i (dep l.length))), .bool true] := if_neg (by omega)
  have hil : i < l.length := by omega
  have hdl := dep_lt l.length (by omega)
  simp (config := {dsimp := false}) only [↓a_range, ↓roundQ_normal, ↓roundQ_ret, ↓roundQ_exit, ↓a_skip, ↓a_exit, ↓a_ret, ↓a_seq, ↓a_cond, ↓a_block, ↓a_loop, ↓a_region, ↓a_draw, ↓a_region', ↓a_draw', ↓then_key, ↓with_key, ↓withY_key, ↓cond_key, ↓one_key, ↓thenQ_normal, ↓thenQ_exit, ↓thenQ_ret, ↓blockQ_normal, ↓blockQ_exit, ↓blockQ_ret, ↓aops, ↓aopsD, ↓imp_tt, ↓imp_ff, ↓imp_tf, ↓imp_ft, ↓imp_tnt, ↓imp_tnf, ↓imp_fnt, ↓imp_fnf, look, setL, resQ, argSlots, buildSt, buildArr, intsOf, eqB, keepSl, bindM, bindP, opR, okIf, ok, bad, ev, ofConst, putS, updS, S.upd, dstOk, yieldD, yieldY, strBin, isShift, cellD, retQ, resD, stripO, convR, conv2R, makeR, indexR, indexAddrR, fieldAddrR, loadR, storeR, allocR, boxR, pickR, buildR, buildSliceR, lenR, nilCheckR, extractR, funcR, ipSlice, sliceR, appendR, callR, minR, maxR, S.box, S.tok, TK.sh, known, tsize, destI, ownTok, srcI, isIn, isSl, isSt, appendI, appendL, bnd, aggBin, nilD, isPtr, fieldOf, sized, enumS, seeR, seeL, hasB, flat, flats, List.foldl_nil, List.foldl_cons, Option.getD_some, Option.getD_none, if_true, if_false, reduceIte, reduceCtorEq, Nat.reduceEqDiff, Nat.reduceAdd, Nat.reduceMul, Nat.reduceLT, Nat.reduceSub, Nat.reduceLeDiff, true_and, and_true, List.map_cons, List.map_nil, List.size_toArray, List.length_cons, List.length_nil, Option.map_some, Option.map_none, Option.bind_some, true_implies, Bool.false_eq_true, Bool.true_eq_false, false_implies, Bool.not_true, Bool.not_false, List.getElem?_cons_zero, List.getElem?_cons_succ, implies_true, and_self, Bool.and_true, Bool.true_and, BEq.rfl, and_assoc, Option.isSome_some, Option.isSome_none, List.take_succ_cons, List.take_zero, List.set_cons_zero, List.set_cons_succ, List.forall_mem_cons, List.not_mem_nil, forall_const, List.range, List.range.loop, ne_eq, not_false_eq_true, not_true_eq_false, List.cons.injEq, Prod.mk.injEq, List.append_nil, List.nil_append, List.cons_append, false_and, and_false, Bool.false_and, Bool.and_false, Nat.reduceBNe, Nat.reduceBEq, beq_self_eq_true, bne_self_eq_false, Nat.reduceBeqDiff, Bool.or_false, Bool.false_or, Bool.or_true, Bool.true_or, vs0, vs1, vs2, vs3, vs4, tys, gl0, Tryd.ntmps21, Tryd.results21, arrs_length, d1, d2, hV]
  refine loopA [(6, none, 32)] ?_
  simp (config := {dsimp := false}) only [↓a_range, ↓roundQ_normal, ↓roundQ_ret, ↓roundQ_exit, ↓a_skip, ↓a_exit, ↓a_ret, ↓a_seq, ↓a_cond, ↓a_block, ↓a_loop, ↓a_region, ↓a_draw, ↓a_region', ↓a_draw', ↓then_key, ↓with_key, ↓withY_key, ↓cond_key, ↓one_key, ↓thenQ_normal, ↓thenQ_exit, ↓thenQ_ret, ↓blockQ_normal, ↓blockQ_exit, ↓blockQ_ret, ↓aops, ↓aopsD, ↓imp_tt, ↓imp_ff, ↓imp_tf, ↓imp_ft, ↓imp_tnt, ↓imp_tnf, ↓imp_fnt, ↓imp_fnf, look, setL, resQ, argSlots, buildSt, buildArr, intsOf, eqB, keepSl, bindM, bindP, opR, okIf, ok, bad, ev, ofConst, putS, updS, S.upd, dstOk, yieldD, yieldY, strBin, isShift, cellD, retQ, resD, stripO, convR, conv2R, makeR, indexR, indexAddrR, fieldAddrR, loadR, storeR, allocR, boxR, pickR, buildR, buildSliceR, lenR, nilCheckR, extractR, funcR, ipSlice, sliceR, appendR, callR, minR, maxR, S.box, S.tok, TK.sh, known, tsize, destI, ownTok, srcI, isIn, isSl, isSt, appendI, appendL, bnd, aggBin, nilD, isPtr, fieldOf, sized, enumS, seeR, seeL, hasB, flat, flats, List.foldl_nil, List.foldl_cons, Option.getD_some, Option.getD_none, if_true, if_false, reduceIte, reduceCtorEq, Nat.reduceEqDiff, Nat.reduceAdd, Nat.reduceMul, Nat.reduceLT, Nat.reduceSub, Nat.reduceLeDiff, true_and, and_true, List.map_cons, List.map_nil, List.size_toArray, List.length_cons, List.length_nil, Option.map_some, Option.map_none, Option.bind_some, true_implies, Bool.false_eq_true, Bool.true_eq_false, false_implies, Bool.not_true, Bool.not_false, List.getElem?_cons_zero, List.getElem?_cons_succ, implies_true, and_self, Bool.and_true, Bool.true_and, BEq.rfl, and_assoc, Option.isSome_some, Option.isSome_none, List.take_succ_cons, List.take_zero, List.set_cons_zero, List.set_cons_succ, List.forall_mem_cons, List.not_mem_nil, forall_const, List.range, List.range.loop, ne_eq, not_false_eq_true, not_true_eq_false, List.cons.injEq, Prod.mk.injEq, List.append_nil, List.nil_append, List.cons_append, false_and, and_false, Bool.false_and, Bool.and_false, Nat.reduceBNe, Nat.reduceBEq, beq_self_eq_true, bne_self_eq_false, Nat.reduceBeqDiff, Bool.or_false, Bool.false_or, Bool.or_true, Bool.true_or, vs0, vs1, vs2, vs3, vs4, tys, gl0, Tryd.ntmps21, Tryd.results21, adopt]
  refine ⟨{k : Nat // k ≤ dep l.length}, (fun k => [(6, .sl (.tok 44) 32 (arrs (branchTo l i k.1))), (1, .int .i64 (iAt i k.1 : Nat)), (0, .sl .no 32 (arrs (rowAt l k.1)))]), (fun k => ⟨[], [(44, ((branchTo l i k.1).length, 32))], 48⟩), (fun k => dep l.length - k.1), ⟨0, Nat.zero_le _⟩, (fun _ => rfl), ?_, ?_⟩
  · exact ⟨⟨wkD_eq rfl, rfl, wkD_eq rfl, rfl, wkD_eq rfl, rfl, trivial⟩, trivial, ⟨rfl, Nat.le_of_ble_eq_true rfl, trivial⟩⟩
  rintro ⟨k, hk⟩
  have hk1 := row_more k l
  have hk2 := row_h32 hl k
  have hk3 := row_len_le l k
  have hkb := row_bytes hby k
  have hki := iAt_lt hil k
  have hbl := branchTo_le l i k
  simp only
  have hsn : branchTo l i (k + 1) = branchTo l i k ++ brOf (rowAt l k) (iAt i k) := rfl
  have hrn : rowAt l (k + 1) = aboveP (rowAt l k) := rfl
  have hin : iAt i (k + 1) = iAt i k / 2 := rfl
  have hlb : (arrs (branchTo l i k)).length = (branchTo l i k).length := arrs_length _
  by_cases hh : 1 < (rowAt l k).length
  case neg =>
    have dd : decide (((rowAt l k).length : Int) > 1) = false := decide_eq_false (by omega)
    have he := row_end hk hh
    simp (config := {dsimp := false}) only [↓a_range, ↓roundQ_normal, ↓roundQ_ret, ↓roundQ_exit, ↓a_skip, ↓a_exit, ↓a_ret, ↓a_seq, ↓a_cond, ↓a_block, ↓a_loop, ↓a_region, ↓a_draw, ↓a_region', ↓a_draw', ↓then_key, ↓with_key, ↓withY_key, ↓cond_key, ↓one_key, ↓thenQ_normal, ↓thenQ_exit, ↓thenQ_ret, ↓blockQ_normal, ↓blockQ_exit, ↓blockQ_ret, ↓aops, ↓aopsD, ↓imp_tt, ↓imp_ff, ↓imp_tf, ↓imp_ft, ↓imp_tnt, ↓imp_tnf, ↓imp_fnt, ↓imp_fnf, look, setL, resQ, argSlots, buildSt, buildArr, intsOf, eqB, keepSl, bindM, bindP, opR, okIf, ok, bad, ev, ofConst, putS, updS, S.upd, dstOk, yieldD, yieldY, strBin, isShift, cellD, retQ, resD, stripO, convR, conv2R, makeR, indexR, indexAddrR, fieldAddrR, loadR, storeR, allocR, boxR, pickR, buildR, buildSliceR, lenR, nilCheckR, extractR, funcR, ipSlice, sliceR, appendR, callR, minR, maxR, S.box, S.tok, TK.sh, known, tsize, destI, ownTok, srcI, isIn, isSl, isSt, appendI, appendL, bnd, aggBin, nilD, isPtr, fieldOf, sized, enumS, seeR, seeL, hasB, flat, flats, List.foldl_nil, List.foldl_cons, Option.getD_some, Option.getD_none, if_true, if_false, reduceIte, reduceCtorEq, Nat.reduceEqDiff, Nat.reduceAdd, Nat.reduceMul, Nat.reduceLT, Nat.reduceSub, Nat.reduceLeDiff, true_and, and_true, List.map_cons, List.map_nil, List.size_toArray, List.length_cons, List.length_nil, Option.map_some, Option.map_none, Option.bind_some, true_implies, Bool.false_eq_true, Bool.true_eq_false, false_implies, Bool.not_true, Bool.not_false, List.getElem?_cons_zero, List.getElem?_cons_succ, implies_true, and_self, Bool.and_true, Bool.true_and, BEq.rfl, and_assoc, Option.isSome_some, Option.isSome_none, List.take_succ_cons, List.take_zero, List.set_cons_zero, List.set_cons_succ, List.forall_mem_cons, List.not_mem_nil, forall_const, List.range, List.range.loop, ne_eq, not_false_eq_true, not_true_eq_false, List.cons.injEq, Prod.mk.injEq, List.append_nil, List.nil_append, List.cons_append, false_and, and_false, Bool.false_and, Bool.and_false, Nat.reduceBNe, Nat.reduceBEq, beq_self_eq_true, bne_self_eq_false, Nat.reduceBeqDiff, Bool.or_false, Bool.false_or, Bool.or_true, Bool.true_or, vs0, vs1, vs2, vs3, vs4, tys, gl0, Tryd.ntmps21, Tryd.results21, arrs_length, dd, strips_arrs]
    rw [hV, ← he]
  have dd : decide (((rowAt l k).length : Int) > 1) = true := decide_eq_true (by omega)
  have hkd : k < dep l.length := hk1.1 hh
  generalize rowAt l k = r at *
  generalize branchTo l i k = out at *
  generalize iAt i k = a at *
  have q1 := half a (by omega)
  have o1 := odd_dec a
  have w1 : IntKind.wrap .i64 ((a : Int) + 1) = (a : Int) + 1 := IntWalk.i64_in _ (by omega)
  have hp := partner_len hk2 hki
  cases hal : aloneN a r.length
  · rw [brOf_no hal] at hsn
    have hea : arrs out ++ [D.arr .u8 32 (partnerP r a)] = arrs (out ++ [partnerP r a]) := arrs_append out [_]
    rcases Nat.mod_two_eq_zero_or_one a with h2 | h2
    · rw [decide_eq_false (show ¬ a % 2 = 1 by omega)] at o1
      have d6 : decide ((a : Int) + 1 < (r.length : Int)) = true := decide_eq_true (by
        have : ¬ a + 1 = r.length := fun e => by
          unfold aloneN at hal
          rw [decide_eq_true h2, decide_eq_true e] at hal
          cases hal
        omega)
      simp (config := {dsimp := false}) only [↓a_range, ↓roundQ_normal, ↓roundQ_ret, ↓roundQ_exit, ↓a_skip, ↓a_exit, ↓a_ret, ↓a_seq, ↓a_cond, ↓a_block, ↓a_loop, ↓a_region, ↓a_draw, ↓a_region', ↓a_draw', ↓then_key, ↓with_key, ↓withY_key, ↓cond_key, ↓one_key, ↓thenQ_normal, ↓thenQ_exit, ↓thenQ_ret, ↓blockQ_normal, ↓blockQ_exit, ↓blockQ_ret, ↓aops, ↓aopsD, ↓imp_tt, ↓imp_ff, ↓imp_tf, ↓imp_ft, ↓imp_tnt, ↓imp_tnf, ↓imp_fnt, ↓imp_fnf, look, setL, resQ, argSlots, buildSt, buildArr, intsOf, eqB, keepSl, bindM, bindP, opR, okIf, ok, bad, ev, ofConst, putS, updS, S.upd, dstOk, yieldD, yieldY, strBin, isShift, cellD, retQ, resD, stripO, convR, conv2R, makeR, indexR, indexAddrR, fieldAddrR, loadR, storeR, allocR, boxR, pickR, buildR, buildSliceR, lenR, nilCheckR, extractR, funcR, ipSlice, sliceR, appendR, callR, minR, maxR, S.box, S.tok, TK.sh, known, tsize, destI, ownTok, srcI, isIn, isSl, isSt, appendI, appendL, bnd, aggBin, nilD, isPtr, fieldOf, sized, enumS, seeR, seeL, hasB, flat, flats, List.foldl_nil, List.foldl_cons, Option.getD_some, Option.getD_none, if_true, if_false, reduceIte, reduceCtorEq, Nat.reduceEqDiff, Nat.reduceAdd, Nat.reduceMul, Nat.reduceLT, Nat.reduceSub, Nat.reduceLeDiff, true_and, and_true, List.map_cons, List.map_nil, List.size_toArray, List.length_cons, List.length_nil, Option.map_some, Option.map_none, Option.bind_some, true_implies, Bool.false_eq_true, Bool.true_eq_false, false_implies, Bool.not_true, Bool.not_false, List.getElem?_cons_zero, List.getElem?_cons_succ, implies_true, and_self, Bool.and_true, Bool.true_and, BEq.rfl, and_assoc, Option.isSome_some, Option.isSome_none, List.take_succ_cons, List.take_zero, List.set_cons_zero, List.set_cons_succ, List.forall_mem_cons, List.not_mem_nil, forall_const, List.range, List.range.loop, ne_eq, not_false_eq_true, not_true_eq_false, List.cons.injEq, Prod.mk.injEq, List.append_nil, List.nil_append, List.cons_append, false_and, and_false, Bool.false_and, Bool.and_false, Nat.reduceBNe, Nat.reduceBEq, beq_self_eq_true, bne_self_eq_false, Nat.reduceBeqDiff, Bool.or_false, Bool.false_or, Bool.or_true, Bool.true_or, vs0, vs1, vs2, vs3, vs4, tys, gl0, Tryd.ntmps21, Tryd.results21, PF.toR, gives, givesIf, arrs_length, dd, o1, w1, d6, q1, strips_arrs, hs_arrs, Int.toNat_natCast, bare_arr, hea, spec_refPartner, sp_refPartner, c_refPartner, b_refPartner, spec_refAbove, sp_refAbove, c_refAbove, b_refAbove]
      refine ⟨by decide, ⟨r, rfl, hk2⟩, by omega, by omega, by omega, by omega, .inr trivial, .inr trivial, ⟨r, rfl, hk2⟩, by omega, hkb, by decide, ⟨k + 1, hkd⟩, ⟨⟨wkD_eq ?_, rfl, wkD_eq ?_, rfl, wkD_eq ?_, rfl, trivial⟩, trivial, ⟨?_, Nat.le_of_ble_eq_true rfl, trivial⟩⟩, by (try simp only); omega⟩
      · exact congrArg (fun x => some (D.sl (.tok 44) 32 (arrs x))) hsn.symm
      · exact congrArg (fun n : Nat => some (D.int .i64 (n : Int))) hin.symm
      · exact congrArg (fun x => some (D.sl .no 32 (arrs x))) hrn.symm
      · exact congrArg (fun n : Nat => some (n, 32)) (by rw [hsn]; simp)
    · rw [decide_eq_true h2] at o1
      simp (config := {dsimp := false}) only [↓a_range, ↓roundQ_normal, ↓roundQ_ret, ↓roundQ_exit, ↓a_skip, ↓a_exit, ↓a_ret, ↓a_seq, ↓a_cond, ↓a_block, ↓a_loop, ↓a_region, ↓a_draw, ↓a_region', ↓a_draw', ↓then_key, ↓with_key, ↓withY_key, ↓cond_key, ↓one_key, ↓thenQ_normal, ↓thenQ_exit, ↓thenQ_ret, ↓blockQ_normal, ↓blockQ_exit, ↓blockQ_ret, ↓aops, ↓aopsD, ↓imp_tt, ↓imp_ff, ↓imp_tf, ↓imp_ft, ↓imp_tnt, ↓imp_tnf, ↓imp_fnt, ↓imp_fnf, look, setL, resQ, argSlots, buildSt, buildArr, intsOf, eqB, keepSl, bindM, bindP, opR, okIf, ok, bad, ev, ofConst, putS, updS, S.upd, dstOk, yieldD, yieldY, strBin, isShift, cellD, retQ, resD, stripO, convR, conv2R, makeR, indexR, indexAddrR, fieldAddrR, loadR, storeR, allocR, boxR, pickR, buildR, buildSliceR, lenR, nilCheckR, extractR, funcR, ipSlice, sliceR, appendR, callR, minR, maxR, S.box, S.tok, TK.sh, known, tsize, destI, ownTok, srcI, isIn, isSl, isSt, appendI, appendL, bnd, aggBin, nilD, isPtr, fieldOf, sized, enumS, seeR, seeL, hasB, flat, flats, List.foldl_nil, List.foldl_cons, Option.getD_some, Option.getD_none, if_true, if_false, reduceIte, reduceCtorEq, Nat.reduceEqDiff, Nat.reduceAdd, Nat.reduceMul, Nat.reduceLT, Nat.reduceSub, Nat.reduceLeDiff, true_and, and_true, List.map_cons, List.map_nil, List.size_toArray, List.length_cons, List.length_nil, Option.map_some, Option.map_none, Option.bind_some, true_implies, Bool.false_eq_true, Bool.true_eq_false, false_implies, Bool.not_true, Bool.not_false, List.getElem?_cons_zero, List.getElem?_cons_succ, implies_true, and_self, Bool.and_true, Bool.true_and, BEq.rfl, and_assoc, Option.isSome_some, Option.isSome_none, List.take_succ_cons, List.take_zero, List.set_cons_zero, List.set_cons_succ, List.forall_mem_cons, List.not_mem_nil, forall_const, List.range, List.range.loop, ne_eq, not_false_eq_true, not_true_eq_false, List.cons.injEq, Prod.mk.injEq, List.append_nil, List.nil_append, List.cons_append, false_and, and_false, Bool.false_and, Bool.and_false, Nat.reduceBNe, Nat.reduceBEq, beq_self_eq_true, bne_self_eq_false, Nat.reduceBeqDiff, Bool.or_false, Bool.false_or, Bool.or_true, Bool.true_or, vs0, vs1, vs2, vs3, vs4, tys, gl0, Tryd.ntmps21, Tryd.results21, PF.toR, gives, givesIf, arrs_length, dd, o1, q1, strips_arrs, hs_arrs, Int.toNat_natCast, bare_arr, hea, spec_refPartner, sp_refPartner, c_refPartner, b_refPartner, spec_refAbove, sp_refAbove, c_refAbove, b_refAbove]
      refine ⟨by decide, ⟨r, rfl, hk2⟩, by omega, by omega, by omega, by omega, .inr trivial, .inr trivial, ⟨r, rfl, hk2⟩, by omega, hkb, by decide, ⟨k + 1, hkd⟩, ⟨⟨wkD_eq ?_, rfl, wkD_eq ?_, rfl, wkD_eq ?_, rfl, trivial⟩, trivial, ⟨?_, Nat.le_of_ble_eq_true rfl, trivial⟩⟩, by (try simp only); omega⟩
      · exact congrArg (fun x => some (D.sl (.tok 44) 32 (arrs x))) hsn.symm
      · exact congrArg (fun n : Nat => some (D.int .i64 (n : Int))) hin.symm
      · exact congrArg (fun x => some (D.sl .no 32 (arrs x))) hrn.symm
      · exact congrArg (fun n : Nat => some (n, 32)) (by rw [hsn]; simp)
  · rw [brOf_yes hal, List.append_nil] at hsn
    have hya : a % 2 = 0 ∧ a + 1 = r.length := by
      unfold aloneN at hal
      rw [Bool.and_eq_true] at hal
      exact ⟨of_decide_eq_true hal.1, of_decide_eq_true hal.2⟩
    rw [decide_eq_false (show ¬ a % 2 = 1 by omega)] at o1
    have d6 : decide ((a : Int) + 1 < (r.length : Int)) = false := decide_eq_false (by omega)
    simp (config := {dsimp := false}) only [↓a_range, ↓roundQ_normal, ↓roundQ_ret, ↓roundQ_exit, ↓a_skip, ↓a_exit, ↓a_ret, ↓a_seq, ↓a_cond, ↓a_block, ↓a_loop, ↓a_region, ↓a_draw, ↓a_region', ↓a_draw', ↓then_key, ↓with_key, ↓withY_key, ↓cond_key, ↓one_key, ↓thenQ_normal, ↓thenQ_exit, ↓thenQ_ret, ↓blockQ_normal, ↓blockQ_exit, ↓blockQ_ret, ↓aops, ↓aopsD, ↓imp_tt, ↓imp_ff, ↓imp_tf, ↓imp_ft, ↓imp_tnt, ↓imp_tnf, ↓imp_fnt, ↓imp_fnf, look, setL, resQ, argSlots, buildSt, buildArr, intsOf, eqB, keepSl, bindM, bindP, opR, okIf, ok, bad, ev, ofConst, putS, updS, S.upd, dstOk, yieldD, yieldY, strBin, isShift, cellD, retQ, resD, stripO, convR, conv2R, makeR, indexR, indexAddrR, fieldAddrR, loadR, storeR, allocR, boxR, pickR, buildR, buildSliceR, lenR, nilCheckR, extractR, funcR, ipSlice, sliceR, appendR, callR, minR, maxR, S.box, S.tok, TK.sh, known, tsize, destI, ownTok, srcI, isIn, isSl, isSt, appendI, appendL, bnd, aggBin, nilD, isPtr, fieldOf, sized, enumS, seeR, seeL, hasB, flat, flats, List.foldl_nil, List.foldl_cons, Option.getD_some, Option.getD_none, if_true, if_false, reduceIte, reduceCtorEq, Nat.reduceEqDiff, Nat.reduceAdd, Nat.reduceMul, Nat.reduceLT, Nat.reduceSub, Nat.reduceLeDiff, true_and, and_true, List.map_cons, List.map_nil, List.size_toArray, List.length_cons, List.length_nil, Option.map_some, Option.map_none, Option.bind_some, true_implies, Bool.false_eq_true, Bool.true_eq_false, false_implies, Bool.not_true, Bool.not_false, List.getElem?_cons_zero, List.getElem?_cons_succ, implies_true, and_self, Bool.and_true, Bool.true_and, BEq.rfl, and_assoc, Option.isSome_some, Option.isSome_none, List.take_succ_cons, List.take_zero, List.set_cons_zero, List.set_cons_succ, List.forall_mem_cons, List.not_mem_nil, forall_const, List.range, List.range.loop, ne_eq, not_false_eq_true, not_true_eq_false, List.cons.injEq, Prod.mk.injEq, List.append_nil, List.nil_append, List.cons_append, false_and, and_false, Bool.false_and, Bool.and_false, Nat.reduceBNe, Nat.reduceBEq, beq_self_eq_true, bne_self_eq_false, Nat.reduceBeqDiff, Bool.or_false, Bool.false_or, Bool.or_true, Bool.true_or, vs0, vs1, vs2, vs3, vs4, tys, gl0, Tryd.ntmps21, Tryd.results21, PF.toR, gives, givesIf, arrs_length, dd, o1, w1, d6, q1, strips_arrs, hs_arrs, spec_refAbove, sp_refAbove, c_refAbove, b_refAbove]
    refine ⟨by decide, ⟨r, rfl, hk2⟩, by omega, hkb, by decide, ⟨k + 1, hkd⟩, ⟨⟨wkD_eq ?_, rfl, wkD_eq ?_, rfl, wkD_eq ?_, rfl, trivial⟩, trivial, ⟨?_, Nat.le_of_ble_eq_true rfl, trivial⟩⟩, by (try simp only); omega⟩
    · exact congrArg (fun x => some (D.sl (.tok 44) 32 (arrs x))) hsn.symm
    · exact congrArg (fun n : Nat => some (D.int .i64 (n : Int))) hin.symm
    · exact congrArg (fun x => some (D.sl .no 32 (arrs x))) hrn.symm
    · exact congrArg (fun n : Nat => some (n, 32)) (by rw [hsn])
end Go.Vi.C8
end

section
/-
  A BRANCH, row by row.
-/
set_option linter.unusedVariables false
namespace Go.Vi

theorem step_out (r : L2) (at_ j : Nat) (out : L2) (hj : j < (r.length + 1) / 2) (ha : at_ < r.length) :
    (if j = at_ / 2 ∧ (pairAt r j).2.2 = false then out ++ [if at_ % 2 = 0 then (pairAt r j).2.1 else (pairAt r j).1] else out) = out ++ (if j = at_ / 2 then brOf r at_ else []) := by
  by_cases h : j = at_ / 2
  · rw [if_pos h]
    by_cases h2 : 2 * j + 2 ≤ r.length
    · have hf : (pairAt r j).2.2 = false := by simp [pairAt, h2]
      rw [if_pos ⟨h, hf⟩]
      have hal : aloneN at_ r.length = false := by
        unfold aloneN
        rcases Nat.mod_two_eq_zero_or_one at_ with e | e
        · rw [decide_eq_false (show ¬ at_ + 1 = r.length by omega), Bool.and_false]
        · rw [decide_eq_false (show ¬ at_ % 2 = 0 by omega), Bool.false_and]
      have hb : brOf r at_ = [partnerP r at_] := if_neg (by rw [hal]; simp)
      rw [hb]
      refine congrArg (fun x => out ++ [x]) ?_
      rcases Nat.mod_two_eq_zero_or_one at_ with e | e
      · rw [if_pos e]
        unfold partnerP pairAt
        simp only
        rw [if_pos h2, if_neg (show ¬ at_ % 2 = 1 by omega), if_neg (by omega), show 2 * j = at_ by omega]
      · rw [if_neg (show ¬ at_ % 2 = 0 by omega)]
        unfold partnerP pairAt
        simp only
        rw [if_pos e, if_neg (by omega), show 2 * j = at_ - 1 by omega]
    · have hf : (pairAt r j).2.2 = true := by simp [pairAt, h2]
      rw [if_neg (by rw [hf]; simp)]
      have hal : aloneN at_ r.length = true := by
        unfold aloneN
        rw [decide_eq_true (show at_ % 2 = 0 by omega), decide_eq_true (show at_ + 1 = r.length by omega)]
        rfl
      unfold brOf
      rw [if_pos hal, List.append_nil]
  · rw [if_neg (fun e => h e.1), if_neg h, List.append_nil]
theorem range_map_snoc (r : L2) (j : Nat) : (List.range (j + 1)).map (pairAt r) = (List.range j).map (pairAt r) ++ [pairAt r j] := by simp [List.range_succ]
theorem step_pre (r : L2) (at_ : Nat) (out : L2) (ha : at_ < r.length) : ∀ j, j < (r.length + 1) / 2 → ((List.range j).map (pairAt r)).foldl stepB (0, at_, out, r.length) = (j, at_, out ++ (if at_ / 2 < j then brOf r at_ else []), r.length)
  | 0, _ => by simp
  | j + 1, hj => by
    rw [range_map_snoc, List.foldl_append, step_pre r at_ out ha j (by omega)]
    simp only [List.foldl_cons, List.foldl_nil, stepB]
    rw [step_out r at_ j _ (by omega) ha, if_neg (by omega)]
    simp only [Prod.mk.injEq, true_and, and_true, List.append_assoc]
    by_cases h1 : at_ / 2 < j
    · rw [if_pos h1, if_neg (by omega), if_pos (by omega), List.append_nil]
    · by_cases h2 : j = at_ / 2
      · rw [if_neg h1, if_pos h2, if_pos (by omega), List.nil_append]
      · rw [if_neg h1, if_neg h2, if_neg (by omega), List.append_nil]
theorem step_row (r : L2) (at_ : Nat) (out : L2) (ha : at_ < r.length) : (pairsOf r).foldl stepB (0, at_, out, r.length) = (0, at_ / 2, out ++ brOf r at_, (r.length + 1) / 2) := by
  unfold pairsOf
  obtain ⟨m, hm⟩ : ∃ m, (r.length + 1) / 2 = m + 1 := ⟨(r.length + 1) / 2 - 1, by omega⟩
  rw [hm, range_map_snoc, List.foldl_append, step_pre r at_ out ha m (by omega)]
  simp only [List.foldl_cons, List.foldl_nil, stepB]
  rw [step_out r at_ m _ (by omega) ha, if_pos hm.symm, List.append_assoc]
  simp only [Prod.mk.injEq, true_and, List.append_cancel_left_eq]
  refine ⟨?_, hm⟩
  by_cases h1 : at_ / 2 < m
  · rw [if_pos h1, if_neg (by omega), List.append_nil]
  · rw [if_neg h1, if_pos (by omega), List.nil_append]
theorem iAt_lt' {l : L2} {i : Nat} (h : i < l.length) : ∀ k, iAt i k < (rowAt l k).length
  | 0 => h
  | k + 1 => by
    have := iAt_lt' h k
    rw [show rowAt l (k + 1) = aboveP (rowAt l k) from rfl, above_len]
    simp only [iAt]
    omega
theorem step_all {l : L2} {i : Nat} (h : i < l.length) : ∀ k, (pairsTo l k).foldl stepB (0, i, [], l.length) = (0, iAt i k, branchTo l i k, (rowAt l k).length)
  | 0 => rfl
  | k + 1 => by
    rw [pairsTo, List.foldl_append, step_all h k, step_row _ _ _ (iAt_lt' h k)]
    simp only [iAt, branchTo, show rowAt l (k + 1) = aboveP (rowAt l k) from rfl, above_len]
end Go.Vi
end

section
/-
  A HASH's BRANCH IS ITS PROOF.
-/
set_option linter.unusedVariables false
namespace Go.Vi

theorem branchTo_front (l : L2) (i : Nat) : ∀ k, branchTo l i (k + 1) = brOf l i ++ branchTo (aboveP l) (i / 2) k
  | 0 => by simp [branchTo, rowAt, iAt]
  | k + 1 => by
    have hi : ∀ k, iAt i (k + 1) = iAt (i / 2) k := by
      intro k
      induction k with
      | zero => rfl
      | succ k ih => simp only [iAt] at ih ⊢; rw [ih]
    rw [branchTo, branchTo_front l i k, rowAt_succ, hi, List.append_assoc]
    rfl
def branchP (l : L2) (i : Nat) : L2 := branchTo l i (dep l.length)
theorem branchP_gt {l : L2} {i : Nat} (h : 1 < l.length) : branchP l i = brOf l i ++ branchP (aboveP l) (i / 2) := by
  unfold branchP
  rw [dep_gt h, Nat.add_comm, branchTo_front, above_len]
theorem branchP_one {l : L2} {i : Nat} (h : l.length ≤ 1) : branchP l i = [] := by
  unfold branchP
  rw [dep_le h]
  rfl
theorem nd_one {i n : Nat} (h : n ≤ 1) : needsN i n = 0 := by rw [needsN]; simp [h]
theorem nd_gt {i n : Nat} (h : ¬ n ≤ 1) : needsN i n = (if aloneN i n = true then 0 else 1) + needsN (i / 2) ((n + 1) / 2) := by rw [needsN]; simp [h]
theorem fd_one {i n : Nat} {x : List Int} {b : L2} (h : n ≤ 1) : foldN x i n b = x := by rw [foldN]; simp [h]
theorem fd_gt {i n : Nat} {x : List Int} {b : L2} (h : ¬ n ≤ 1) : foldN x i n b = foldN (sumP (sumP (stepT x i n b))) (i / 2) ((n + 1) / 2) (stepR i n b) := by
  rw [foldN]
  simp only [h, dif_neg, not_false_eq_true]
  unfold stepT stepR
  by_cases ha : aloneN i n = true
  · simp only [ha, if_true]; rfl
  · simp only [ha, if_false, Bool.false_eq_true]
    split <;> rfl
theorem fo_one {i n : Nat} {x : List Int} {b : L2} (h : n ≤ 1) : foldedN x i n b = [] := by rw [foldedN]; simp [h]
theorem fo_gt {i n : Nat} {x : List Int} {b : L2} (h : ¬ n ≤ 1) : foldedN x i n b = stepT x i n b :: foldedN (sumP (sumP (stepT x i n b))) (i / 2) ((n + 1) / 2) (stepR i n b) := by rw [foldedN]; simp [h]

theorem alone_iff {i n : Nat} : aloneN i n = true ↔ i % 2 = 0 ∧ i + 1 = n := by
  unfold aloneN
  rw [Bool.and_eq_true, decide_eq_true_eq, decide_eq_true_eq]
/-- The row's own text at a hash's place. -/
theorem step_true {l : L2} {i : Nat} (hi : i < l.length) (rest : L2) : stepT (l.getD i []) i l.length (brOf l i ++ rest) = textOf (pairAt l (i / 2)) ∧ stepR i l.length (brOf l i ++ rest) = rest := by
  by_cases ha : aloneN i l.length = true
  · obtain ⟨h1, h2⟩ := alone_iff.1 ha
    unfold stepT stepR brOf
    simp only [ha, if_true, List.nil_append, and_true]
    unfold textOf pairAt
    simp only
    rw [if_neg (by omega), show 2 * (i / 2) = i by omega]
  · have hb : brOf l i = [partnerP l i] := if_neg ha
    rw [hb]
    unfold stepT stepR
    simp only [ha, if_false, Bool.false_eq_true, List.cons_append, List.nil_append, List.getD_cons_zero, List.drop_succ_cons, List.drop_zero, and_true]
    have hn : ¬ (i % 2 = 0 ∧ i + 1 = l.length) := fun e => ha (alone_iff.2 e)
    unfold textOf pairAt partnerP
    simp only
    rcases Nat.mod_two_eq_zero_or_one i with h | h
    · rw [if_pos h, if_neg (show ¬ i % 2 = 1 by omega), if_neg (by omega), if_pos (by omega), show 2 * (i / 2) = i by omega]
    · rw [if_neg (show ¬ i % 2 = 0 by omega), if_pos h, if_neg (by omega), if_pos (by omega), show 2 * (i / 2) = i - 1 by omega, show i - 1 + 1 = i by omega]
theorem above_at {l : L2} {i : Nat} (hi : i < l.length) : (aboveP l).getD (i / 2) [] = sumP (sumP (textOf (pairAt l (i / 2)))) := by
  have : i / 2 < (l.length + 1) / 2 := by omega
  simp only [aboveP, pairsOf, List.map_map]
  simp [List.getD, this]
  rfl
theorem root_one {l : L2} {i : Nat} (h : l.length ≤ 1) (hi : i < l.length) : rootP l = l.getD i [] := by
  obtain rfl : i = 0 := by omega
  have hne : l ≠ [] := by intro e; subst e; simp at hi
  rw [rootP, if_neg hne, dep_le h]
  rfl
/-- A hash's branch folds to the root, and is as long as is needed. -/
theorem fold_branch : ∀ (n : Nat) (l : L2) (i : Nat), l.length = n → i < n → foldN (l.getD i []) i n (branchP l i) = rootP l ∧ (branchP l i).length = needsN i n := by
  intro n
  induction n using Nat.strongRecOn with
  | _ n ih =>
    intro l i hl hi
    subst hl
    rcases Nat.lt_or_ge 1 l.length with hn | hn
    · obtain ⟨e1, e2⟩ := ih ((l.length + 1) / 2) (by omega) (aboveP l) (i / 2) (above_len l) (by omega)
      obtain ⟨s1, s2⟩ := step_true hi (branchP (aboveP l) (i / 2))
      rw [branchP_gt hn]
      constructor
      · rw [fd_gt (by omega), s1, s2, ← above_at hi, e1, ← rootP_above hn]
      · rw [List.length_append, e2, nd_gt (i := i) (n := l.length) (by omega)]
        unfold brOf
        split <;> simp
    · rw [branchP_one hn, fd_one hn, nd_one hn]
      exact ⟨(root_one hn hi).symm, rfl⟩
theorem app_inj {a b c d : List Int} (h : a ++ b = c ++ d) (hl : a.length = c.length) : a = c ∧ b = d := List.append_inj h hl
/-- **Another hash, or another branch, that folds to the root: a clash.** -/
theorem proves : ∀ (n : Nat) (l : L2) (i : Nat) (h : List Int) (b : L2), l.length = n → i < n → h32 l → h.length = 32 → h32 b → b.length = needsN i n → foldN h i n b = rootP l → (h ≠ l.getD i [] ∨ b ≠ branchP l i) →
    ∃ p ∈ allP l, ∃ u ∈ foldedN h i n b, textOf p ≠ u ∧ sumP (sumP (textOf p)) = sumP (sumP u) := by
  intro n
  induction n using Nat.strongRecOn with
  | _ n ih =>
    intro l i h b hl hi h1 h2 h3 hb hf hd
    subst hl
    rcases Nat.lt_or_ge 1 l.length with hn | hn
    · have hn' : ¬ l.length ≤ 1 := by omega
      have mp : pairAt l (i / 2) ∈ allP l := by
        rw [allP_above hn]
        exact List.mem_append_left _ (List.mem_map_of_mem (by simp; omega))
      rw [fd_gt hn'] at hf
      rw [fo_gt hn']
      by_cases hs : sumP (sumP (stepT h i l.length b)) = sumP (sumP (textOf (pairAt l (i / 2))))
      · by_cases ht : textOf (pairAt l (i / 2)) = stepT h i l.length b
        · -- the same text: the difference lies above
          have hsub : h = l.getD i [] ∧ ∃ r, b = brOf l i ++ r ∧ stepR i l.length b = r := by
            have tr := (step_true hi []).1
            rw [List.append_nil] at tr
            rw [← tr] at ht
            have hli := h1 _ (getD_mem hi)
            by_cases ha : aloneN i l.length = true
            · have hbr : brOf l i = [] := if_pos ha
              unfold stepT at ht
              simp only [ha, if_true] at ht
              refine ⟨(app_inj ht (by rw [hli, h2])).1.symm, b, by rw [hbr, List.nil_append], ?_⟩
              unfold stepR
              rw [if_pos ha]
            · have hbr : brOf l i = [partnerP l i] := if_neg ha
              rw [nd_gt hn', if_neg ha] at hb
              obtain ⟨y, r, rfl⟩ : ∃ y r, b = y :: r := by
                cases b with
                | nil => simp at hb; omega
                | cons y r => exact ⟨y, r, rfl⟩
              have hy := h3 y (List.mem_cons_self ..)
              have hpl : (partnerP l i).length = 32 := by
                unfold partnerP
                exact h1 _ (getD_mem (by split <;> (try split) <;> omega))
              rw [hbr] at ht
              unfold stepT at ht
              simp only [ha, if_false, Bool.false_eq_true, List.getD_cons_zero] at ht
              have hr : stepR i l.length (y :: r) = r := by unfold stepR; rw [if_neg ha]; rfl
              rcases Nat.mod_two_eq_zero_or_one i with e | e
              · simp only [e, if_true] at ht
                obtain ⟨q1, q2⟩ := app_inj ht (by rw [hli, h2])
                exact ⟨q1.symm, r, by rw [hbr, q2]; rfl, hr⟩
              · simp only [e, show ¬ (1 : Nat) = 0 by omega, if_false] at ht
                obtain ⟨q1, q2⟩ := app_inj ht (by rw [hpl, hy])
                exact ⟨q2.symm, r, by rw [hbr, q1]; rfl, hr⟩
          obtain ⟨e1, r, e2, e3⟩ := hsub
          have hr32 : h32 r := fun x hx => h3 x (by rw [e2]; exact List.mem_append_right _ hx)
          have hrl : r.length = needsN (i / 2) ((l.length + 1) / 2) := by
            rw [e2, List.length_append, nd_gt hn'] at hb
            have : (brOf l i).length = if aloneN i l.length = true then 0 else 1 := by unfold brOf; split <;> rfl
            omega
          rw [e3] at hf ⊢
          have hh := above_at hi
          rw [rootP_above hn] at hf
          obtain ⟨p, hp, u, hu, q⟩ := ih ((l.length + 1) / 2) (by omega) (aboveP l) (i / 2) _ r (above_len l) (by omega) (row_h32 h1 1) (sum_len _) hr32 hrl hf (.inr fun e => by
            rcases hd with hd | hd
            · exact hd e1
            · exact hd (by rw [e2, e, branchP_gt hn]))
          exact ⟨p, by rw [allP_above hn]; exact List.mem_append_right _ hp, u, List.mem_cons_of_mem _ hu, q⟩
        · exact ⟨_, mp, _, List.mem_cons_self .., ht, hs.symm⟩
      · -- another hash above
        rw [rootP_above hn] at hf
        have hrl : (stepR i l.length b).length = needsN (i / 2) ((l.length + 1) / 2) ∧ h32 (stepR i l.length b) := by
          rw [nd_gt hn'] at hb
          unfold stepR
          split
          · rename_i ha
            rw [if_pos ha] at hb
            exact ⟨by omega, h3⟩
          · rename_i ha
            rw [if_neg ha] at hb
            exact ⟨by rw [List.length_drop]; omega, fun x hx => h3 x (List.mem_of_mem_drop hx)⟩
        obtain ⟨p, hp, u, hu, q⟩ := ih ((l.length + 1) / 2) (by omega) (aboveP l) (i / 2) _ _ (above_len l) (by omega) (row_h32 h1 1) (sum_len _) hrl.2 hrl.1 hf (.inl (by rw [above_at hi]; exact hs))
        exact ⟨p, by rw [allP_above hn]; exact List.mem_append_right _ hp, u, List.mem_cons_of_mem _ hu, q⟩
    · exfalso
      rw [fd_one hn, root_one hn hi] at hf
      rw [nd_one hn] at hb
      rcases hd with hd | hd
      · exact hd hf
      · rw [branchP_one hn] at hd
        exact hd (List.eq_nil_of_length_eq_zero hb)
theorem folded_ok : ∀ (n i : Nat) (h : List Int) (b : L2), h.length = 32 → bytes h → h32 b → (∀ x ∈ b, bytes x) → b.length = needsN i n → ∀ u ∈ foldedN h i n b, u.length < 1000000 ∧ bytes u := by
  intro n
  induction n using Nat.strongRecOn with
  | _ n ih =>
    intro i h b h1 h2 h3 h4 hb u hu
    by_cases hn : n ≤ 1
    · rw [fo_one hn] at hu
      exact absurd hu List.not_mem_nil
    · rw [fo_gt hn] at hu
      rw [nd_gt hn] at hb
      have hst : (stepT h i n b).length = 64 ∧ bytes (stepT h i n b) := by
        unfold stepT
        split
        · exact ⟨by simp [h1], bytes_append h2 h2⟩
        · rename_i ha
          rw [if_neg ha] at hb
          have hm := getD_mem (l := b) (i := 0) (by omega)
          split
          · exact ⟨by rw [List.length_append, h1, h3 _ hm], bytes_append h2 (h4 _ hm)⟩
          · exact ⟨by rw [List.length_append, h1, h3 _ hm], bytes_append (h4 _ hm) h2⟩
      rcases List.mem_cons.1 hu with rfl | hu
      · exact ⟨by omega, hst.2⟩
      · refine ih ((n + 1) / 2) (by omega) (i / 2) _ _ (sum_len _) (bytes_sum _) ?_ ?_ ?_ u hu
        · unfold stepR
          split
          · exact h3
          · exact fun x hx => h3 x (List.mem_of_mem_drop hx)
        · unfold stepR
          split
          · exact h4
          · exact fun x hx => h4 x (List.mem_of_mem_drop hx)
        · unfold stepR
          split
          · rename_i ha; rw [if_pos ha] at hb; omega
          · rename_i ha; rw [if_neg ha] at hb; rw [List.length_drop]; omega
theorem folded_len : ∀ (n i : Nat) (h : List Int) (b : L2), (foldedN h i n b).length ≤ n := by
  intro n
  induction n using Nat.strongRecOn with
  | _ n ih =>
    intro i h b
    by_cases hn : n ≤ 1
    · rw [fo_one hn]; exact Nat.zero_le _
    · rw [fo_gt hn, List.length_cons]
      have := ih ((n + 1) / 2) (by omega) (i / 2) (sumP (sumP (stepT h i n b))) (stepR i n b)
      omega
end Go.Vi
end
