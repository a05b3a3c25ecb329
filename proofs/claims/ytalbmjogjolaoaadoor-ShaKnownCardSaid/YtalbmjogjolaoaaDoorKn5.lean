/- Lemmas for the law proved in the text whose name ends with Law. -/
import Derived.Test.YtalbmjogjolaoaaDoorKn4
import Derived.ProofKit
import Derived.OpenShut
import Derived.LaidMore
import Derived.Lay
import Derived.Stop.Joined
import Derived.Test.YtalbmjogjolaoaaDoorTie
import Derived.Test.YtalbmjogjolaoaaDoorCards
import Derived.SevenTiedAt

section
set_option linter.unusedVariables false
set_option linter.unusedSimpArgs false
set_option maxHeartbeats 0
set_option maxRecDepth 20000
namespace Go.Vi.C1
open Go.Proofs

theorem changeI_len (s b k : List Int) : (changeI s b k).length = 8 := by simp [changeI]
theorem refBlocks_len (k all : List Int) (s : List Int) (h : s.length = 8) : ∀ i, (refBlocks k all i s).length = 8
  | 0 => h
  | i + 1 => changeI_len _ _ _
theorem refPadded_len (b : List Int) (h : b.length < 1000000000) : ∃ m, (refPadded b).length = 64 * m ∧ m < 16000000 := by
  have := refSize_len b.length 8
  refine ⟨(refPadded b).length / 64, ?_, ?_⟩ <;> simp [refPadded, this] <;> unfold pad <;> omega
theorem outBytes_len (s : List Int) : (outBytes s).length = 32 := by simp [outBytes]
theorem c_refSum : Contract E 13 := by
  refine contract_see hE hgl (show E.P.funcs[13]? = some Tryd.f13 from Tryd.func13) rfl (p := sp_refSum) (fun _ _ _ => rfl) ?_
  intro args hv
  unfold sp_refSum at hv ⊢
  split at hv
  case h_2 => exact hv.elim
  rename_i b
  refine ⟨by simp, Nat.le_of_ble_eq_true rfl, ?_⟩
  simp (config := {dsimp := false}) only [↓a_skip, ↓a_exit, ↓a_ret, ↓a_seq, ↓a_cond, ↓a_block, ↓a_loop, ↓a_region, ↓a_draw, ↓a_region', ↓a_draw', ↓then_key, ↓with_key, ↓cond_key, ↓one_key, ↓thenQ_normal, ↓thenQ_exit, ↓thenQ_ret, ↓blockQ_normal, ↓blockQ_exit, ↓blockQ_ret, ↓aops, ↓aopsD, ↓imp_tt, ↓imp_ff, ↓imp_tf, ↓imp_ft, ↓imp_tnt, ↓imp_tnf, ↓imp_fnt, ↓imp_fnf, okD_nil, okD_u, okD_t, thenK_mk, withK_some, condK_bool, oneK_some, look, look_hit, setL, resQ, argSlots, buildSt, buildArr, intsOf, eqB, keepSl, sh_one_one, sh_one_arr, sh_one_st, sh_arr_one, sh_arr_arr, sh_arr_st, sh_st_one, sh_st_arr, sh_st_st, bin_int, bin_str, bin_bool, bin_arr, bin_agg, un_neg, un_xor, un_not, i_add, i_sub, i_mul, i_quo, i_rem, i_and, i_or, i_xor, i_andNot, i_eql, i_neq, i_lss, i_leq, i_gtr, i_geq, s_shl, s_shr, opR, okIf, ok, bad, ev, ofConst, putS, updS, S.upd, dstOk, yieldD, strBin, isShift, cellD, retQ, resD, stripO, convR, conv2R, makeR, indexR, indexAddrR, fieldAddrR, loadR, storeR, allocR, boxR, pickR, buildR, buildSliceR, lenR, nilCheckR, extractR, funcR, sliceR, appendR, callR, S.box, S.tok, TK.sh, known, tsize, destI, ownTok, srcI, isIn, isSl, isSt, appendI, appendL, bnd, aggBin, nilD, isPtr, fieldOf, sized, enumS, seeR, seeL, hasB, flat, flats, nil1_none, nil1_sl, nil1_sl', nil1_sli, nil1_bsl, nilK_cons, nilK_nil, nilK_nil', see_any, isB_any, see_int, isB_int, see_bool, isB_bool, see_str, isB_str, see_raw, isB_raw, see_arr, isB_arr, see_agg, isB_agg, see_tup, isB_tup, see_sli, isB_sli, see_sl, isB_sl, see_bp, isB_bp, see_be, isB_be, see_ip, isB_ip, see_fn, isB_fn, see_bsl, isB_bsl, seen_arr, List.foldl_nil, List.foldl_cons, Option.getD_some, Option.getD_none, if_true, if_false, reduceIte, reduceCtorEq, Nat.reduceEqDiff, Nat.reduceAdd, Nat.reduceMul, Nat.reduceLT, Nat.reduceSub, Nat.reduceLeDiff, true_and, and_true, List.map_cons, List.map_nil, List.size_toArray, List.length_cons, List.length_nil, Option.map_some, Option.map_none, Option.bind_some, true_implies, Bool.false_eq_true, Bool.true_eq_false, false_implies, Bool.not_true, Bool.not_false, List.getElem?_cons_zero, List.getElem?_cons_succ, implies_true, and_self, Bool.and_true, Bool.true_and, BEq.rfl, and_assoc, Option.isSome_some, Option.isSome_none, List.take_succ_cons, List.take_zero, List.set_cons_zero, List.set_cons_succ, List.forall_mem_cons, List.not_mem_nil, forall_const, List.range, List.range.loop, ne_eq, not_false_eq_true, not_true_eq_false, List.cons.injEq, Prod.mk.injEq, List.append_nil, List.nil_append, List.cons_append, false_and, and_false, Bool.false_and, Bool.and_false, Nat.reduceBNe, Nat.reduceBEq, beq_self_eq_true, bne_self_eq_false, Nat.reduceBeqDiff, Bool.or_false, Bool.false_or, Bool.or_true, Bool.true_or, size_any, isOne_any, stor_any, fits_any, strip_any, sub_any, put_any, size_int, isOne_int, stor_int, fits_int, strip_int, sub_int, put_int, size_bool, isOne_bool, stor_bool, fits_bool, strip_bool, sub_bool, put_bool, size_str, isOne_str, stor_str, fits_str, strip_str, sub_str, put_str, size_raw, isOne_raw, fits_raw, strip_raw, sub_raw, put_raw, size_arr, isOne_arr, stor_arr, fits_arr, strip_arr, sub_arr, put_arr, size_agg, isOne_agg, stor_agg, fits_agg, strip_agg, sub_agg, put_agg, isOne_tup, stor_tup, fits_tup, strip_tup, sub_tup, put_tup, size_sli, isOne_sli, stor_sli, fits_sli, strip_sli, sub_sli, put_sli, size_sl, isOne_sl, stor_sl, fits_sl, strip_sl, sub_sl, put_sl, size_bp, isOne_bp, stor_bp, fits_bp, strip_bp, sub_bp, put_bp, size_be, isOne_be, stor_be, fits_be, strip_be, sub_be, put_be, size_bsl, isOne_bsl, stor_bsl, fits_bsl, strip_bsl, sub_bsl, put_bsl, size_ip, isOne_ip, stor_ip, fits_ip, strip_ip, sub_ip, put_ip, size_fn, isOne_fn, stor_fn, fits_fn, strip_fn, sub_fn, put_fn, stor_nil, stor_nilf, stor_nili, sizes_nil, sizes_cons, subs_nil, subs_cons, puts_nil, puts_cons, strips_nil, strips_cons, ty1, ty2, ty3, ty4, ty5, ty9, ty12, ty20, ty21, ty22, ty23, ty24, ty25, ty26, ty27, ty28, ty29, ty30, ty31, ty32, ty33, ty34, ty35, ty36, ty37, ty39, ty40, ty41, ty42, ty43, ty44, ty45, ty46, ty47, ty48, ty49, ty50, ty51, ty52, ty53, ty54, ty55, ty56, ty57, ty58, ty59, ty60, ty61, ty62, ty63, ty64, ty65, ty66, ty67, ty68, ty69, ty70, ty71, ty72, ty73, ty74, ty75, ty76, ty77, ty78, ty79, ty80, ty82, ty83, ty89, ty92, ty95, gl0, Tryd.ntmps13, Tryd.results13, PF.toR, gives, givesIf, spec_refClosing, sp_refClosing, c_refClosing, b_refClosing, spec_refRoundNumbers, sp_refRoundNumbers, c_refRoundNumbers, b_refRoundNumbers, spec_refFirst, sp_refFirst, c_refFirst, b_refFirst]
  simp only [givesIf] at hv ⊢
  obtain ⟨m, hm, hm2⟩ := refPadded_len b hv
  have hpl : b.length + (refPadded b).length < 3000000000 := by omega
  have hpd : b ++ 128 :: (List.replicate (pad b.length) 0 ++ (refSize b.length 8).1) = refPadded b := by simp [refPadded]
  have hlen : b.length + ((List.replicate (pad ↑b.length) (0 : Int) ++ (refSize (↑b.length) 8).fst).length + 1) = (refPadded b).length := by rw [← hpd]; simp
  refine ⟨by omega, by omega, by omega, by simp, by rw [hlen]; omega, ?_⟩
  rw [hpd, hlen]
  refine loopI (Fin (m + 1)) (fun i => [(6, .int .i64 (64 * (i.1 : Int))), (3, .sli (.tok 16) .u8 (refPadded b)), (4, .sli .full .u32 kList), (5, .sli .no .u32 (refBlocks kList (refPadded b) i.1 h0)), (2, .bp 0 0)]) (fun _ => ⟨[(0, .arr .u8 32 (List.replicate 32 0))], [(16, ((refPadded b).length, 1))], 68⟩) (fun i => m - i.1) 0 (fun _ => rfl) ?_ ?_
  · exact ⟨⟨wkD_eq rfl, rfl, wkD_eq rfl, rfl, wkD_eq rfl, rfl, .inr ⟨_, rfl⟩, rfl, wkD_eq rfl, rfl, trivial⟩, ⟨rfl, Nat.le_of_ble_eq_true rfl, rfl, trivial⟩, ⟨rfl, Nat.le_of_ble_eq_true rfl, trivial⟩⟩
  rintro ⟨i, hi⟩
  simp (config := {dsimp := false}) only [↓a_skip, ↓a_exit, ↓a_ret, ↓a_seq, ↓a_cond, ↓a_block, ↓a_loop, ↓a_region, ↓a_draw, ↓a_region', ↓a_draw', ↓then_key, ↓with_key, ↓cond_key, ↓one_key, ↓thenQ_normal, ↓thenQ_exit, ↓thenQ_ret, ↓blockQ_normal, ↓blockQ_exit, ↓blockQ_ret, ↓aops, ↓aopsD, ↓imp_tt, ↓imp_ff, ↓imp_tf, ↓imp_ft, ↓imp_tnt, ↓imp_tnf, ↓imp_fnt, ↓imp_fnf, okD_nil, okD_u, okD_t, thenK_mk, withK_some, condK_bool, oneK_some, look, look_hit, setL, resQ, argSlots, buildSt, buildArr, intsOf, eqB, keepSl, sh_one_one, sh_one_arr, sh_one_st, sh_arr_one, sh_arr_arr, sh_arr_st, sh_st_one, sh_st_arr, sh_st_st, bin_int, bin_str, bin_bool, bin_arr, bin_agg, un_neg, un_xor, un_not, i_add, i_sub, i_mul, i_quo, i_rem, i_and, i_or, i_xor, i_andNot, i_eql, i_neq, i_lss, i_leq, i_gtr, i_geq, s_shl, s_shr, opR, okIf, ok, bad, ev, ofConst, putS, updS, S.upd, dstOk, yieldD, strBin, isShift, cellD, retQ, resD, stripO, convR, conv2R, makeR, indexR, indexAddrR, fieldAddrR, loadR, storeR, allocR, boxR, pickR, buildR, buildSliceR, lenR, nilCheckR, extractR, funcR, sliceR, appendR, callR, S.box, S.tok, TK.sh, known, tsize, destI, ownTok, srcI, isIn, isSl, isSt, appendI, appendL, bnd, aggBin, nilD, isPtr, fieldOf, sized, enumS, seeR, seeL, hasB, flat, flats, nil1_none, nil1_sl, nil1_sl', nil1_sli, nil1_bsl, nilK_cons, nilK_nil, nilK_nil', see_any, isB_any, see_int, isB_int, see_bool, isB_bool, see_str, isB_str, see_raw, isB_raw, see_arr, isB_arr, see_agg, isB_agg, see_tup, isB_tup, see_sli, isB_sli, see_sl, isB_sl, see_bp, isB_bp, see_be, isB_be, see_ip, isB_ip, see_fn, isB_fn, see_bsl, isB_bsl, seen_arr, List.foldl_nil, List.foldl_cons, Option.getD_some, Option.getD_none, if_true, if_false, reduceIte, reduceCtorEq, Nat.reduceEqDiff, Nat.reduceAdd, Nat.reduceMul, Nat.reduceLT, Nat.reduceSub, Nat.reduceLeDiff, true_and, and_true, List.map_cons, List.map_nil, List.size_toArray, List.length_cons, List.length_nil, Option.map_some, Option.map_none, Option.bind_some, true_implies, Bool.false_eq_true, Bool.true_eq_false, false_implies, Bool.not_true, Bool.not_false, List.getElem?_cons_zero, List.getElem?_cons_succ, implies_true, and_self, Bool.and_true, Bool.true_and, BEq.rfl, and_assoc, Option.isSome_some, Option.isSome_none, List.take_succ_cons, List.take_zero, List.set_cons_zero, List.set_cons_succ, List.forall_mem_cons, List.not_mem_nil, forall_const, List.range, List.range.loop, ne_eq, not_false_eq_true, not_true_eq_false, List.cons.injEq, Prod.mk.injEq, List.append_nil, List.nil_append, List.cons_append, false_and, and_false, Bool.false_and, Bool.and_false, Nat.reduceBNe, Nat.reduceBEq, beq_self_eq_true, bne_self_eq_false, Nat.reduceBeqDiff, Bool.or_false, Bool.false_or, Bool.or_true, Bool.true_or, size_any, isOne_any, stor_any, fits_any, strip_any, sub_any, put_any, size_int, isOne_int, stor_int, fits_int, strip_int, sub_int, put_int, size_bool, isOne_bool, stor_bool, fits_bool, strip_bool, sub_bool, put_bool, size_str, isOne_str, stor_str, fits_str, strip_str, sub_str, put_str, size_raw, isOne_raw, fits_raw, strip_raw, sub_raw, put_raw, size_arr, isOne_arr, stor_arr, fits_arr, strip_arr, sub_arr, put_arr, size_agg, isOne_agg, stor_agg, fits_agg, strip_agg, sub_agg, put_agg, isOne_tup, stor_tup, fits_tup, strip_tup, sub_tup, put_tup, size_sli, isOne_sli, stor_sli, fits_sli, strip_sli, sub_sli, put_sli, size_sl, isOne_sl, stor_sl, fits_sl, strip_sl, sub_sl, put_sl, size_bp, isOne_bp, stor_bp, fits_bp, strip_bp, sub_bp, put_bp, size_be, isOne_be, stor_be, fits_be, strip_be, sub_be, put_be, size_bsl, isOne_bsl, stor_bsl, fits_bsl, strip_bsl, sub_bsl, put_bsl, size_ip, isOne_ip, stor_ip, fits_ip, strip_ip, sub_ip, put_ip, size_fn, isOne_fn, stor_fn, fits_fn, strip_fn, sub_fn, put_fn, stor_nil, stor_nilf, stor_nili, sizes_nil, sizes_cons, subs_nil, subs_cons, puts_nil, puts_cons, strips_nil, strips_cons, ty1, ty2, ty3, ty4, ty5, ty9, ty12, ty20, ty21, ty22, ty23, ty24, ty25, ty26, ty27, ty28, ty29, ty30, ty31, ty32, ty33, ty34, ty35, ty36, ty37, ty39, ty40, ty41, ty42, ty43, ty44, ty45, ty46, ty47, ty48, ty49, ty50, ty51, ty52, ty53, ty54, ty55, ty56, ty57, ty58, ty59, ty60, ty61, ty62, ty63, ty64, ty65, ty66, ty67, ty68, ty69, ty70, ty71, ty72, ty73, ty74, ty75, ty76, ty77, ty78, ty79, ty80, ty82, ty83, ty89, ty92, ty95, gl0, Tryd.ntmps13, Tryd.results13, PF.toR, gives, givesIf, spec_refChange, sp_refChange, c_refChange, b_refChange]
  have hbl := refBlocks_len kList (refPadded b) h0 rfl i
  refine ⟨fun h => ?_, fun h => ?_⟩
  · have h := of_decide_eq_true h
    have e1 : IntKind.wrap .i64 (64 * (i : Int) + 64) = 64 * i + 64 := IntWalk.i64_in _ (by omega)
    have e2 : (64 * (i : Int) + 64).toNat = 64 * i + 64 := by omega
    have e3 : (64 * (i : Int)).toNat = 64 * i := by omega
    rw [e1, e2, e3]
    have hd : 64 ≤ (List.drop (64 * i) (List.take (64 * i + 64) (refPadded b))).length := by simp; omega
    refine ⟨by omega, by omega, by omega, Int.le_refl _, hbl, hd, rfl, ⟨i + 1, by omega⟩, ⟨⟨wkD_eq ?_, rfl, wkD_eq rfl, rfl, wkD_eq rfl, rfl, wkD_eq rfl, rfl, wkD_eq rfl, rfl, trivial⟩, ⟨rfl, Nat.le_of_ble_eq_true rfl, rfl, trivial⟩, ⟨rfl, Nat.le_of_ble_eq_true rfl, trivial⟩⟩, by (try simp only); omega⟩
    exact some_int (by simp only; omega)
  · have h := of_decide_eq_false h
    obtain rfl : i = m := by omega
    generalize hst : refBlocks kList (refPadded b) i h0 = st at hbl ⊢
    refine loopI (Fin 33) (fun j => [(8, .int .i64 (j.1 : Int)), (7, .bp 84 0), (5, .sli .no .u32 st), (2, .bp 0 0)]) (fun j => ⟨[(0, .arr .u8 32 (List.replicate 32 0)), (84, .arr .u8 32 ((outBytes st).take j.1 ++ List.replicate (32 - j.1) 0))], [], 92⟩) (fun j => 32 - j.1) 0 (fun _ => rfl) ?_ ?_
    · exact ⟨⟨wkD_eq rfl, rfl, wkD_eq rfl, rfl, wkD_eq rfl, rfl, wkD_eq rfl, rfl, trivial⟩, ⟨rfl, Nat.le_of_ble_eq_true rfl, rfl, rfl, Nat.le_of_ble_eq_true rfl, rfl, trivial⟩, trivial⟩
    rintro ⟨j, hj⟩
    simp (config := {dsimp := false}) only [↓a_skip, ↓a_exit, ↓a_ret, ↓a_seq, ↓a_cond, ↓a_block, ↓a_loop, ↓a_region, ↓a_draw, ↓a_region', ↓a_draw', ↓then_key, ↓with_key, ↓cond_key, ↓one_key, ↓thenQ_normal, ↓thenQ_exit, ↓thenQ_ret, ↓blockQ_normal, ↓blockQ_exit, ↓blockQ_ret, ↓aops, ↓aopsD, ↓imp_tt, ↓imp_ff, ↓imp_tf, ↓imp_ft, ↓imp_tnt, ↓imp_tnf, ↓imp_fnt, ↓imp_fnf, okD_nil, okD_u, okD_t, thenK_mk, withK_some, condK_bool, oneK_some, look, look_hit, setL, resQ, argSlots, buildSt, buildArr, intsOf, eqB, keepSl, sh_one_one, sh_one_arr, sh_one_st, sh_arr_one, sh_arr_arr, sh_arr_st, sh_st_one, sh_st_arr, sh_st_st, bin_int, bin_str, bin_bool, bin_arr, bin_agg, un_neg, un_xor, un_not, i_add, i_sub, i_mul, i_quo, i_rem, i_and, i_or, i_xor, i_andNot, i_eql, i_neq, i_lss, i_leq, i_gtr, i_geq, s_shl, s_shr, opR, okIf, ok, bad, ev, ofConst, putS, updS, S.upd, dstOk, yieldD, strBin, isShift, cellD, retQ, resD, stripO, convR, conv2R, makeR, indexR, indexAddrR, fieldAddrR, loadR, storeR, allocR, boxR, pickR, buildR, buildSliceR, lenR, nilCheckR, extractR, funcR, sliceR, appendR, callR, S.box, S.tok, TK.sh, known, tsize, destI, ownTok, srcI, isIn, isSl, isSt, appendI, appendL, bnd, aggBin, nilD, isPtr, fieldOf, sized, enumS, seeR, seeL, hasB, flat, flats, nil1_none, nil1_sl, nil1_sl', nil1_sli, nil1_bsl, nilK_cons, nilK_nil, nilK_nil', see_any, isB_any, see_int, isB_int, see_bool, isB_bool, see_str, isB_str, see_raw, isB_raw, see_arr, isB_arr, see_agg, isB_agg, see_tup, isB_tup, see_sli, isB_sli, see_sl, isB_sl, see_bp, isB_bp, see_be, isB_be, see_ip, isB_ip, see_fn, isB_fn, see_bsl, isB_bsl, seen_arr, List.foldl_nil, List.foldl_cons, Option.getD_some, Option.getD_none, if_true, if_false, reduceIte, reduceCtorEq, Nat.reduceEqDiff, Nat.reduceAdd, Nat.reduceMul, Nat.reduceLT, Nat.reduceSub, Nat.reduceLeDiff, true_and, and_true, List.map_cons, List.map_nil, List.size_toArray, List.length_cons, List.length_nil, Option.map_some, Option.map_none, Option.bind_some, true_implies, Bool.false_eq_true, Bool.true_eq_false, false_implies, Bool.not_true, Bool.not_false, List.getElem?_cons_zero, List.getElem?_cons_succ, implies_true, and_self, Bool.and_true, Bool.true_and, BEq.rfl, and_assoc, Option.isSome_some, Option.isSome_none, List.take_succ_cons, List.take_zero, List.set_cons_zero, List.set_cons_succ, List.forall_mem_cons, List.not_mem_nil, forall_const, List.range, List.range.loop, ne_eq, not_false_eq_true, not_true_eq_false, List.cons.injEq, Prod.mk.injEq, List.append_nil, List.nil_append, List.cons_append, false_and, and_false, Bool.false_and, Bool.and_false, Nat.reduceBNe, Nat.reduceBEq, beq_self_eq_true, bne_self_eq_false, Nat.reduceBeqDiff, Bool.or_false, Bool.false_or, Bool.or_true, Bool.true_or, size_any, isOne_any, stor_any, fits_any, strip_any, sub_any, put_any, size_int, isOne_int, stor_int, fits_int, strip_int, sub_int, put_int, size_bool, isOne_bool, stor_bool, fits_bool, strip_bool, sub_bool, put_bool, size_str, isOne_str, stor_str, fits_str, strip_str, sub_str, put_str, size_raw, isOne_raw, fits_raw, strip_raw, sub_raw, put_raw, size_arr, isOne_arr, stor_arr, fits_arr, strip_arr, sub_arr, put_arr, size_agg, isOne_agg, stor_agg, fits_agg, strip_agg, sub_agg, put_agg, isOne_tup, stor_tup, fits_tup, strip_tup, sub_tup, put_tup, size_sli, isOne_sli, stor_sli, fits_sli, strip_sli, sub_sli, put_sli, size_sl, isOne_sl, stor_sl, fits_sl, strip_sl, sub_sl, put_sl, size_bp, isOne_bp, stor_bp, fits_bp, strip_bp, sub_bp, put_bp, size_be, isOne_be, stor_be, fits_be, strip_be, sub_be, put_be, size_bsl, isOne_bsl, stor_bsl, fits_bsl, strip_bsl, sub_bsl, put_bsl, size_ip, isOne_ip, stor_ip, fits_ip, strip_ip, sub_ip, put_ip, size_fn, isOne_fn, stor_fn, fits_fn, strip_fn, sub_fn, put_fn, stor_nil, stor_nilf, stor_nili, sizes_nil, sizes_cons, subs_nil, subs_cons, puts_nil, puts_cons, strips_nil, strips_cons, ty1, ty2, ty3, ty4, ty5, ty9, ty12, ty20, ty21, ty22, ty23, ty24, ty25, ty26, ty27, ty28, ty29, ty30, ty31, ty32, ty33, ty34, ty35, ty36, ty37, ty39, ty40, ty41, ty42, ty43, ty44, ty45, ty46, ty47, ty48, ty49, ty50, ty51, ty52, ty53, ty54, ty55, ty56, ty57, ty58, ty59, ty60, ty61, ty62, ty63, ty64, ty65, ty66, ty67, ty68, ty69, ty70, ty71, ty72, ty73, ty74, ty75, ty76, ty77, ty78, ty79, ty80, ty82, ty83, ty89, ty92, ty95, gl0, Tryd.ntmps13, Tryd.results13]
    refine ⟨fun h => ?_, fun h => ?_⟩
    · have h := of_decide_eq_true h
      have e4 : IntKind.wrap .i64 ((j : Int).tdiv 4) = j / 4 := by rw [Int.tdiv_eq_ediv_of_nonneg (by omega), IntWalk.i64_in _ (by omega)]
      have e5 : (j : Int).tmod 4 = ((j % 4 : Nat) : Int) := by rw [Int.tmod_eq_emod_of_nonneg (by omega)]; omega
      have e6 : ((j : Int) / 4).toNat = j / 4 := by omega
      rw [e4, e5, e6]
      refine ⟨by decide, by omega, by omega, by decide, ?_⟩
      refine loopI (Fin (4 - j % 4)) (fun k => [(10, .int .i64 (j % 4 + (k.1 : Int))), (9, .int .u32 (iterI (fun x => IntKind.wrap .u32 (x.tdiv 256)) k.1 (st.getD (j / 4) 0))), (8, .int .i64 (j : Int)), (7, .bp 84 0), (5, .sli .no .u32 st), (2, .bp 0 0)]) (fun _ => ⟨[(0, .arr .u8 32 (List.replicate 32 0)), (84, .arr .u8 32 ((outBytes st).take j ++ List.replicate (32 - j) 0))], [], 136⟩) (fun k => 4 - k.1) ⟨0, by omega⟩ (fun _ => rfl) ?_ ?_
      · refine ⟨⟨wkD_eq ?_, rfl, wkD_eq rfl, rfl, wkD_eq rfl, rfl, wkD_eq rfl, rfl, wkD_eq rfl, rfl, wkD_eq rfl, rfl, trivial⟩, ⟨rfl, Nat.le_of_ble_eq_true rfl, rfl, rfl, Nat.le_of_ble_eq_true rfl, rfl, trivial⟩, trivial⟩
        exact some_int (by simp)
      rintro ⟨k, hk⟩
      simp (config := {dsimp := false}) only [↓a_skip, ↓a_exit, ↓a_ret, ↓a_seq, ↓a_cond, ↓a_block, ↓a_loop, ↓a_region, ↓a_draw, ↓a_region', ↓a_draw', ↓then_key, ↓with_key, ↓cond_key, ↓one_key, ↓thenQ_normal, ↓thenQ_exit, ↓thenQ_ret, ↓blockQ_normal, ↓blockQ_exit, ↓blockQ_ret, ↓aops, ↓aopsD, ↓imp_tt, ↓imp_ff, ↓imp_tf, ↓imp_ft, ↓imp_tnt, ↓imp_tnf, ↓imp_fnt, ↓imp_fnf, okD_nil, okD_u, okD_t, thenK_mk, withK_some, condK_bool, oneK_some, look, look_hit, setL, resQ, argSlots, buildSt, buildArr, intsOf, eqB, keepSl, sh_one_one, sh_one_arr, sh_one_st, sh_arr_one, sh_arr_arr, sh_arr_st, sh_st_one, sh_st_arr, sh_st_st, bin_int, bin_str, bin_bool, bin_arr, bin_agg, un_neg, un_xor, un_not, i_add, i_sub, i_mul, i_quo, i_rem, i_and, i_or, i_xor, i_andNot, i_eql, i_neq, i_lss, i_leq, i_gtr, i_geq, s_shl, s_shr, opR, okIf, ok, bad, ev, ofConst, putS, updS, S.upd, dstOk, yieldD, strBin, isShift, cellD, retQ, resD, stripO, convR, conv2R, makeR, indexR, indexAddrR, fieldAddrR, loadR, storeR, allocR, boxR, pickR, buildR, buildSliceR, lenR, nilCheckR, extractR, funcR, sliceR, appendR, callR, S.box, S.tok, TK.sh, known, tsize, destI, ownTok, srcI, isIn, isSl, isSt, appendI, appendL, bnd, aggBin, nilD, isPtr, fieldOf, sized, enumS, seeR, seeL, hasB, flat, flats, nil1_none, nil1_sl, nil1_sl', nil1_sli, nil1_bsl, nilK_cons, nilK_nil, nilK_nil', see_any, isB_any, see_int, isB_int, see_bool, isB_bool, see_str, isB_str, see_raw, isB_raw, see_arr, isB_arr, see_agg, isB_agg, see_tup, isB_tup, see_sli, isB_sli, see_sl, isB_sl, see_bp, isB_bp, see_be, isB_be, see_ip, isB_ip, see_fn, isB_fn, see_bsl, isB_bsl, seen_arr, List.foldl_nil, List.foldl_cons, Option.getD_some, Option.getD_none, if_true, if_false, reduceIte, reduceCtorEq, Nat.reduceEqDiff, Nat.reduceAdd, Nat.reduceMul, Nat.reduceLT, Nat.reduceSub, Nat.reduceLeDiff, true_and, and_true, List.map_cons, List.map_nil, List.size_toArray, List.length_cons, List.length_nil, Option.map_some, Option.map_none, Option.bind_some, true_implies, Bool.false_eq_true, Bool.true_eq_false, false_implies, Bool.not_true, Bool.not_false, List.getElem?_cons_zero, List.getElem?_cons_succ, implies_true, and_self, Bool.and_true, Bool.true_and, BEq.rfl, and_assoc, Option.isSome_some, Option.isSome_none, List.take_succ_cons, List.take_zero, List.set_cons_zero, List.set_cons_succ, List.forall_mem_cons, List.not_mem_nil, forall_const, List.range, List.range.loop, ne_eq, not_false_eq_true, not_true_eq_false, List.cons.injEq, Prod.mk.injEq, List.append_nil, List.nil_append, List.cons_append, false_and, and_false, Bool.false_and, Bool.and_false, Nat.reduceBNe, Nat.reduceBEq, beq_self_eq_true, bne_self_eq_false, Nat.reduceBeqDiff, Bool.or_false, Bool.false_or, Bool.or_true, Bool.true_or, size_any, isOne_any, stor_any, fits_any, strip_any, sub_any, put_any, size_int, isOne_int, stor_int, fits_int, strip_int, sub_int, put_int, size_bool, isOne_bool, stor_bool, fits_bool, strip_bool, sub_bool, put_bool, size_str, isOne_str, stor_str, fits_str, strip_str, sub_str, put_str, size_raw, isOne_raw, fits_raw, strip_raw, sub_raw, put_raw, size_arr, isOne_arr, stor_arr, fits_arr, strip_arr, sub_arr, put_arr, size_agg, isOne_agg, stor_agg, fits_agg, strip_agg, sub_agg, put_agg, isOne_tup, stor_tup, fits_tup, strip_tup, sub_tup, put_tup, size_sli, isOne_sli, stor_sli, fits_sli, strip_sli, sub_sli, put_sli, size_sl, isOne_sl, stor_sl, fits_sl, strip_sl, sub_sl, put_sl, size_bp, isOne_bp, stor_bp, fits_bp, strip_bp, sub_bp, put_bp, size_be, isOne_be, stor_be, fits_be, strip_be, sub_be, put_be, size_bsl, isOne_bsl, stor_bsl, fits_bsl, strip_bsl, sub_bsl, put_bsl, size_ip, isOne_ip, stor_ip, fits_ip, strip_ip, sub_ip, put_ip, size_fn, isOne_fn, stor_fn, fits_fn, strip_fn, sub_fn, put_fn, stor_nil, stor_nilf, stor_nili, sizes_nil, sizes_cons, subs_nil, subs_cons, puts_nil, puts_cons, strips_nil, strips_cons, ty1, ty2, ty3, ty4, ty5, ty9, ty12, ty20, ty21, ty22, ty23, ty24, ty25, ty26, ty27, ty28, ty29, ty30, ty31, ty32, ty33, ty34, ty35, ty36, ty37, ty39, ty40, ty41, ty42, ty43, ty44, ty45, ty46, ty47, ty48, ty49, ty50, ty51, ty52, ty53, ty54, ty55, ty56, ty57, ty58, ty59, ty60, ty61, ty62, ty63, ty64, ty65, ty66, ty67, ty68, ty69, ty70, ty71, ty72, ty73, ty74, ty75, ty76, ty77, ty78, ty79, ty80, ty82, ty83, ty89, ty92, ty95, gl0, Tryd.ntmps13, Tryd.results13]
      refine ⟨fun h => ?_, fun h => ?_⟩
      · have h := of_decide_eq_true h
        refine ⟨by decide, ⟨k + 1, by omega⟩, ⟨⟨wkD_eq ?_, rfl, wkD_eq rfl, rfl, wkD_eq rfl, rfl, wkD_eq rfl, rfl, wkD_eq rfl, rfl, wkD_eq rfl, rfl, trivial⟩, ⟨rfl, Nat.le_of_ble_eq_true rfl, rfl, rfl, Nat.le_of_ble_eq_true rfl, rfl, trivial⟩, trivial⟩, by (try simp only); omega⟩
        exact some_i64 (by (try simp only); omega)
      · have h := of_decide_eq_false h
        obtain rfl : k = 3 - j % 4 := by omega
        refine ⟨by decide, by omega, by omega, ⟨j + 1, by omega⟩, ⟨⟨wkD_eq ?_, rfl, wkD_eq rfl, rfl, wkD_eq rfl, rfl, wkD_eq rfl, rfl, trivial⟩, ⟨rfl, Nat.le_of_ble_eq_true rfl, rfl, ?_, Nat.le_of_ble_eq_true rfl, rfl, trivial⟩, trivial⟩, by (try simp only); omega⟩
        · exact some_i64 (by (try simp only); omega)
        · refine some_arr ?_
          have hol := outBytes_len st
          have hj' : j < 32 := by omega
          have ht : ((outBytes st).take j).length = j := by simp; omega
          rw [show ((j : Int)).toNat = j from rfl, List.set_append_right _ _ (by omega), ht, Nat.sub_self, show 32 - j = (32 - (j + 1)) + 1 by omega, List.replicate_succ, List.set_cons_zero, List.take_add_one, List.getElem?_eq_getElem (by omega)]
          simp [outBytes]
    · have h := of_decide_eq_false h
      obtain rfl : j = 32 := by omega
      have hol := outBytes_len st
      rw [List.take_of_length_le (by omega)]
      subst hst
      have : (refPadded b).length / 64 = i := by omega
      simp [refSumI, this]
theorem c_refTwice : Contract E 15 := by
  refine contract_see hE hgl (show E.P.funcs[15]? = some Tryd.f15 from Tryd.func15) rfl (p := sp_refTwice) (fun _ _ _ => rfl) ?_
  intro args hv
  unfold sp_refTwice at hv ⊢
  split at hv
  case h_2 => exact hv.elim
  rename_i b
  refine ⟨by simp, Nat.le_of_ble_eq_true rfl, ?_⟩
  simp only [givesIf] at hv
  simp (config := {dsimp := false}) only [↓a_skip, ↓a_exit, ↓a_ret, ↓a_seq, ↓a_cond, ↓a_block, ↓a_loop, ↓a_region, ↓a_draw, ↓a_region', ↓a_draw', ↓then_key, ↓with_key, ↓cond_key, ↓one_key, ↓thenQ_normal, ↓thenQ_exit, ↓thenQ_ret, ↓blockQ_normal, ↓blockQ_exit, ↓blockQ_ret, ↓aops, ↓aopsD, ↓imp_tt, ↓imp_ff, ↓imp_tf, ↓imp_ft, ↓imp_tnt, ↓imp_tnf, ↓imp_fnt, ↓imp_fnf, okD_nil, okD_u, okD_t, thenK_mk, withK_some, condK_bool, oneK_some, look, look_hit, setL, resQ, argSlots, buildSt, buildArr, intsOf, eqB, keepSl, sh_one_one, sh_one_arr, sh_one_st, sh_arr_one, sh_arr_arr, sh_arr_st, sh_st_one, sh_st_arr, sh_st_st, bin_int, bin_str, bin_bool, bin_arr, bin_agg, un_neg, un_xor, un_not, i_add, i_sub, i_mul, i_quo, i_rem, i_and, i_or, i_xor, i_andNot, i_eql, i_neq, i_lss, i_leq, i_gtr, i_geq, s_shl, s_shr, opR, okIf, ok, bad, ev, ofConst, putS, updS, S.upd, dstOk, yieldD, strBin, isShift, cellD, retQ, resD, stripO, convR, conv2R, makeR, indexR, indexAddrR, fieldAddrR, loadR, storeR, allocR, boxR, pickR, buildR, buildSliceR, lenR, nilCheckR, extractR, funcR, sliceR, appendR, callR, S.box, S.tok, TK.sh, known, tsize, destI, ownTok, srcI, isIn, isSl, isSt, appendI, appendL, bnd, aggBin, nilD, isPtr, fieldOf, sized, enumS, seeR, seeL, hasB, flat, flats, nil1_none, nil1_sl, nil1_sl', nil1_sli, nil1_bsl, nilK_cons, nilK_nil, nilK_nil', see_any, isB_any, see_int, isB_int, see_bool, isB_bool, see_str, isB_str, see_raw, isB_raw, see_arr, isB_arr, see_agg, isB_agg, see_tup, isB_tup, see_sli, isB_sli, see_sl, isB_sl, see_bp, isB_bp, see_be, isB_be, see_ip, isB_ip, see_fn, isB_fn, see_bsl, isB_bsl, seen_arr, List.foldl_nil, List.foldl_cons, Option.getD_some, Option.getD_none, if_true, if_false, reduceIte, reduceCtorEq, Nat.reduceEqDiff, Nat.reduceAdd, Nat.reduceMul, Nat.reduceLT, Nat.reduceSub, Nat.reduceLeDiff, true_and, and_true, List.map_cons, List.map_nil, List.size_toArray, List.length_cons, List.length_nil, Option.map_some, Option.map_none, Option.bind_some, true_implies, Bool.false_eq_true, Bool.true_eq_false, false_implies, Bool.not_true, Bool.not_false, List.getElem?_cons_zero, List.getElem?_cons_succ, implies_true, and_self, Bool.and_true, Bool.true_and, BEq.rfl, and_assoc, Option.isSome_some, Option.isSome_none, List.take_succ_cons, List.take_zero, List.set_cons_zero, List.set_cons_succ, List.forall_mem_cons, List.not_mem_nil, forall_const, List.range, List.range.loop, ne_eq, not_false_eq_true, not_true_eq_false, List.cons.injEq, Prod.mk.injEq, List.append_nil, List.nil_append, List.cons_append, false_and, and_false, Bool.false_and, Bool.and_false, Nat.reduceBNe, Nat.reduceBEq, beq_self_eq_true, bne_self_eq_false, Nat.reduceBeqDiff, Bool.or_false, Bool.false_or, Bool.or_true, Bool.true_or, size_any, isOne_any, stor_any, fits_any, strip_any, sub_any, put_any, size_int, isOne_int, stor_int, fits_int, strip_int, sub_int, put_int, size_bool, isOne_bool, stor_bool, fits_bool, strip_bool, sub_bool, put_bool, size_str, isOne_str, stor_str, fits_str, strip_str, sub_str, put_str, size_raw, isOne_raw, fits_raw, strip_raw, sub_raw, put_raw, size_arr, isOne_arr, stor_arr, fits_arr, strip_arr, sub_arr, put_arr, size_agg, isOne_agg, stor_agg, fits_agg, strip_agg, sub_agg, put_agg, isOne_tup, stor_tup, fits_tup, strip_tup, sub_tup, put_tup, size_sli, isOne_sli, stor_sli, fits_sli, strip_sli, sub_sli, put_sli, size_sl, isOne_sl, stor_sl, fits_sl, strip_sl, sub_sl, put_sl, size_bp, isOne_bp, stor_bp, fits_bp, strip_bp, sub_bp, put_bp, size_be, isOne_be, stor_be, fits_be, strip_be, sub_be, put_be, size_bsl, isOne_bsl, stor_bsl, fits_bsl, strip_bsl, sub_bsl, put_bsl, size_ip, isOne_ip, stor_ip, fits_ip, strip_ip, sub_ip, put_ip, size_fn, isOne_fn, stor_fn, fits_fn, strip_fn, sub_fn, put_fn, stor_nil, stor_nilf, stor_nili, sizes_nil, sizes_cons, subs_nil, subs_cons, puts_nil, puts_cons, strips_nil, strips_cons, ty1, ty2, ty3, ty4, ty5, ty9, ty12, ty20, ty21, ty22, ty23, ty24, ty25, ty26, ty27, ty28, ty29, ty30, ty31, ty32, ty33, ty34, ty35, ty36, ty37, ty39, ty40, ty41, ty42, ty43, ty44, ty45, ty46, ty47, ty48, ty49, ty50, ty51, ty52, ty53, ty54, ty55, ty56, ty57, ty58, ty59, ty60, ty61, ty62, ty63, ty64, ty65, ty66, ty67, ty68, ty69, ty70, ty71, ty72, ty73, ty74, ty75, ty76, ty77, ty78, ty79, ty80, ty82, ty83, ty89, ty92, ty95, gl0, Tryd.ntmps15, Tryd.results15, PF.toR, gives, givesIf, spec_refSum, sp_refSum, c_refSum, b_refSum]
  refine ⟨hv, ?_⟩
  have hl : (refSumI b).length = 32 := outBytes_len _
  refine loopA [(4, some .u8)] ?_
  simp only [adopt, look, reduceIte, Nat.reduceEqDiff, if_false, setL, Nat.reduceAdd]
  refine ⟨Fin 33, fun i => [(4, .sli (.tok 28) .u8 ((refSumI b).take i.1)), (5, .int .i64 (i.1 : Int)), (3, .bp 12 0), (2, .bp 0 0)], fun i => ⟨[(0, .arr .u8 32 (List.replicate 32 0)), (12, .arr .u8 32 (refSumI b))], [(28, (i.1, 1))], 32⟩, fun i => 32 - i.1, 0, fun _ => rfl, ⟨⟨wkD_eq rfl, rfl, wkD_eq rfl, rfl, wkD_eq rfl, rfl, wkD_eq rfl, rfl, trivial⟩, ⟨rfl, Nat.le_of_ble_eq_true rfl, rfl, rfl, Nat.le_of_ble_eq_true rfl, rfl, trivial⟩, ⟨rfl, Nat.le_of_ble_eq_true rfl, trivial⟩⟩, ?_⟩
  rintro ⟨i, hi⟩
  simp (config := {dsimp := false}) only [↓a_skip, ↓a_exit, ↓a_ret, ↓a_seq, ↓a_cond, ↓a_block, ↓a_loop, ↓a_region, ↓a_draw, ↓a_region', ↓a_draw', ↓then_key, ↓with_key, ↓cond_key, ↓one_key, ↓thenQ_normal, ↓thenQ_exit, ↓thenQ_ret, ↓blockQ_normal, ↓blockQ_exit, ↓blockQ_ret, ↓aops, ↓aopsD, ↓imp_tt, ↓imp_ff, ↓imp_tf, ↓imp_ft, ↓imp_tnt, ↓imp_tnf, ↓imp_fnt, ↓imp_fnf, okD_nil, okD_u, okD_t, thenK_mk, withK_some, condK_bool, oneK_some, look, look_hit, setL, resQ, argSlots, buildSt, buildArr, intsOf, eqB, keepSl, sh_one_one, sh_one_arr, sh_one_st, sh_arr_one, sh_arr_arr, sh_arr_st, sh_st_one, sh_st_arr, sh_st_st, bin_int, bin_str, bin_bool, bin_arr, bin_agg, un_neg, un_xor, un_not, i_add, i_sub, i_mul, i_quo, i_rem, i_and, i_or, i_xor, i_andNot, i_eql, i_neq, i_lss, i_leq, i_gtr, i_geq, s_shl, s_shr, opR, okIf, ok, bad, ev, ofConst, putS, updS, S.upd, dstOk, yieldD, strBin, isShift, cellD, retQ, resD, stripO, convR, conv2R, makeR, indexR, indexAddrR, fieldAddrR, loadR, storeR, allocR, boxR, pickR, buildR, buildSliceR, lenR, nilCheckR, extractR, funcR, sliceR, appendR, callR, S.box, S.tok, TK.sh, known, tsize, destI, ownTok, srcI, isIn, isSl, isSt, appendI, appendL, bnd, aggBin, nilD, isPtr, fieldOf, sized, enumS, seeR, seeL, hasB, flat, flats, nil1_none, nil1_sl, nil1_sl', nil1_sli, nil1_bsl, nilK_cons, nilK_nil, nilK_nil', see_any, isB_any, see_int, isB_int, see_bool, isB_bool, see_str, isB_str, see_raw, isB_raw, see_arr, isB_arr, see_agg, isB_agg, see_tup, isB_tup, see_sli, isB_sli, see_sl, isB_sl, see_bp, isB_bp, see_be, isB_be, see_ip, isB_ip, see_fn, isB_fn, see_bsl, isB_bsl, seen_arr, List.foldl_nil, List.foldl_cons, Option.getD_some, Option.getD_none, if_true, if_false, reduceIte, reduceCtorEq, Nat.reduceEqDiff, Nat.reduceAdd, Nat.reduceMul, Nat.reduceLT, Nat.reduceSub, Nat.reduceLeDiff, true_and, and_true, List.map_cons, List.map_nil, List.size_toArray, List.length_cons, List.length_nil, Option.map_some, Option.map_none, Option.bind_some, true_implies, Bool.false_eq_true, Bool.true_eq_false, false_implies, Bool.not_true, Bool.not_false, List.getElem?_cons_zero, List.getElem?_cons_succ, implies_true, and_self, Bool.and_true, Bool.true_and, BEq.rfl, and_assoc, Option.isSome_some, Option.isSome_none, List.take_succ_cons, List.take_zero, List.set_cons_zero, List.set_cons_succ, List.forall_mem_cons, List.not_mem_nil, forall_const, List.range, List.range.loop, ne_eq, not_false_eq_true, not_true_eq_false, List.cons.injEq, Prod.mk.injEq, List.append_nil, List.nil_append, List.cons_append, false_and, and_false, Bool.false_and, Bool.and_false, Nat.reduceBNe, Nat.reduceBEq, beq_self_eq_true, bne_self_eq_false, Nat.reduceBeqDiff, Bool.or_false, Bool.false_or, Bool.or_true, Bool.true_or, size_any, isOne_any, stor_any, fits_any, strip_any, sub_any, put_any, size_int, isOne_int, stor_int, fits_int, strip_int, sub_int, put_int, size_bool, isOne_bool, stor_bool, fits_bool, strip_bool, sub_bool, put_bool, size_str, isOne_str, stor_str, fits_str, strip_str, sub_str, put_str, size_raw, isOne_raw, fits_raw, strip_raw, sub_raw, put_raw, size_arr, isOne_arr, stor_arr, fits_arr, strip_arr, sub_arr, put_arr, size_agg, isOne_agg, stor_agg, fits_agg, strip_agg, sub_agg, put_agg, isOne_tup, stor_tup, fits_tup, strip_tup, sub_tup, put_tup, size_sli, isOne_sli, stor_sli, fits_sli, strip_sli, sub_sli, put_sli, size_sl, isOne_sl, stor_sl, fits_sl, strip_sl, sub_sl, put_sl, size_bp, isOne_bp, stor_bp, fits_bp, strip_bp, sub_bp, put_bp, size_be, isOne_be, stor_be, fits_be, strip_be, sub_be, put_be, size_bsl, isOne_bsl, stor_bsl, fits_bsl, strip_bsl, sub_bsl, put_bsl, size_ip, isOne_ip, stor_ip, fits_ip, strip_ip, sub_ip, put_ip, size_fn, isOne_fn, stor_fn, fits_fn, strip_fn, sub_fn, put_fn, stor_nil, stor_nilf, stor_nili, sizes_nil, sizes_cons, subs_nil, subs_cons, puts_nil, puts_cons, strips_nil, strips_cons, ty1, ty2, ty3, ty4, ty5, ty9, ty12, ty20, ty21, ty22, ty23, ty24, ty25, ty26, ty27, ty28, ty29, ty30, ty31, ty32, ty33, ty34, ty35, ty36, ty37, ty39, ty40, ty41, ty42, ty43, ty44, ty45, ty46, ty47, ty48, ty49, ty50, ty51, ty52, ty53, ty54, ty55, ty56, ty57, ty58, ty59, ty60, ty61, ty62, ty63, ty64, ty65, ty66, ty67, ty68, ty69, ty70, ty71, ty72, ty73, ty74, ty75, ty76, ty77, ty78, ty79, ty80, ty82, ty83, ty89, ty92, ty95, gl0, Tryd.ntmps15, Tryd.results15, PF.toR, gives, givesIf, spec_refSum, sp_refSum, c_refSum, b_refSum]
  have hti : ((refSumI b).take i).length = i := by simp; omega
  refine ⟨fun hh => ?_, fun hh => ?_⟩
  · have hh := of_decide_eq_true hh
    rw [hti]
    refine ⟨by omega, by omega, rfl, by omega, ⟨i + 1, by omega⟩, ⟨⟨wkD_eq ?_, rfl, wkD_eq ?_, rfl, wkD_eq rfl, rfl, wkD_eq rfl, rfl, trivial⟩, ⟨rfl, Nat.le_of_ble_eq_true rfl, rfl, rfl, Nat.le_of_ble_eq_true rfl, rfl, trivial⟩, ⟨?_, Nat.le_of_ble_eq_true rfl, trivial⟩⟩, by (try simp only); omega⟩
    · refine some_sli ?_
      rw [List.take_add_one, List.getElem?_eq_getElem (by omega)]
      simp [List.getD, List.getElem?_eq_getElem (show i < (refSumI b).length by omega)]
    · exact some_i64 (by (try simp only); omega)
    · rfl
  · have hh := of_decide_eq_false hh
    obtain rfl : i = 32 := by omega
    rw [List.take_of_length_le (by omega)]
    first | exact ⟨by omega, rfl⟩ | (rw [outBytes_len]; omega) | trace_state
theorem refTextI_len (h : List Int) : (refTextI h).length = 64 := by simp [refTextI]
theorem refTextI_at (h : List Int) (i : Nat) (hi : i < 64) : (refTextI h)[i]? = some (hexOf (if i % 2 = 1 then (h.getD (i / 2) 0).tmod 16 else IntKind.wrap .u8 ((h.getD (i / 2) 0).tdiv 16))) := by
  simp only [refTextI, List.getElem?_map, List.getElem?_range hi, Option.map_some]
theorem c_refText : Contract E 22 := by
  refine contract_see hE hgl (show E.P.funcs[22]? = some Tryd.f22 from Tryd.func22) rfl (p := sp_refText) (fun _ _ _ => rfl) ?_
  intro args hv
  unfold sp_refText at hv ⊢
  split at hv
  case h_2 => exact hv.elim
  rename_i h
  refine ⟨by simp, Nat.le_of_ble_eq_true rfl, ?_⟩
  simp only [givesIf] at hv
  simp (config := {dsimp := false}) only [↓a_skip, ↓a_exit, ↓a_ret, ↓a_seq, ↓a_cond, ↓a_block, ↓a_loop, ↓a_region, ↓a_draw, ↓a_region', ↓a_draw', ↓then_key, ↓with_key, ↓cond_key, ↓one_key, ↓thenQ_normal, ↓thenQ_exit, ↓thenQ_ret, ↓blockQ_normal, ↓blockQ_exit, ↓blockQ_ret, ↓aops, ↓aopsD, ↓imp_tt, ↓imp_ff, ↓imp_tf, ↓imp_ft, ↓imp_tnt, ↓imp_tnf, ↓imp_fnt, ↓imp_fnf, okD_nil, okD_u, okD_t, thenK_mk, withK_some, condK_bool, oneK_some, look, look_hit, setL, resQ, argSlots, buildSt, buildArr, intsOf, eqB, keepSl, sh_one_one, sh_one_arr, sh_one_st, sh_arr_one, sh_arr_arr, sh_arr_st, sh_st_one, sh_st_arr, sh_st_st, bin_int, bin_str, bin_bool, bin_arr, bin_agg, un_neg, un_xor, un_not, i_add, i_sub, i_mul, i_quo, i_rem, i_and, i_or, i_xor, i_andNot, i_eql, i_neq, i_lss, i_leq, i_gtr, i_geq, s_shl, s_shr, opR, okIf, ok, bad, ev, ofConst, putS, updS, S.upd, dstOk, yieldD, strBin, isShift, cellD, retQ, resD, stripO, convR, conv2R, makeR, indexR, indexAddrR, fieldAddrR, loadR, storeR, allocR, boxR, pickR, buildR, buildSliceR, lenR, nilCheckR, extractR, funcR, sliceR, appendR, callR, S.box, S.tok, TK.sh, known, tsize, destI, ownTok, srcI, isIn, isSl, isSt, appendI, appendL, bnd, aggBin, nilD, isPtr, fieldOf, sized, enumS, seeR, seeL, hasB, flat, flats, nil1_none, nil1_sl, nil1_sl', nil1_sli, nil1_bsl, nilK_cons, nilK_nil, nilK_nil', see_any, isB_any, see_int, isB_int, see_bool, isB_bool, see_str, isB_str, see_raw, isB_raw, see_arr, isB_arr, see_agg, isB_agg, see_tup, isB_tup, see_sli, isB_sli, see_sl, isB_sl, see_bp, isB_bp, see_be, isB_be, see_ip, isB_ip, see_fn, isB_fn, see_bsl, isB_bsl, seen_arr, List.foldl_nil, List.foldl_cons, Option.getD_some, Option.getD_none, if_true, if_false, reduceIte, reduceCtorEq, Nat.reduceEqDiff, Nat.reduceAdd, Nat.reduceMul, Nat.reduceLT, Nat.reduceSub, Nat.reduceLeDiff, true_and, and_true, List.map_cons, List.map_nil, List.size_toArray, List.length_cons, List.length_nil, Option.map_some, Option.map_none, Option.bind_some, true_implies, Bool.false_eq_true, Bool.true_eq_false, false_implies, Bool.not_true, Bool.not_false, List.getElem?_cons_zero, List.getElem?_cons_succ, implies_true, and_self, Bool.and_true, Bool.true_and, BEq.rfl, and_assoc, Option.isSome_some, Option.isSome_none, List.take_succ_cons, List.take_zero, List.set_cons_zero, List.set_cons_succ, List.forall_mem_cons, List.not_mem_nil, forall_const, List.range, List.range.loop, ne_eq, not_false_eq_true, not_true_eq_false, List.cons.injEq, Prod.mk.injEq, List.append_nil, List.nil_append, List.cons_append, false_and, and_false, Bool.false_and, Bool.and_false, Nat.reduceBNe, Nat.reduceBEq, beq_self_eq_true, bne_self_eq_false, Nat.reduceBeqDiff, Bool.or_false, Bool.false_or, Bool.or_true, Bool.true_or, size_any, isOne_any, stor_any, fits_any, strip_any, sub_any, put_any, size_int, isOne_int, stor_int, fits_int, strip_int, sub_int, put_int, size_bool, isOne_bool, stor_bool, fits_bool, strip_bool, sub_bool, put_bool, size_str, isOne_str, stor_str, fits_str, strip_str, sub_str, put_str, size_raw, isOne_raw, fits_raw, strip_raw, sub_raw, put_raw, size_arr, isOne_arr, stor_arr, fits_arr, strip_arr, sub_arr, put_arr, size_agg, isOne_agg, stor_agg, fits_agg, strip_agg, sub_agg, put_agg, isOne_tup, stor_tup, fits_tup, strip_tup, sub_tup, put_tup, size_sli, isOne_sli, stor_sli, fits_sli, strip_sli, sub_sli, put_sli, size_sl, isOne_sl, stor_sl, fits_sl, strip_sl, sub_sl, put_sl, size_bp, isOne_bp, stor_bp, fits_bp, strip_bp, sub_bp, put_bp, size_be, isOne_be, stor_be, fits_be, strip_be, sub_be, put_be, size_bsl, isOne_bsl, stor_bsl, fits_bsl, strip_bsl, sub_bsl, put_bsl, size_ip, isOne_ip, stor_ip, fits_ip, strip_ip, sub_ip, put_ip, size_fn, isOne_fn, stor_fn, fits_fn, strip_fn, sub_fn, put_fn, stor_nil, stor_nilf, stor_nili, sizes_nil, sizes_cons, subs_nil, subs_cons, puts_nil, puts_cons, strips_nil, strips_cons, ty1, ty2, ty3, ty4, ty5, ty9, ty12, ty20, ty21, ty22, ty23, ty24, ty25, ty26, ty27, ty28, ty29, ty30, ty31, ty32, ty33, ty34, ty35, ty36, ty37, ty39, ty40, ty41, ty42, ty43, ty44, ty45, ty46, ty47, ty48, ty49, ty50, ty51, ty52, ty53, ty54, ty55, ty56, ty57, ty58, ty59, ty60, ty61, ty62, ty63, ty64, ty65, ty66, ty67, ty68, ty69, ty70, ty71, ty72, ty73, ty74, ty75, ty76, ty77, ty78, ty79, ty80, ty82, ty83, ty89, ty92, ty95, gl0, Tryd.ntmps22, Tryd.results22, PF.toR, gives, givesIf]
  refine loopA [(3, some .u8)] ?_
  simp only [adopt, look, reduceIte, Nat.reduceEqDiff, if_false, setL, Nat.reduceAdd]
  have hl := refTextI_len h
  refine ⟨Fin 33, fun i => [(3, .sli (.tok 16) .u8 ((refTextI h).take (2 * i.1))), (4, .int .i64 (i.1 : Int)), (1, .bp 0 0)], fun i => ⟨[(0, .arr .u8 32 h)], [(16, (2 * i.1, 1))], 20⟩, fun i => 32 - i.1, 0, fun _ => rfl, ⟨⟨wkD_eq rfl, rfl, wkD_eq rfl, rfl, wkD_eq rfl, rfl, trivial⟩, ⟨rfl, Nat.le_of_ble_eq_true rfl, rfl, trivial⟩, ⟨rfl, Nat.le_of_ble_eq_true rfl, trivial⟩⟩, ?_⟩
  rintro ⟨i, hi⟩
  simp (config := {dsimp := false}) only [↓a_skip, ↓a_exit, ↓a_ret, ↓a_seq, ↓a_cond, ↓a_block, ↓a_loop, ↓a_region, ↓a_draw, ↓a_region', ↓a_draw', ↓then_key, ↓with_key, ↓cond_key, ↓one_key, ↓thenQ_normal, ↓thenQ_exit, ↓thenQ_ret, ↓blockQ_normal, ↓blockQ_exit, ↓blockQ_ret, ↓aops, ↓aopsD, ↓imp_tt, ↓imp_ff, ↓imp_tf, ↓imp_ft, ↓imp_tnt, ↓imp_tnf, ↓imp_fnt, ↓imp_fnf, okD_nil, okD_u, okD_t, thenK_mk, withK_some, condK_bool, oneK_some, look, look_hit, setL, resQ, argSlots, buildSt, buildArr, intsOf, eqB, keepSl, sh_one_one, sh_one_arr, sh_one_st, sh_arr_one, sh_arr_arr, sh_arr_st, sh_st_one, sh_st_arr, sh_st_st, bin_int, bin_str, bin_bool, bin_arr, bin_agg, un_neg, un_xor, un_not, i_add, i_sub, i_mul, i_quo, i_rem, i_and, i_or, i_xor, i_andNot, i_eql, i_neq, i_lss, i_leq, i_gtr, i_geq, s_shl, s_shr, opR, okIf, ok, bad, ev, ofConst, putS, updS, S.upd, dstOk, yieldD, strBin, isShift, cellD, retQ, resD, stripO, convR, conv2R, makeR, indexR, indexAddrR, fieldAddrR, loadR, storeR, allocR, boxR, pickR, buildR, buildSliceR, lenR, nilCheckR, extractR, funcR, sliceR, appendR, callR, S.box, S.tok, TK.sh, known, tsize, destI, ownTok, srcI, isIn, isSl, isSt, appendI, appendL, bnd, aggBin, nilD, isPtr, fieldOf, sized, enumS, seeR, seeL, hasB, flat, flats, nil1_none, nil1_sl, nil1_sl', nil1_sli, nil1_bsl, nilK_cons, nilK_nil, nilK_nil', see_any, isB_any, see_int, isB_int, see_bool, isB_bool, see_str, isB_str, see_raw, isB_raw, see_arr, isB_arr, see_agg, isB_agg, see_tup, isB_tup, see_sli, isB_sli, see_sl, isB_sl, see_bp, isB_bp, see_be, isB_be, see_ip, isB_ip, see_fn, isB_fn, see_bsl, isB_bsl, seen_arr, List.foldl_nil, List.foldl_cons, Option.getD_some, Option.getD_none, if_true, if_false, reduceIte, reduceCtorEq, Nat.reduceEqDiff, Nat.reduceAdd, Nat.reduceMul, Nat.reduceLT, Nat.reduceSub, Nat.reduceLeDiff, true_and, and_true, List.map_cons, List.map_nil, List.size_toArray, List.length_cons, List.length_nil, Option.map_some, Option.map_none, Option.bind_some, true_implies, Bool.false_eq_true, Bool.true_eq_false, false_implies, Bool.not_true, Bool.not_false, List.getElem?_cons_zero, List.getElem?_cons_succ, implies_true, and_self, Bool.and_true, Bool.true_and, BEq.rfl, and_assoc, Option.isSome_some, Option.isSome_none, List.take_succ_cons, List.take_zero, List.set_cons_zero, List.set_cons_succ, List.forall_mem_cons, List.not_mem_nil, forall_const, List.range, List.range.loop, ne_eq, not_false_eq_true, not_true_eq_false, List.cons.injEq, Prod.mk.injEq, List.append_nil, List.nil_append, List.cons_append, false_and, and_false, Bool.false_and, Bool.and_false, Nat.reduceBNe, Nat.reduceBEq, beq_self_eq_true, bne_self_eq_false, Nat.reduceBeqDiff, Bool.or_false, Bool.false_or, Bool.or_true, Bool.true_or, size_any, isOne_any, stor_any, fits_any, strip_any, sub_any, put_any, size_int, isOne_int, stor_int, fits_int, strip_int, sub_int, put_int, size_bool, isOne_bool, stor_bool, fits_bool, strip_bool, sub_bool, put_bool, size_str, isOne_str, stor_str, fits_str, strip_str, sub_str, put_str, size_raw, isOne_raw, fits_raw, strip_raw, sub_raw, put_raw, size_arr, isOne_arr, stor_arr, fits_arr, strip_arr, sub_arr, put_arr, size_agg, isOne_agg, stor_agg, fits_agg, strip_agg, sub_agg, put_agg, isOne_tup, stor_tup, fits_tup, strip_tup, sub_tup, put_tup, size_sli, isOne_sli, stor_sli, fits_sli, strip_sli, sub_sli, put_sli, size_sl, isOne_sl, stor_sl, fits_sl, strip_sl, sub_sl, put_sl, size_bp, isOne_bp, stor_bp, fits_bp, strip_bp, sub_bp, put_bp, size_be, isOne_be, stor_be, fits_be, strip_be, sub_be, put_be, size_bsl, isOne_bsl, stor_bsl, fits_bsl, strip_bsl, sub_bsl, put_bsl, size_ip, isOne_ip, stor_ip, fits_ip, strip_ip, sub_ip, put_ip, size_fn, isOne_fn, stor_fn, fits_fn, strip_fn, sub_fn, put_fn, stor_nil, stor_nilf, stor_nili, sizes_nil, sizes_cons, subs_nil, subs_cons, puts_nil, puts_cons, strips_nil, strips_cons, ty1, ty2, ty3, ty4, ty5, ty9, ty12, ty20, ty21, ty22, ty23, ty24, ty25, ty26, ty27, ty28, ty29, ty30, ty31, ty32, ty33, ty34, ty35, ty36, ty37, ty39, ty40, ty41, ty42, ty43, ty44, ty45, ty46, ty47, ty48, ty49, ty50, ty51, ty52, ty53, ty54, ty55, ty56, ty57, ty58, ty59, ty60, ty61, ty62, ty63, ty64, ty65, ty66, ty67, ty68, ty69, ty70, ty71, ty72, ty73, ty74, ty75, ty76, ty77, ty78, ty79, ty80, ty82, ty83, ty89, ty92, ty95, gl0, Tryd.ntmps22, Tryd.results22, PF.toR, gives, givesIf]
  refine ⟨fun hh => ?_, fun hh => ?_⟩
  · have hh := of_decide_eq_true hh
    have hi32 : i < 32 := by omega
    have hg := hv.2 (h.getD i 0) (by
      have : i < h.length := by omega
      simp [List.getD, this])
    refine loopI (Fin 3) (fun k => [(3, .sli (.tok 16) .u8 ((refTextI h).take (2 * i + k.1))), (5, .int .i64 (k.1 : Int)), (4, .int .i64 (i : Int)), (1, .bp 0 0)]) (fun k => ⟨[(0, .arr .u8 32 h)], [(16, (2 * i + k.1, 1))], 32⟩) (fun k => 2 - k.1) 0 (fun _ => rfl) ⟨⟨wkD_eq rfl, rfl, wkD_eq rfl, rfl, wkD_eq rfl, rfl, wkD_eq rfl, rfl, trivial⟩, ⟨rfl, Nat.le_of_ble_eq_true rfl, rfl, trivial⟩, ⟨rfl, Nat.le_of_ble_eq_true rfl, trivial⟩⟩ ?_
    rintro ⟨k, hk⟩
    simp (config := {dsimp := false}) only [↓a_skip, ↓a_exit, ↓a_ret, ↓a_seq, ↓a_cond, ↓a_block, ↓a_loop, ↓a_region, ↓a_draw, ↓a_region', ↓a_draw', ↓then_key, ↓with_key, ↓cond_key, ↓one_key, ↓thenQ_normal, ↓thenQ_exit, ↓thenQ_ret, ↓blockQ_normal, ↓blockQ_exit, ↓blockQ_ret, ↓aops, ↓aopsD, ↓imp_tt, ↓imp_ff, ↓imp_tf, ↓imp_ft, ↓imp_tnt, ↓imp_tnf, ↓imp_fnt, ↓imp_fnf, okD_nil, okD_u, okD_t, thenK_mk, withK_some, condK_bool, oneK_some, look, look_hit, setL, resQ, argSlots, buildSt, buildArr, intsOf, eqB, keepSl, sh_one_one, sh_one_arr, sh_one_st, sh_arr_one, sh_arr_arr, sh_arr_st, sh_st_one, sh_st_arr, sh_st_st, bin_int, bin_str, bin_bool, bin_arr, bin_agg, un_neg, un_xor, un_not, i_add, i_sub, i_mul, i_quo, i_rem, i_and, i_or, i_xor, i_andNot, i_eql, i_neq, i_lss, i_leq, i_gtr, i_geq, s_shl, s_shr, opR, okIf, ok, bad, ev, ofConst, putS, updS, S.upd, dstOk, yieldD, strBin, isShift, cellD, retQ, resD, stripO, convR, conv2R, makeR, indexR, indexAddrR, fieldAddrR, loadR, storeR, allocR, boxR, pickR, buildR, buildSliceR, lenR, nilCheckR, extractR, funcR, sliceR, appendR, callR, S.box, S.tok, TK.sh, known, tsize, destI, ownTok, srcI, isIn, isSl, isSt, appendI, appendL, bnd, aggBin, nilD, isPtr, fieldOf, sized, enumS, seeR, seeL, hasB, flat, flats, nil1_none, nil1_sl, nil1_sl', nil1_sli, nil1_bsl, nilK_cons, nilK_nil, nilK_nil', see_any, isB_any, see_int, isB_int, see_bool, isB_bool, see_str, isB_str, see_raw, isB_raw, see_arr, isB_arr, see_agg, isB_agg, see_tup, isB_tup, see_sli, isB_sli, see_sl, isB_sl, see_bp, isB_bp, see_be, isB_be, see_ip, isB_ip, see_fn, isB_fn, see_bsl, isB_bsl, seen_arr, List.foldl_nil, List.foldl_cons, Option.getD_some, Option.getD_none, if_true, if_false, reduceIte, reduceCtorEq, Nat.reduceEqDiff, Nat.reduceAdd, Nat.reduceMul, Nat.reduceLT, Nat.reduceSub, Nat.reduceLeDiff, true_and, and_true, List.map_cons, List.map_nil, List.size_toArray, List.length_cons, List.length_nil, Option.map_some, Option.map_none, Option.bind_some, true_implies, Bool.false_eq_true, Bool.true_eq_false, false_implies, Bool.not_true, Bool.not_false, List.getElem?_cons_zero, List.getElem?_cons_succ, implies_true, and_self, Bool.and_true, Bool.true_and, BEq.rfl, and_assoc, Option.isSome_some, Option.isSome_none, List.take_succ_cons, List.take_zero, List.set_cons_zero, List.set_cons_succ, List.forall_mem_cons, List.not_mem_nil, forall_const, List.range, List.range.loop, ne_eq, not_false_eq_true, not_true_eq_false, List.cons.injEq, Prod.mk.injEq, List.append_nil, List.nil_append, List.cons_append, false_and, and_false, Bool.false_and, Bool.and_false, Nat.reduceBNe, Nat.reduceBEq, beq_self_eq_true, bne_self_eq_false, Nat.reduceBeqDiff, Bool.or_false, Bool.false_or, Bool.or_true, Bool.true_or, size_any, isOne_any, stor_any, fits_any, strip_any, sub_any, put_any, size_int, isOne_int, stor_int, fits_int, strip_int, sub_int, put_int, size_bool, isOne_bool, stor_bool, fits_bool, strip_bool, sub_bool, put_bool, size_str, isOne_str, stor_str, fits_str, strip_str, sub_str, put_str, size_raw, isOne_raw, fits_raw, strip_raw, sub_raw, put_raw, size_arr, isOne_arr, stor_arr, fits_arr, strip_arr, sub_arr, put_arr, size_agg, isOne_agg, stor_agg, fits_agg, strip_agg, sub_agg, put_agg, isOne_tup, stor_tup, fits_tup, strip_tup, sub_tup, put_tup, size_sli, isOne_sli, stor_sli, fits_sli, strip_sli, sub_sli, put_sli, size_sl, isOne_sl, stor_sl, fits_sl, strip_sl, sub_sl, put_sl, size_bp, isOne_bp, stor_bp, fits_bp, strip_bp, sub_bp, put_bp, size_be, isOne_be, stor_be, fits_be, strip_be, sub_be, put_be, size_bsl, isOne_bsl, stor_bsl, fits_bsl, strip_bsl, sub_bsl, put_bsl, size_ip, isOne_ip, stor_ip, fits_ip, strip_ip, sub_ip, put_ip, size_fn, isOne_fn, stor_fn, fits_fn, strip_fn, sub_fn, put_fn, stor_nil, stor_nilf, stor_nili, sizes_nil, sizes_cons, subs_nil, subs_cons, puts_nil, puts_cons, strips_nil, strips_cons, ty1, ty2, ty3, ty4, ty5, ty9, ty12, ty20, ty21, ty22, ty23, ty24, ty25, ty26, ty27, ty28, ty29, ty30, ty31, ty32, ty33, ty34, ty35, ty36, ty37, ty39, ty40, ty41, ty42, ty43, ty44, ty45, ty46, ty47, ty48, ty49, ty50, ty51, ty52, ty53, ty54, ty55, ty56, ty57, ty58, ty59, ty60, ty61, ty62, ty63, ty64, ty65, ty66, ty67, ty68, ty69, ty70, ty71, ty72, ty73, ty74, ty75, ty76, ty77, ty78, ty79, ty80, ty82, ty83, ty89, ty92, ty95, gl0, Tryd.ntmps22, Tryd.results22]
    have hlt : ((refTextI h).take (2 * i + k)).length = 2 * i + k := by simp; omega
    refine ⟨fun hk2 => ?_, fun hk2 => ?_⟩
    · have hk2 := of_decide_eq_true hk2
      rw [hlt]
      have hnx : (refTextI h).take (2 * i + (k + 1)) = (refTextI h).take (2 * i + k) ++ [hexOf (if k = 1 then (h.getD i 0).tmod 16 else IntKind.wrap .u8 ((h.getD i 0).tdiv 16))] := by
        rw [← Nat.add_assoc, List.take_add_one, refTextI_at h (2 * i + k) (by omega), show (2 * i + k) / 2 = i by omega]
        have : (2 * i + k) % 2 = 1 ↔ k = 1 := by omega
        simp only [this, Option.toList]
      have hmod : (h.getD i 0).tmod 16 = h.getD i 0 % 16 := Int.tmod_eq_emod_of_nonneg hg.1
      have hdiv : IntKind.wrap .u8 ((h.getD i 0).tdiv 16) = h.getD i 0 / 16 := by rw [Int.tdiv_eq_ediv_of_nonneg hg.1, IntKind.wrap_u8]; omega
      refine ⟨by omega, by omega, by decide, fun h1 => ?_, fun h1 => ?_⟩
      · have h1 := of_decide_eq_true h1
        obtain rfl : k = 1 := by omega
        rw [show ((i : Int)).toNat = i from rfl]
        refine ⟨by omega, by omega, by decide, by omega, by rw [hmod]; exact Int.emod_lt_of_pos _ (by decide), rfl, by omega, ⟨2, by omega⟩, ⟨⟨wkD_eq ?_, rfl, wkD_eq ?_, rfl, wkD_eq rfl, rfl, wkD_eq rfl, rfl, trivial⟩, ⟨rfl, Nat.le_of_ble_eq_true rfl, rfl, trivial⟩, ⟨rfl, Nat.le_of_ble_eq_true rfl, trivial⟩⟩, by (try simp only); omega⟩
        · exact some_sli hnx.symm
        · exact some_i64 (by (try simp only); omega)
      · have h1 := of_decide_eq_false h1
        obtain rfl : k = 0 := by omega
        rw [show ((i : Int)).toNat = i from rfl]
        refine ⟨by omega, by rw [hdiv]; show h.getD i 0 / 16 < 16; omega, rfl, by omega, ⟨1, by omega⟩, ⟨⟨wkD_eq ?_, rfl, wkD_eq ?_, rfl, wkD_eq rfl, rfl, wkD_eq rfl, rfl, trivial⟩, ⟨rfl, Nat.le_of_ble_eq_true rfl, rfl, trivial⟩, ⟨rfl, Nat.le_of_ble_eq_true rfl, trivial⟩⟩, by (try simp only); omega⟩
        · exact some_sli hnx.symm
        · exact some_i64 (by (try simp only); omega)
    · have hk2 := of_decide_eq_false hk2
      obtain rfl : k = 2 := by omega
      refine ⟨⟨i + 1, by omega⟩, ⟨⟨wkD_eq ?_, rfl, wkD_eq ?_, rfl, wkD_eq rfl, rfl, trivial⟩, ⟨rfl, Nat.le_of_ble_eq_true rfl, rfl, trivial⟩, ⟨?_, Nat.le_of_ble_eq_true rfl, trivial⟩⟩, by (try simp only); omega⟩
      · rfl
      · exact some_i64 (by (try simp only); omega)
      · rfl
  · have hh := of_decide_eq_false hh
    obtain rfl : i = 32 := by omega
    rw [List.take_of_length_le (by omega)]
theorem byteAt_range (s : ByteArray) (k : Int) : 0 ≤ byteAt s k ∧ byteAt s k < 256 := by
  unfold byteAt
  split
  · rename_i b _
    have := b.toNat_lt
    omega
  · omega
theorem refOf_none {s : ByteArray} {i : Nat} (h : refOfP s i = none) : ∀ j, i ≤ j → refOfP s j = none := by
  intro j hj
  induction j with
  | zero => obtain rfl : i = 0 := by omega
            exact h
  | succ j ih =>
    by_cases e : i = j + 1
    · subst e; exact h
    · simp only [refOfP, ih (by omega)]
theorem hexVal_le (c : Int) : hexVal c ≤ 15 ∧ -1 ≤ hexVal c := by
  unfold hexVal
  split
  · omega
  · split <;> omega
theorem c_refOf : Contract E 20 := by
  refine contract_see hE hgl (show E.P.funcs[20]? = some Tryd.f20 from Tryd.func20) rfl (p := sp_refOf) (fun _ _ _ => rfl) ?_
  intro args hv
  unfold sp_refOf at hv ⊢
  split at hv
  case h_2 => exact hv.elim
  rename_i st
  refine ⟨by simp, Nat.le_of_ble_eq_true rfl, ?_⟩
  simp only [givesIf] at hv
  simp (config := {dsimp := false}) only [↓a_skip, ↓a_exit, ↓a_ret, ↓a_seq, ↓a_cond, ↓a_block, ↓a_loop, ↓a_region, ↓a_draw, ↓a_region', ↓a_draw', ↓then_key, ↓with_key, ↓cond_key, ↓one_key, ↓thenQ_normal, ↓thenQ_exit, ↓thenQ_ret, ↓blockQ_normal, ↓blockQ_exit, ↓blockQ_ret, ↓aops, ↓aopsD, ↓imp_tt, ↓imp_ff, ↓imp_tf, ↓imp_ft, ↓imp_tnt, ↓imp_tnf, ↓imp_fnt, ↓imp_fnf, okD_nil, okD_u, okD_t, thenK_mk, withK_some, condK_bool, oneK_some, look, look_hit, setL, resQ, argSlots, buildSt, buildArr, intsOf, eqB, keepSl, sh_one_one, sh_one_arr, sh_one_st, sh_arr_one, sh_arr_arr, sh_arr_st, sh_st_one, sh_st_arr, sh_st_st, bin_int, bin_str, bin_bool, bin_arr, bin_agg, un_neg, un_xor, un_not, i_add, i_sub, i_mul, i_quo, i_rem, i_and, i_or, i_xor, i_andNot, i_eql, i_neq, i_lss, i_leq, i_gtr, i_geq, s_shl, s_shr, opR, okIf, ok, bad, ev, ofConst, putS, updS, S.upd, dstOk, yieldD, strBin, isShift, cellD, retQ, resD, stripO, convR, conv2R, makeR, indexR, indexAddrR, fieldAddrR, loadR, storeR, allocR, boxR, pickR, buildR, buildSliceR, lenR, nilCheckR, extractR, funcR, sliceR, appendR, callR, S.box, S.tok, TK.sh, known, tsize, destI, ownTok, srcI, isIn, isSl, isSt, appendI, appendL, bnd, aggBin, nilD, isPtr, fieldOf, sized, enumS, seeR, seeL, hasB, flat, flats, nil1_none, nil1_sl, nil1_sl', nil1_sli, nil1_bsl, nilK_cons, nilK_nil, nilK_nil', see_any, isB_any, see_int, isB_int, see_bool, isB_bool, see_str, isB_str, see_raw, isB_raw, see_arr, isB_arr, see_agg, isB_agg, see_tup, isB_tup, see_sli, isB_sli, see_sl, isB_sl, see_bp, isB_bp, see_be, isB_be, see_ip, isB_ip, see_fn, isB_fn, see_bsl, isB_bsl, seen_arr, List.foldl_nil, List.foldl_cons, Option.getD_some, Option.getD_none, if_true, if_false, reduceIte, reduceCtorEq, Nat.reduceEqDiff, Nat.reduceAdd, Nat.reduceMul, Nat.reduceLT, Nat.reduceSub, Nat.reduceLeDiff, true_and, and_true, List.map_cons, List.map_nil, List.size_toArray, List.length_cons, List.length_nil, Option.map_some, Option.map_none, Option.bind_some, true_implies, Bool.false_eq_true, Bool.true_eq_false, false_implies, Bool.not_true, Bool.not_false, List.getElem?_cons_zero, List.getElem?_cons_succ, implies_true, and_self, Bool.and_true, Bool.true_and, BEq.rfl, and_assoc, Option.isSome_some, Option.isSome_none, List.take_succ_cons, List.take_zero, List.set_cons_zero, List.set_cons_succ, List.forall_mem_cons, List.not_mem_nil, forall_const, List.range, List.range.loop, ne_eq, not_false_eq_true, not_true_eq_false, List.cons.injEq, Prod.mk.injEq, List.append_nil, List.nil_append, List.cons_append, false_and, and_false, Bool.false_and, Bool.and_false, Nat.reduceBNe, Nat.reduceBEq, beq_self_eq_true, bne_self_eq_false, Nat.reduceBeqDiff, Bool.or_false, Bool.false_or, Bool.or_true, Bool.true_or, size_any, isOne_any, stor_any, fits_any, strip_any, sub_any, put_any, size_int, isOne_int, stor_int, fits_int, strip_int, sub_int, put_int, size_bool, isOne_bool, stor_bool, fits_bool, strip_bool, sub_bool, put_bool, size_str, isOne_str, stor_str, fits_str, strip_str, sub_str, put_str, size_raw, isOne_raw, fits_raw, strip_raw, sub_raw, put_raw, size_arr, isOne_arr, stor_arr, fits_arr, strip_arr, sub_arr, put_arr, size_agg, isOne_agg, stor_agg, fits_agg, strip_agg, sub_agg, put_agg, isOne_tup, stor_tup, fits_tup, strip_tup, sub_tup, put_tup, size_sli, isOne_sli, stor_sli, fits_sli, strip_sli, sub_sli, put_sli, size_sl, isOne_sl, stor_sl, fits_sl, strip_sl, sub_sl, put_sl, size_bp, isOne_bp, stor_bp, fits_bp, strip_bp, sub_bp, put_bp, size_be, isOne_be, stor_be, fits_be, strip_be, sub_be, put_be, size_bsl, isOne_bsl, stor_bsl, fits_bsl, strip_bsl, sub_bsl, put_bsl, size_ip, isOne_ip, stor_ip, fits_ip, strip_ip, sub_ip, put_ip, size_fn, isOne_fn, stor_fn, fits_fn, strip_fn, sub_fn, put_fn, stor_nil, stor_nilf, stor_nili, sizes_nil, sizes_cons, subs_nil, subs_cons, puts_nil, puts_cons, strips_nil, strips_cons, ty1, ty2, ty3, ty4, ty5, ty9, ty12, ty20, ty21, ty22, ty23, ty24, ty25, ty26, ty27, ty28, ty29, ty30, ty31, ty32, ty33, ty34, ty35, ty36, ty37, ty39, ty40, ty41, ty42, ty43, ty44, ty45, ty46, ty47, ty48, ty49, ty50, ty51, ty52, ty53, ty54, ty55, ty56, ty57, ty58, ty59, ty60, ty61, ty62, ty63, ty64, ty65, ty66, ty67, ty68, ty69, ty70, ty71, ty72, ty73, ty74, ty75, ty76, ty77, ty78, ty79, ty80, ty82, ty83, ty89, ty92, ty95, gl0, Tryd.ntmps20, Tryd.results20, PF.toR, gives, givesIf]
  refine ⟨fun hh => ?_, fun hh => ?_⟩
  · have hh : ¬ ((st.size : Int) = 64) := by simpa using hh
    have : ¬ st.size = 64 := by omega
    simp [refOfR, this]
  · have hh : ((st.size : Int) = 64) := by simpa using hh
    have hsz : st.size = 64 := by omega
    refine loopI {p : Nat × List Int // p.1 ≤ 32 ∧ refOfP st p.1 = some p.2} (fun p => [(5, .int .i64 (p.1.1 : Int)), (4, .bp 8 0), (2, .bp 0 0), (0, .str st)]) (fun p => ⟨[(0, .arr .u8 32 (List.replicate 32 0)), (8, .arr .u8 32 p.1.2)], [], 28⟩) (fun p => 32 - p.1.1) ⟨(0, List.replicate 32 0), by decide, rfl⟩ (fun _ => rfl) ⟨⟨wkD_eq rfl, rfl, wkD_eq rfl, rfl, wkD_eq rfl, rfl, wkD_eq rfl, rfl, trivial⟩, ⟨rfl, Nat.le_of_ble_eq_true rfl, rfl, rfl, Nat.le_of_ble_eq_true rfl, rfl, trivial⟩, trivial⟩ ?_
    rintro ⟨⟨i, l⟩, hi, hl⟩
    simp (config := {dsimp := false}) only [↓a_skip, ↓a_exit, ↓a_ret, ↓a_seq, ↓a_cond, ↓a_block, ↓a_loop, ↓a_region, ↓a_draw, ↓a_region', ↓a_draw', ↓then_key, ↓with_key, ↓cond_key, ↓one_key, ↓thenQ_normal, ↓thenQ_exit, ↓thenQ_ret, ↓blockQ_normal, ↓blockQ_exit, ↓blockQ_ret, ↓aops, ↓aopsD, ↓imp_tt, ↓imp_ff, ↓imp_tf, ↓imp_ft, ↓imp_tnt, ↓imp_tnf, ↓imp_fnt, ↓imp_fnf, okD_nil, okD_u, okD_t, thenK_mk, withK_some, condK_bool, oneK_some, look, look_hit, setL, resQ, argSlots, buildSt, buildArr, intsOf, eqB, keepSl, sh_one_one, sh_one_arr, sh_one_st, sh_arr_one, sh_arr_arr, sh_arr_st, sh_st_one, sh_st_arr, sh_st_st, bin_int, bin_str, bin_bool, bin_arr, bin_agg, un_neg, un_xor, un_not, i_add, i_sub, i_mul, i_quo, i_rem, i_and, i_or, i_xor, i_andNot, i_eql, i_neq, i_lss, i_leq, i_gtr, i_geq, s_shl, s_shr, opR, okIf, ok, bad, ev, ofConst, putS, updS, S.upd, dstOk, yieldD, strBin, isShift, cellD, retQ, resD, stripO, convR, conv2R, makeR, indexR, indexAddrR, fieldAddrR, loadR, storeR, allocR, boxR, pickR, buildR, buildSliceR, lenR, nilCheckR, extractR, funcR, sliceR, appendR, callR, S.box, S.tok, TK.sh, known, tsize, destI, ownTok, srcI, isIn, isSl, isSt, appendI, appendL, bnd, aggBin, nilD, isPtr, fieldOf, sized, enumS, seeR, seeL, hasB, flat, flats, nil1_none, nil1_sl, nil1_sl', nil1_sli, nil1_bsl, nilK_cons, nilK_nil, nilK_nil', see_any, isB_any, see_int, isB_int, see_bool, isB_bool, see_str, isB_str, see_raw, isB_raw, see_arr, isB_arr, see_agg, isB_agg, see_tup, isB_tup, see_sli, isB_sli, see_sl, isB_sl, see_bp, isB_bp, see_be, isB_be, see_ip, isB_ip, see_fn, isB_fn, see_bsl, isB_bsl, seen_arr, List.foldl_nil, List.foldl_cons, Option.getD_some, Option.getD_none, if_true, if_false, reduceIte, reduceCtorEq, Nat.reduceEqDiff, Nat.reduceAdd, Nat.reduceMul, Nat.reduceLT, Nat.reduceSub, Nat.reduceLeDiff, true_and, and_true, List.map_cons, List.map_nil, List.size_toArray, List.length_cons, List.length_nil, Option.map_some, Option.map_none, Option.bind_some, true_implies, Bool.false_eq_true, Bool.true_eq_false, false_implies, Bool.not_true, Bool.not_false, List.getElem?_cons_zero, List.getElem?_cons_succ, implies_true, and_self, Bool.and_true, Bool.true_and, BEq.rfl, and_assoc, Option.isSome_some, Option.isSome_none, List.take_succ_cons, List.take_zero, List.set_cons_zero, List.set_cons_succ, List.forall_mem_cons, List.not_mem_nil, forall_const, List.range, List.range.loop, ne_eq, not_false_eq_true, not_true_eq_false, List.cons.injEq, Prod.mk.injEq, List.append_nil, List.nil_append, List.cons_append, false_and, and_false, Bool.false_and, Bool.and_false, Nat.reduceBNe, Nat.reduceBEq, beq_self_eq_true, bne_self_eq_false, Nat.reduceBeqDiff, Bool.or_false, Bool.false_or, Bool.or_true, Bool.true_or, size_any, isOne_any, stor_any, fits_any, strip_any, sub_any, put_any, size_int, isOne_int, stor_int, fits_int, strip_int, sub_int, put_int, size_bool, isOne_bool, stor_bool, fits_bool, strip_bool, sub_bool, put_bool, size_str, isOne_str, stor_str, fits_str, strip_str, sub_str, put_str, size_raw, isOne_raw, fits_raw, strip_raw, sub_raw, put_raw, size_arr, isOne_arr, stor_arr, fits_arr, strip_arr, sub_arr, put_arr, size_agg, isOne_agg, stor_agg, fits_agg, strip_agg, sub_agg, put_agg, isOne_tup, stor_tup, fits_tup, strip_tup, sub_tup, put_tup, size_sli, isOne_sli, stor_sli, fits_sli, strip_sli, sub_sli, put_sli, size_sl, isOne_sl, stor_sl, fits_sl, strip_sl, sub_sl, put_sl, size_bp, isOne_bp, stor_bp, fits_bp, strip_bp, sub_bp, put_bp, size_be, isOne_be, stor_be, fits_be, strip_be, sub_be, put_be, size_bsl, isOne_bsl, stor_bsl, fits_bsl, strip_bsl, sub_bsl, put_bsl, size_ip, isOne_ip, stor_ip, fits_ip, strip_ip, sub_ip, put_ip, size_fn, isOne_fn, stor_fn, fits_fn, strip_fn, sub_fn, put_fn, stor_nil, stor_nilf, stor_nili, sizes_nil, sizes_cons, subs_nil, subs_cons, puts_nil, puts_cons, strips_nil, strips_cons, ty1, ty2, ty3, ty4, ty5, ty9, ty12, ty20, ty21, ty22, ty23, ty24, ty25, ty26, ty27, ty28, ty29, ty30, ty31, ty32, ty33, ty34, ty35, ty36, ty37, ty39, ty40, ty41, ty42, ty43, ty44, ty45, ty46, ty47, ty48, ty49, ty50, ty51, ty52, ty53, ty54, ty55, ty56, ty57, ty58, ty59, ty60, ty61, ty62, ty63, ty64, ty65, ty66, ty67, ty68, ty69, ty70, ty71, ty72, ty73, ty74, ty75, ty76, ty77, ty78, ty79, ty80, ty82, ty83, ty89, ty92, ty95, gl0, Tryd.ntmps20, Tryd.results20]
    have hi : i ≤ 32 := hi
    have hl : refOfP st i = some l := hl
    refine ⟨fun hh => ?_, fun hh => ?_⟩
    · have hh := of_decide_eq_true hh
      have e1 : IntKind.wrap .i64 (2 * (i : Int)) = 2 * i := IntWalk.i64_in _ (by omega)
      have e2 : IntKind.wrap .i64 (2 * (i : Int) + 1) = 2 * i + 1 := IntWalk.i64_in _ (by omega)
      refine drawI [0, 2, 4, 5] (by kernel_rfl) ?_
      simp (config := {dsimp := false}) only [↓a_skip, ↓a_exit, ↓a_ret, ↓a_seq, ↓a_cond, ↓a_block, ↓a_loop, ↓a_region, ↓a_draw, ↓a_region', ↓a_draw', ↓then_key, ↓with_key, ↓cond_key, ↓one_key, ↓thenQ_normal, ↓thenQ_exit, ↓thenQ_ret, ↓blockQ_normal, ↓blockQ_exit, ↓blockQ_ret, ↓aops, ↓aopsD, ↓imp_tt, ↓imp_ff, ↓imp_tf, ↓imp_ft, ↓imp_tnt, ↓imp_tnf, ↓imp_fnt, ↓imp_fnf, okD_nil, okD_u, okD_t, thenK_mk, withK_some, condK_bool, oneK_some, look, look_hit, setL, resQ, argSlots, buildSt, buildArr, intsOf, eqB, keepSl, sh_one_one, sh_one_arr, sh_one_st, sh_arr_one, sh_arr_arr, sh_arr_st, sh_st_one, sh_st_arr, sh_st_st, bin_int, bin_str, bin_bool, bin_arr, bin_agg, un_neg, un_xor, un_not, i_add, i_sub, i_mul, i_quo, i_rem, i_and, i_or, i_xor, i_andNot, i_eql, i_neq, i_lss, i_leq, i_gtr, i_geq, s_shl, s_shr, opR, okIf, ok, bad, ev, ofConst, putS, updS, S.upd, dstOk, yieldD, strBin, isShift, cellD, retQ, resD, stripO, convR, conv2R, makeR, indexR, indexAddrR, fieldAddrR, loadR, storeR, allocR, boxR, pickR, buildR, buildSliceR, lenR, nilCheckR, extractR, funcR, sliceR, appendR, callR, S.box, S.tok, TK.sh, known, tsize, destI, ownTok, srcI, isIn, isSl, isSt, appendI, appendL, bnd, aggBin, nilD, isPtr, fieldOf, sized, enumS, seeR, seeL, hasB, flat, flats, nil1_none, nil1_sl, nil1_sl', nil1_sli, nil1_bsl, nilK_cons, nilK_nil, nilK_nil', see_any, isB_any, see_int, isB_int, see_bool, isB_bool, see_str, isB_str, see_raw, isB_raw, see_arr, isB_arr, see_agg, isB_agg, see_tup, isB_tup, see_sli, isB_sli, see_sl, isB_sl, see_bp, isB_bp, see_be, isB_be, see_ip, isB_ip, see_fn, isB_fn, see_bsl, isB_bsl, seen_arr, List.foldl_nil, List.foldl_cons, Option.getD_some, Option.getD_none, if_true, if_false, reduceIte, reduceCtorEq, Nat.reduceEqDiff, Nat.reduceAdd, Nat.reduceMul, Nat.reduceLT, Nat.reduceSub, Nat.reduceLeDiff, true_and, and_true, List.map_cons, List.map_nil, List.size_toArray, List.length_cons, List.length_nil, Option.map_some, Option.map_none, Option.bind_some, true_implies, Bool.false_eq_true, Bool.true_eq_false, false_implies, Bool.not_true, Bool.not_false, List.getElem?_cons_zero, List.getElem?_cons_succ, implies_true, and_self, Bool.and_true, Bool.true_and, BEq.rfl, and_assoc, Option.isSome_some, Option.isSome_none, List.take_succ_cons, List.take_zero, List.set_cons_zero, List.set_cons_succ, List.forall_mem_cons, List.not_mem_nil, forall_const, List.range, List.range.loop, ne_eq, not_false_eq_true, not_true_eq_false, List.cons.injEq, Prod.mk.injEq, List.append_nil, List.nil_append, List.cons_append, false_and, and_false, Bool.false_and, Bool.and_false, Nat.reduceBNe, Nat.reduceBEq, beq_self_eq_true, bne_self_eq_false, Nat.reduceBeqDiff, Bool.or_false, Bool.false_or, Bool.or_true, Bool.true_or, size_any, isOne_any, stor_any, fits_any, strip_any, sub_any, put_any, size_int, isOne_int, stor_int, fits_int, strip_int, sub_int, put_int, size_bool, isOne_bool, stor_bool, fits_bool, strip_bool, sub_bool, put_bool, size_str, isOne_str, stor_str, fits_str, strip_str, sub_str, put_str, size_raw, isOne_raw, fits_raw, strip_raw, sub_raw, put_raw, size_arr, isOne_arr, stor_arr, fits_arr, strip_arr, sub_arr, put_arr, size_agg, isOne_agg, stor_agg, fits_agg, strip_agg, sub_agg, put_agg, isOne_tup, stor_tup, fits_tup, strip_tup, sub_tup, put_tup, size_sli, isOne_sli, stor_sli, fits_sli, strip_sli, sub_sli, put_sli, size_sl, isOne_sl, stor_sl, fits_sl, strip_sl, sub_sl, put_sl, size_bp, isOne_bp, stor_bp, fits_bp, strip_bp, sub_bp, put_bp, size_be, isOne_be, stor_be, fits_be, strip_be, sub_be, put_be, size_bsl, isOne_bsl, stor_bsl, fits_bsl, strip_bsl, sub_bsl, put_bsl, size_ip, isOne_ip, stor_ip, fits_ip, strip_ip, sub_ip, put_ip, size_fn, isOne_fn, stor_fn, fits_fn, strip_fn, sub_fn, put_fn, stor_nil, stor_nilf, stor_nili, sizes_nil, sizes_cons, subs_nil, subs_cons, puts_nil, puts_cons, strips_nil, strips_cons, ty1, ty2, ty3, ty4, ty5, ty9, ty12, ty20, ty21, ty22, ty23, ty24, ty25, ty26, ty27, ty28, ty29, ty30, ty31, ty32, ty33, ty34, ty35, ty36, ty37, ty39, ty40, ty41, ty42, ty43, ty44, ty45, ty46, ty47, ty48, ty49, ty50, ty51, ty52, ty53, ty54, ty55, ty56, ty57, ty58, ty59, ty60, ty61, ty62, ty63, ty64, ty65, ty66, ty67, ty68, ty69, ty70, ty71, ty72, ty73, ty74, ty75, ty76, ty77, ty78, ty79, ty80, ty82, ty83, ty89, ty92, ty95, gl0, Tryd.ntmps20, Tryd.results20, PF.toR, gives, givesIf, e1, e2, spec_refvalue, sp_refvalue, c_refvalue, b_refvalue]
      have hb1 := byteAt_range st (2 * i)
      have hb2 := byteAt_range st (2 * i + 1)
      have hv1 : refOfP st (i + 1) = if hexVal (byteAt st (2 * i)) < 0 ∨ hexVal (byteAt st (2 * i + 1)) < 0 then none else some (l.set i (IntKind.wrap .u8 (16 * hexVal (byteAt st (2 * i)) + hexVal (byteAt st (2 * i + 1))))) := by simp only [refOfP, hl]
      have hbad : (hexVal (byteAt st (2 * i)) < 0 ∨ hexVal (byteAt st (2 * i + 1)) < 0) → D.tup [D.arr IntKind.u8 32 (List.replicate 32 0), D.bool false] = D.tup [D.arr IntKind.u8 32 (refOfR st).fst, D.bool (refOfR st).snd] := by
        intro hb
        rw [if_pos hb] at hv1
        have := refOf_none hv1 32 (by omega)
        simp [refOfR, hsz, this]
      have hx1 := hexVal_le (byteAt st (2 * i))
      have hx2 := hexVal_le (byteAt st (2 * i + 1))
      refine ⟨by omega, by omega, hb1.1, hb1.2, by omega, by omega, hb2.1, hb2.2, fun ha => ⟨fun hb => hbad (.inr (of_decide_eq_true hb)), fun hb => ?_⟩, fun ha => hbad (.inl (of_decide_eq_true ha))⟩
      have ha := of_decide_eq_false ha
      have hb := of_decide_eq_false hb
      rw [if_neg (by omega)] at hv1
      refine ⟨by omega, by omega, ⟨(i + 1, _), by show i + 1 ≤ 32; omega, hv1⟩, ⟨⟨wkD_eq ?_, rfl, wkD_eq rfl, rfl, wkD_eq rfl, rfl, wkD_eq rfl, rfl, trivial⟩, ⟨rfl, Nat.le_of_ble_eq_true rfl, rfl, ?_, Nat.le_of_ble_eq_true rfl, rfl, trivial⟩, trivial⟩, by show 32 - (i + 1) < 32 - i; omega⟩
      · exact some_i64 (by (try simp only); omega)
      · refine some_arr ?_
        rw [IntWalk.i64_in (16 * hexVal (byteAt st (2 * i))) (by omega), IntWalk.i64_in _ (by omega)]
        rfl
    · have hh := of_decide_eq_false hh
      obtain rfl : i = 32 := by omega
      simp [refOfR, hsz, hl, givesIf]
theorem of_none {s : ByteArray} {i : Nat} (h : ofP s i = none) : ∀ j, i ≤ j → ofP s j = none := by
  intro j hj
  induction j with
  | zero => obtain rfl : i = 0 := by omega
            exact h
  | succ j ih =>
    by_cases e : i = j + 1
    · subst e; exact h
    · simp only [ofP, ih (by omega)]
theorem c_of : Contract E 19 := by
  refine contract_see hE hgl (show E.P.funcs[19]? = some Tryd.f19 from Tryd.func19) rfl (p := sp_of) (fun _ _ _ => rfl) ?_
  intro args hv
  unfold sp_of at hv ⊢
  split at hv
  case h_2 => exact hv.elim
  rename_i st
  refine ⟨by simp, Nat.le_of_ble_eq_true rfl, ?_⟩
  simp only [givesIf] at hv
  simp (config := {dsimp := false}) only [↓a_skip, ↓a_exit, ↓a_ret, ↓a_seq, ↓a_cond, ↓a_block, ↓a_loop, ↓a_region, ↓a_draw, ↓a_region', ↓a_draw', ↓then_key, ↓with_key, ↓cond_key, ↓one_key, ↓thenQ_normal, ↓thenQ_exit, ↓thenQ_ret, ↓blockQ_normal, ↓blockQ_exit, ↓blockQ_ret, ↓aops, ↓aopsD, ↓imp_tt, ↓imp_ff, ↓imp_tf, ↓imp_ft, ↓imp_tnt, ↓imp_tnf, ↓imp_fnt, ↓imp_fnf, okD_nil, okD_u, okD_t, thenK_mk, withK_some, condK_bool, oneK_some, look, look_hit, setL, resQ, argSlots, buildSt, buildArr, intsOf, eqB, keepSl, sh_one_one, sh_one_arr, sh_one_st, sh_arr_one, sh_arr_arr, sh_arr_st, sh_st_one, sh_st_arr, sh_st_st, bin_int, bin_str, bin_bool, bin_arr, bin_agg, un_neg, un_xor, un_not, i_add, i_sub, i_mul, i_quo, i_rem, i_and, i_or, i_xor, i_andNot, i_eql, i_neq, i_lss, i_leq, i_gtr, i_geq, s_shl, s_shr, opR, okIf, ok, bad, ev, ofConst, putS, updS, S.upd, dstOk, yieldD, strBin, isShift, cellD, retQ, resD, stripO, convR, conv2R, makeR, indexR, indexAddrR, fieldAddrR, loadR, storeR, allocR, boxR, pickR, buildR, buildSliceR, lenR, nilCheckR, extractR, funcR, sliceR, appendR, callR, S.box, S.tok, TK.sh, known, tsize, destI, ownTok, srcI, isIn, isSl, isSt, appendI, appendL, bnd, aggBin, nilD, isPtr, fieldOf, sized, enumS, seeR, seeL, hasB, flat, flats, nil1_none, nil1_sl, nil1_sl', nil1_sli, nil1_bsl, nilK_cons, nilK_nil, nilK_nil', see_any, isB_any, see_int, isB_int, see_bool, isB_bool, see_str, isB_str, see_raw, isB_raw, see_arr, isB_arr, see_agg, isB_agg, see_tup, isB_tup, see_sli, isB_sli, see_sl, isB_sl, see_bp, isB_bp, see_be, isB_be, see_ip, isB_ip, see_fn, isB_fn, see_bsl, isB_bsl, seen_arr, List.foldl_nil, List.foldl_cons, Option.getD_some, Option.getD_none, if_true, if_false, reduceIte, reduceCtorEq, Nat.reduceEqDiff, Nat.reduceAdd, Nat.reduceMul, Nat.reduceLT, Nat.reduceSub, Nat.reduceLeDiff, true_and, and_true, List.map_cons, List.map_nil, List.size_toArray, List.length_cons, List.length_nil, Option.map_some, Option.map_none, Option.bind_some, true_implies, Bool.false_eq_true, Bool.true_eq_false, false_implies, Bool.not_true, Bool.not_false, List.getElem?_cons_zero, List.getElem?_cons_succ, implies_true, and_self, Bool.and_true, Bool.true_and, BEq.rfl, and_assoc, Option.isSome_some, Option.isSome_none, List.take_succ_cons, List.take_zero, List.set_cons_zero, List.set_cons_succ, List.forall_mem_cons, List.not_mem_nil, forall_const, List.range, List.range.loop, ne_eq, not_false_eq_true, not_true_eq_false, List.cons.injEq, Prod.mk.injEq, List.append_nil, List.nil_append, List.cons_append, false_and, and_false, Bool.false_and, Bool.and_false, Nat.reduceBNe, Nat.reduceBEq, beq_self_eq_true, bne_self_eq_false, Nat.reduceBeqDiff, Bool.or_false, Bool.false_or, Bool.or_true, Bool.true_or, size_any, isOne_any, stor_any, fits_any, strip_any, sub_any, put_any, size_int, isOne_int, stor_int, fits_int, strip_int, sub_int, put_int, size_bool, isOne_bool, stor_bool, fits_bool, strip_bool, sub_bool, put_bool, size_str, isOne_str, stor_str, fits_str, strip_str, sub_str, put_str, size_raw, isOne_raw, fits_raw, strip_raw, sub_raw, put_raw, size_arr, isOne_arr, stor_arr, fits_arr, strip_arr, sub_arr, put_arr, size_agg, isOne_agg, stor_agg, fits_agg, strip_agg, sub_agg, put_agg, isOne_tup, stor_tup, fits_tup, strip_tup, sub_tup, put_tup, size_sli, isOne_sli, stor_sli, fits_sli, strip_sli, sub_sli, put_sli, size_sl, isOne_sl, stor_sl, fits_sl, strip_sl, sub_sl, put_sl, size_bp, isOne_bp, stor_bp, fits_bp, strip_bp, sub_bp, put_bp, size_be, isOne_be, stor_be, fits_be, strip_be, sub_be, put_be, size_bsl, isOne_bsl, stor_bsl, fits_bsl, strip_bsl, sub_bsl, put_bsl, size_ip, isOne_ip, stor_ip, fits_ip, strip_ip, sub_ip, put_ip, size_fn, isOne_fn, stor_fn, fits_fn, strip_fn, sub_fn, put_fn, stor_nil, stor_nilf, stor_nili, sizes_nil, sizes_cons, subs_nil, subs_cons, puts_nil, puts_cons, strips_nil, strips_cons, ty1, ty2, ty3, ty4, ty5, ty9, ty12, ty20, ty21, ty22, ty23, ty24, ty25, ty26, ty27, ty28, ty29, ty30, ty31, ty32, ty33, ty34, ty35, ty36, ty37, ty39, ty40, ty41, ty42, ty43, ty44, ty45, ty46, ty47, ty48, ty49, ty50, ty51, ty52, ty53, ty54, ty55, ty56, ty57, ty58, ty59, ty60, ty61, ty62, ty63, ty64, ty65, ty66, ty67, ty68, ty69, ty70, ty71, ty72, ty73, ty74, ty75, ty76, ty77, ty78, ty79, ty80, ty82, ty83, ty89, ty92, ty95, gl0, Tryd.ntmps19, Tryd.results19, PF.toR, gives, givesIf]
  refine loopI {p : Nat × List Int // p.1 ≤ st.size ∧ ofP st p.1 = some p.2} (fun p => [(8, .int .i64 (p.1.1 : Int)), (7, .int .i64 (st.size : Int)), (2, .bp 0 0), (0, .str st)]) (fun p => ⟨[(0, .arr .u8 32 p.1.2)], [], 20⟩) (fun p => st.size - p.1.1) ⟨(0, List.replicate 32 0), Nat.zero_le _, rfl⟩ (fun _ => rfl) ⟨⟨wkD_eq rfl, rfl, wkD_eq rfl, rfl, wkD_eq rfl, rfl, wkD_eq rfl, rfl, trivial⟩, ⟨rfl, Nat.le_of_ble_eq_true rfl, rfl, trivial⟩, trivial⟩ ?_
  rintro ⟨⟨i, l⟩, hi, hl⟩
  have hi : i ≤ st.size := hi
  have hl : ofP st i = some l := hl
  have hb := byteAt_range st i
  simp (config := {dsimp := false}) only [↓a_skip, ↓a_exit, ↓a_ret, ↓a_seq, ↓a_cond, ↓a_block, ↓a_loop, ↓a_region, ↓a_draw, ↓a_region', ↓a_draw', ↓then_key, ↓with_key, ↓cond_key, ↓one_key, ↓thenQ_normal, ↓thenQ_exit, ↓thenQ_ret, ↓blockQ_normal, ↓blockQ_exit, ↓blockQ_ret, ↓aops, ↓aopsD, ↓imp_tt, ↓imp_ff, ↓imp_tf, ↓imp_ft, ↓imp_tnt, ↓imp_tnf, ↓imp_fnt, ↓imp_fnf, okD_nil, okD_u, okD_t, thenK_mk, withK_some, condK_bool, oneK_some, look, look_hit, setL, resQ, argSlots, buildSt, buildArr, intsOf, eqB, keepSl, sh_one_one, sh_one_arr, sh_one_st, sh_arr_one, sh_arr_arr, sh_arr_st, sh_st_one, sh_st_arr, sh_st_st, bin_int, bin_str, bin_bool, bin_arr, bin_agg, un_neg, un_xor, un_not, i_add, i_sub, i_mul, i_quo, i_rem, i_and, i_or, i_xor, i_andNot, i_eql, i_neq, i_lss, i_leq, i_gtr, i_geq, s_shl, s_shr, opR, okIf, ok, bad, ev, ofConst, putS, updS, S.upd, dstOk, yieldD, strBin, isShift, cellD, retQ, resD, stripO, convR, conv2R, makeR, indexR, indexAddrR, fieldAddrR, loadR, storeR, allocR, boxR, pickR, buildR, buildSliceR, lenR, nilCheckR, extractR, funcR, sliceR, appendR, callR, S.box, S.tok, TK.sh, known, tsize, destI, ownTok, srcI, isIn, isSl, isSt, appendI, appendL, bnd, aggBin, nilD, isPtr, fieldOf, sized, enumS, seeR, seeL, hasB, flat, flats, nil1_none, nil1_sl, nil1_sl', nil1_sli, nil1_bsl, nilK_cons, nilK_nil, nilK_nil', see_any, isB_any, see_int, isB_int, see_bool, isB_bool, see_str, isB_str, see_raw, isB_raw, see_arr, isB_arr, see_agg, isB_agg, see_tup, isB_tup, see_sli, isB_sli, see_sl, isB_sl, see_bp, isB_bp, see_be, isB_be, see_ip, isB_ip, see_fn, isB_fn, see_bsl, isB_bsl, seen_arr, List.foldl_nil, List.foldl_cons, Option.getD_some, Option.getD_none, if_true, if_false, reduceIte, reduceCtorEq, Nat.reduceEqDiff, Nat.reduceAdd, Nat.reduceMul, Nat.reduceLT, Nat.reduceSub, Nat.reduceLeDiff, true_and, and_true, List.map_cons, List.map_nil, List.size_toArray, List.length_cons, List.length_nil, Option.map_some, Option.map_none, Option.bind_some, true_implies, Bool.false_eq_true, Bool.true_eq_false, false_implies, Bool.not_true, Bool.not_false, List.getElem?_cons_zero, List.getElem?_cons_succ, implies_true, and_self, Bool.and_true, Bool.true_and, BEq.rfl, and_assoc, Option.isSome_some, Option.isSome_none, List.take_succ_cons, List.take_zero, List.set_cons_zero, List.set_cons_succ, List.forall_mem_cons, List.not_mem_nil, forall_const, List.range, List.range.loop, ne_eq, not_false_eq_true, not_true_eq_false, List.cons.injEq, Prod.mk.injEq, List.append_nil, List.nil_append, List.cons_append, false_and, and_false, Bool.false_and, Bool.and_false, Nat.reduceBNe, Nat.reduceBEq, beq_self_eq_true, bne_self_eq_false, Nat.reduceBeqDiff, Bool.or_false, Bool.false_or, Bool.or_true, Bool.true_or, size_any, isOne_any, stor_any, fits_any, strip_any, sub_any, put_any, size_int, isOne_int, stor_int, fits_int, strip_int, sub_int, put_int, size_bool, isOne_bool, stor_bool, fits_bool, strip_bool, sub_bool, put_bool, size_str, isOne_str, stor_str, fits_str, strip_str, sub_str, put_str, size_raw, isOne_raw, fits_raw, strip_raw, sub_raw, put_raw, size_arr, isOne_arr, stor_arr, fits_arr, strip_arr, sub_arr, put_arr, size_agg, isOne_agg, stor_agg, fits_agg, strip_agg, sub_agg, put_agg, isOne_tup, stor_tup, fits_tup, strip_tup, sub_tup, put_tup, size_sli, isOne_sli, stor_sli, fits_sli, strip_sli, sub_sli, put_sli, size_sl, isOne_sl, stor_sl, fits_sl, strip_sl, sub_sl, put_sl, size_bp, isOne_bp, stor_bp, fits_bp, strip_bp, sub_bp, put_bp, size_be, isOne_be, stor_be, fits_be, strip_be, sub_be, put_be, size_bsl, isOne_bsl, stor_bsl, fits_bsl, strip_bsl, sub_bsl, put_bsl, size_ip, isOne_ip, stor_ip, fits_ip, strip_ip, sub_ip, put_ip, size_fn, isOne_fn, stor_fn, fits_fn, strip_fn, sub_fn, put_fn, stor_nil, stor_nilf, stor_nili, sizes_nil, sizes_cons, subs_nil, subs_cons, puts_nil, puts_cons, strips_nil, strips_cons, ty1, ty2, ty3, ty4, ty5, ty9, ty12, ty20, ty21, ty22, ty23, ty24, ty25, ty26, ty27, ty28, ty29, ty30, ty31, ty32, ty33, ty34, ty35, ty36, ty37, ty39, ty40, ty41, ty42, ty43, ty44, ty45, ty46, ty47, ty48, ty49, ty50, ty51, ty52, ty53, ty54, ty55, ty56, ty57, ty58, ty59, ty60, ty61, ty62, ty63, ty64, ty65, ty66, ty67, ty68, ty69, ty70, ty71, ty72, ty73, ty74, ty75, ty76, ty77, ty78, ty79, ty80, ty82, ty83, ty89, ty92, ty95, gl0, Tryd.ntmps19, Tryd.results19, PF.toR, gives, givesIf, spec_indexByte, sp_indexByte, c_indexByte, b_indexByte]
  refine ⟨fun hh => ?_, fun hh => ?_⟩
  · have hh := of_decide_eq_true hh
    have hv1 : ofP st (i + 1) = if indexB hexT (byteAt st i) < 0 ∨ 64 ≤ i then none else some (l.set (i / 2) (orI .u8 (l.getD (i / 2) 0) (shlI .u8 (IntKind.wrap .u8 (indexB hexT (byteAt st i))) (4 - ((i % 2 : Nat) : Int) * 4)))) := by simp only [ofP, hl]
    have hbad : (indexB hexT (byteAt st i) < 0 ∨ 64 ≤ i) → D.tup [D.arr IntKind.u8 32 (List.replicate 32 0), D.bool false] = D.tup [D.arr IntKind.u8 32 (ofR st).fst, D.bool (ofR st).snd] := by
      intro hb
      rw [if_pos hb] at hv1
      have := of_none hv1 st.size (by omega)
      simp [ofR, this]
    refine ⟨by omega, by omega, hb.1, hb.2, fun ha => ⟨fun hb' => hbad (.inr (by have := of_decide_eq_true hb'; omega)), fun hb' => ?_⟩, fun ha => hbad (.inl (of_decide_eq_true ha))⟩
    have ha := of_decide_eq_false ha
    have hb' := of_decide_eq_false hb'
    have hi64 : ¬ 64 ≤ i := by omega
    rw [if_neg (fun h => h.elim ha hi64)] at hv1
    have e1 : IntKind.wrap .i64 ((i : Int).tdiv 2) = ((i / 2 : Nat) : Int) := by rw [Int.tdiv_eq_ediv_of_nonneg (by omega), IntWalk.i64_in _ (by omega)]; omega
    have e2 : (i : Int).tmod 2 = ((i % 2 : Nat) : Int) := by rw [Int.tmod_eq_emod_of_nonneg (by omega)]; omega
    have e3 : IntKind.wrap .i64 (((i % 2 : Nat) : Int) * 4) = ((i % 2 : Nat) : Int) * 4 := IntWalk.i64_in _ (by omega)
    have e4 : IntKind.wrap .i64 (4 - ((i % 2 : Nat) : Int) * 4) = 4 - ((i % 2 : Nat) : Int) * 4 := IntWalk.i64_in _ (by omega)
    refine drawI [0, 2, 4, 5, 7, 8] (by kernel_rfl) ?_
    simp (config := {dsimp := false}) only [↓a_skip, ↓a_exit, ↓a_ret, ↓a_seq, ↓a_cond, ↓a_block, ↓a_loop, ↓a_region, ↓a_draw, ↓a_region', ↓a_draw', ↓then_key, ↓with_key, ↓cond_key, ↓one_key, ↓thenQ_normal, ↓thenQ_exit, ↓thenQ_ret, ↓blockQ_normal, ↓blockQ_exit, ↓blockQ_ret, ↓aops, ↓aopsD, ↓imp_tt, ↓imp_ff, ↓imp_tf, ↓imp_ft, ↓imp_tnt, ↓imp_tnf, ↓imp_fnt, ↓imp_fnf, okD_nil, okD_u, okD_t, thenK_mk, withK_some, condK_bool, oneK_some, look, look_hit, setL, resQ, argSlots, buildSt, buildArr, intsOf, eqB, keepSl, sh_one_one, sh_one_arr, sh_one_st, sh_arr_one, sh_arr_arr, sh_arr_st, sh_st_one, sh_st_arr, sh_st_st, bin_int, bin_str, bin_bool, bin_arr, bin_agg, un_neg, un_xor, un_not, i_add, i_sub, i_mul, i_quo, i_rem, i_and, i_or, i_xor, i_andNot, i_eql, i_neq, i_lss, i_leq, i_gtr, i_geq, s_shl, s_shr, opR, okIf, ok, bad, ev, ofConst, putS, updS, S.upd, dstOk, yieldD, strBin, isShift, cellD, retQ, resD, stripO, convR, conv2R, makeR, indexR, indexAddrR, fieldAddrR, loadR, storeR, allocR, boxR, pickR, buildR, buildSliceR, lenR, nilCheckR, extractR, funcR, sliceR, appendR, callR, S.box, S.tok, TK.sh, known, tsize, destI, ownTok, srcI, isIn, isSl, isSt, appendI, appendL, bnd, aggBin, nilD, isPtr, fieldOf, sized, enumS, seeR, seeL, hasB, flat, flats, nil1_none, nil1_sl, nil1_sl', nil1_sli, nil1_bsl, nilK_cons, nilK_nil, nilK_nil', see_any, isB_any, see_int, isB_int, see_bool, isB_bool, see_str, isB_str, see_raw, isB_raw, see_arr, isB_arr, see_agg, isB_agg, see_tup, isB_tup, see_sli, isB_sli, see_sl, isB_sl, see_bp, isB_bp, see_be, isB_be, see_ip, isB_ip, see_fn, isB_fn, see_bsl, isB_bsl, seen_arr, List.foldl_nil, List.foldl_cons, Option.getD_some, Option.getD_none, if_true, if_false, reduceIte, reduceCtorEq, Nat.reduceEqDiff, Nat.reduceAdd, Nat.reduceMul, Nat.reduceLT, Nat.reduceSub, Nat.reduceLeDiff, true_and, and_true, List.map_cons, List.map_nil, List.size_toArray, List.length_cons, List.length_nil, Option.map_some, Option.map_none, Option.bind_some, true_implies, Bool.false_eq_true, Bool.true_eq_false, false_implies, Bool.not_true, Bool.not_false, List.getElem?_cons_zero, List.getElem?_cons_succ, implies_true, and_self, Bool.and_true, Bool.true_and, BEq.rfl, and_assoc, Option.isSome_some, Option.isSome_none, List.take_succ_cons, List.take_zero, List.set_cons_zero, List.set_cons_succ, List.forall_mem_cons, List.not_mem_nil, forall_const, List.range, List.range.loop, ne_eq, not_false_eq_true, not_true_eq_false, List.cons.injEq, Prod.mk.injEq, List.append_nil, List.nil_append, List.cons_append, false_and, and_false, Bool.false_and, Bool.and_false, Nat.reduceBNe, Nat.reduceBEq, beq_self_eq_true, bne_self_eq_false, Nat.reduceBeqDiff, Bool.or_false, Bool.false_or, Bool.or_true, Bool.true_or, size_any, isOne_any, stor_any, fits_any, strip_any, sub_any, put_any, size_int, isOne_int, stor_int, fits_int, strip_int, sub_int, put_int, size_bool, isOne_bool, stor_bool, fits_bool, strip_bool, sub_bool, put_bool, size_str, isOne_str, stor_str, fits_str, strip_str, sub_str, put_str, size_raw, isOne_raw, fits_raw, strip_raw, sub_raw, put_raw, size_arr, isOne_arr, stor_arr, fits_arr, strip_arr, sub_arr, put_arr, size_agg, isOne_agg, stor_agg, fits_agg, strip_agg, sub_agg, put_agg, isOne_tup, stor_tup, fits_tup, strip_tup, sub_tup, put_tup, size_sli, isOne_sli, stor_sli, fits_sli, strip_sli, sub_sli, put_sli, size_sl, isOne_sl, stor_sl, fits_sl, strip_sl, sub_sl, put_sl, size_bp, isOne_bp, stor_bp, fits_bp, strip_bp, sub_bp, put_bp, size_be, isOne_be, stor_be, fits_be, strip_be, sub_be, put_be, size_bsl, isOne_bsl, stor_bsl, fits_bsl, strip_bsl, sub_bsl, put_bsl, size_ip, isOne_ip, stor_ip, fits_ip, strip_ip, sub_ip, put_ip, size_fn, isOne_fn, stor_fn, fits_fn, strip_fn, sub_fn, put_fn, stor_nil, stor_nilf, stor_nili, sizes_nil, sizes_cons, subs_nil, subs_cons, puts_nil, puts_cons, strips_nil, strips_cons, ty1, ty2, ty3, ty4, ty5, ty9, ty12, ty20, ty21, ty22, ty23, ty24, ty25, ty26, ty27, ty28, ty29, ty30, ty31, ty32, ty33, ty34, ty35, ty36, ty37, ty39, ty40, ty41, ty42, ty43, ty44, ty45, ty46, ty47, ty48, ty49, ty50, ty51, ty52, ty53, ty54, ty55, ty56, ty57, ty58, ty59, ty60, ty61, ty62, ty63, ty64, ty65, ty66, ty67, ty68, ty69, ty70, ty71, ty72, ty73, ty74, ty75, ty76, ty77, ty78, ty79, ty80, ty82, ty83, ty89, ty92, ty95, gl0, Tryd.ntmps19, Tryd.results19, e1, e2, e3, e4]
    refine ⟨by decide, by omega, by omega, by decide, by omega, by omega, by omega, by kernel_rfl, ⟨(i + 1, _), by show i + 1 ≤ st.size; omega, hv1⟩, ⟨⟨wkD_eq ?_, rfl, wkD_eq rfl, rfl, wkD_eq rfl, rfl, wkD_eq rfl, rfl, trivial⟩, ⟨?_, Nat.le_of_ble_eq_true rfl, rfl, trivial⟩, trivial⟩, by show st.size - (i + 1) < st.size - i; omega⟩
    · exact some_i64 (by (try simp only); omega)
    · rfl
  · have hh := of_decide_eq_false hh
    obtain rfl : i = st.size := by omega
    by_cases h64 : st.size = 64
    · have hl2 : ofP st 64 = some l := by rw [← h64]; exact hl
      simp [ofR, hl2, h64]
    · have : ¬ ((st.size : Int) = 64) := by omega
      simp [ofR, hl, h64, this]
end Go.Vi.C1
end

section
set_option linter.unusedVariables false
set_option linter.unusedSimpArgs false
set_option maxHeartbeats 0
set_option maxRecDepth 20000
namespace Go.Vi.C1
open Go.Proofs

theorem c_name : Contract E 23 := by
  refine contract_see hE hgl (show E.P.funcs[23]? = some Tryd.f23 from Tryd.func23) rfl (p := sp_name) (fun _ _ _ => rfl) ?_
  intro args hv
  unfold sp_name at hv ⊢
  split at hv
  case h_2 => exact hv.elim
  rename_i s
  refine ⟨by simp, Nat.le_of_ble_eq_true rfl, ?_⟩
  simp only [givesIf] at hv
  simp (config := {dsimp := false}) only [↓a_skip, ↓a_exit, ↓a_ret, ↓a_seq, ↓a_cond, ↓a_block, ↓a_loop, ↓a_region, ↓a_draw, ↓a_region', ↓a_draw', ↓then_key, ↓with_key, ↓cond_key, ↓one_key, ↓thenQ_normal, ↓thenQ_exit, ↓thenQ_ret, ↓blockQ_normal, ↓blockQ_exit, ↓blockQ_ret, ↓aops, ↓aopsD, ↓imp_tt, ↓imp_ff, ↓imp_tf, ↓imp_ft, ↓imp_tnt, ↓imp_tnf, ↓imp_fnt, ↓imp_fnf, okD_nil, okD_u, okD_t, thenK_mk, withK_some, condK_bool, oneK_some, look, look_hit, setL, resQ, argSlots, buildSt, buildArr, intsOf, eqB, keepSl, sh_one_one, sh_one_arr, sh_one_st, sh_arr_one, sh_arr_arr, sh_arr_st, sh_st_one, sh_st_arr, sh_st_st, bin_int, bin_str, bin_bool, bin_arr, bin_agg, un_neg, un_xor, un_not, i_add, i_sub, i_mul, i_quo, i_rem, i_and, i_or, i_xor, i_andNot, i_eql, i_neq, i_lss, i_leq, i_gtr, i_geq, s_shl, s_shr, opR, okIf, ok, bad, ev, ofConst, putS, updS, S.upd, dstOk, yieldD, strBin, isShift, cellD, retQ, resD, stripO, convR, conv2R, makeR, indexR, indexAddrR, fieldAddrR, loadR, storeR, allocR, boxR, pickR, buildR, buildSliceR, lenR, nilCheckR, extractR, funcR, sliceR, appendR, callR, S.box, S.tok, TK.sh, known, tsize, destI, ownTok, srcI, isIn, isSl, isSt, appendI, appendL, bnd, aggBin, nilD, isPtr, fieldOf, sized, enumS, seeR, seeL, hasB, flat, flats, nil1_none, nil1_sl, nil1_sl', nil1_sli, nil1_bsl, nilK_cons, nilK_nil, nilK_nil', see_any, isB_any, see_int, isB_int, see_bool, isB_bool, see_str, isB_str, see_raw, isB_raw, see_arr, isB_arr, see_agg, isB_agg, see_tup, isB_tup, see_sli, isB_sli, see_sl, isB_sl, see_bp, isB_bp, see_be, isB_be, see_ip, isB_ip, see_fn, isB_fn, see_bsl, isB_bsl, seen_arr, List.foldl_nil, List.foldl_cons, Option.getD_some, Option.getD_none, if_true, if_false, reduceIte, reduceCtorEq, Nat.reduceEqDiff, Nat.reduceAdd, Nat.reduceMul, Nat.reduceLT, Nat.reduceSub, Nat.reduceLeDiff, true_and, and_true, List.map_cons, List.map_nil, List.size_toArray, List.length_cons, List.length_nil, Option.map_some, Option.map_none, Option.bind_some, true_implies, Bool.false_eq_true, Bool.true_eq_false, false_implies, Bool.not_true, Bool.not_false, List.getElem?_cons_zero, List.getElem?_cons_succ, implies_true, and_self, Bool.and_true, Bool.true_and, BEq.rfl, and_assoc, Option.isSome_some, Option.isSome_none, List.take_succ_cons, List.take_zero, List.set_cons_zero, List.set_cons_succ, List.forall_mem_cons, List.not_mem_nil, forall_const, List.range, List.range.loop, ne_eq, not_false_eq_true, not_true_eq_false, List.cons.injEq, Prod.mk.injEq, List.append_nil, List.nil_append, List.cons_append, false_and, and_false, Bool.false_and, Bool.and_false, Nat.reduceBNe, Nat.reduceBEq, beq_self_eq_true, bne_self_eq_false, Nat.reduceBeqDiff, Bool.or_false, Bool.false_or, Bool.or_true, Bool.true_or, size_any, isOne_any, stor_any, fits_any, strip_any, sub_any, put_any, size_int, isOne_int, stor_int, fits_int, strip_int, sub_int, put_int, size_bool, isOne_bool, stor_bool, fits_bool, strip_bool, sub_bool, put_bool, size_str, isOne_str, stor_str, fits_str, strip_str, sub_str, put_str, size_raw, isOne_raw, fits_raw, strip_raw, sub_raw, put_raw, size_arr, isOne_arr, stor_arr, fits_arr, strip_arr, sub_arr, put_arr, size_agg, isOne_agg, stor_agg, fits_agg, strip_agg, sub_agg, put_agg, isOne_tup, stor_tup, fits_tup, strip_tup, sub_tup, put_tup, size_sli, isOne_sli, stor_sli, fits_sli, strip_sli, sub_sli, put_sli, size_sl, isOne_sl, stor_sl, fits_sl, strip_sl, sub_sl, put_sl, size_bp, isOne_bp, stor_bp, fits_bp, strip_bp, sub_bp, put_bp, size_be, isOne_be, stor_be, fits_be, strip_be, sub_be, put_be, size_bsl, isOne_bsl, stor_bsl, fits_bsl, strip_bsl, sub_bsl, put_bsl, size_ip, isOne_ip, stor_ip, fits_ip, strip_ip, sub_ip, put_ip, size_fn, isOne_fn, stor_fn, fits_fn, strip_fn, sub_fn, put_fn, stor_nil, stor_nilf, stor_nili, sizes_nil, sizes_cons, subs_nil, subs_cons, puts_nil, puts_cons, strips_nil, strips_cons, ty1, ty2, ty3, ty4, ty5, ty9, ty12, ty20, ty21, ty22, ty23, ty24, ty25, ty26, ty27, ty28, ty29, ty30, ty31, ty32, ty33, ty34, ty35, ty36, ty37, ty39, ty40, ty41, ty42, ty43, ty44, ty45, ty46, ty47, ty48, ty49, ty50, ty51, ty52, ty53, ty54, ty55, ty56, ty57, ty58, ty59, ty60, ty61, ty62, ty63, ty64, ty65, ty66, ty67, ty68, ty69, ty70, ty71, ty72, ty73, ty74, ty75, ty76, ty77, ty78, ty79, ty80, ty82, ty83, ty89, ty92, ty95, gl0, Tryd.ntmps23, Tryd.results23, PF.toR, gives, givesIf, spec_sum, sp_sum, c_sum, b_sum, spec_text, sp_text, c_text, b_text]
  refine ⟨by simpa [bytesOf] using hv, sum_len _, bytes_sum _, rfl⟩
theorem c_awake : Contract E 11 := by
  refine contract_see hE hgl (show E.P.funcs[11]? = some Tryd.f11 from Tryd.func11) rfl (p := sp_awake) (fun _ _ _ => rfl) ?_
  intro args hv
  unfold sp_awake at hv ⊢
  split at hv
  case h_2 => exact hv.elim
  refine ⟨by simp, Nat.le_of_ble_eq_true rfl, ?_⟩
  have l1 : (ByteArray.mk #[97, 98, 99]).size < 1000000000 := by decide
  simp (config := {dsimp := false}) only [↓a_skip, ↓a_exit, ↓a_ret, ↓a_seq, ↓a_cond, ↓a_block, ↓a_loop, ↓a_region, ↓a_draw, ↓a_region', ↓a_draw', ↓then_key, ↓with_key, ↓cond_key, ↓one_key, ↓thenQ_normal, ↓thenQ_exit, ↓thenQ_ret, ↓blockQ_normal, ↓blockQ_exit, ↓blockQ_ret, ↓aops, ↓aopsD, ↓imp_tt, ↓imp_ff, ↓imp_tf, ↓imp_ft, ↓imp_tnt, ↓imp_tnf, ↓imp_fnt, ↓imp_fnf, okD_nil, okD_u, okD_t, thenK_mk, withK_some, condK_bool, oneK_some, look, look_hit, setL, resQ, argSlots, buildSt, buildArr, intsOf, eqB, keepSl, sh_one_one, sh_one_arr, sh_one_st, sh_arr_one, sh_arr_arr, sh_arr_st, sh_st_one, sh_st_arr, sh_st_st, bin_int, bin_str, bin_bool, bin_arr, bin_agg, un_neg, un_xor, un_not, i_add, i_sub, i_mul, i_quo, i_rem, i_and, i_or, i_xor, i_andNot, i_eql, i_neq, i_lss, i_leq, i_gtr, i_geq, s_shl, s_shr, opR, okIf, ok, bad, ev, ofConst, putS, updS, S.upd, dstOk, yieldD, strBin, isShift, cellD, retQ, resD, stripO, convR, conv2R, makeR, indexR, indexAddrR, fieldAddrR, loadR, storeR, allocR, boxR, pickR, buildR, buildSliceR, lenR, nilCheckR, extractR, funcR, sliceR, appendR, callR, S.box, S.tok, TK.sh, known, tsize, destI, ownTok, srcI, isIn, isSl, isSt, appendI, appendL, bnd, aggBin, nilD, isPtr, fieldOf, sized, enumS, seeR, seeL, hasB, flat, flats, nil1_none, nil1_sl, nil1_sl', nil1_sli, nil1_bsl, nilK_cons, nilK_nil, nilK_nil', see_any, isB_any, see_int, isB_int, see_bool, isB_bool, see_str, isB_str, see_raw, isB_raw, see_arr, isB_arr, see_agg, isB_agg, see_tup, isB_tup, see_sli, isB_sli, see_sl, isB_sl, see_bp, isB_bp, see_be, isB_be, see_ip, isB_ip, see_fn, isB_fn, see_bsl, isB_bsl, seen_arr, List.foldl_nil, List.foldl_cons, Option.getD_some, Option.getD_none, if_true, if_false, reduceIte, reduceCtorEq, Nat.reduceEqDiff, Nat.reduceAdd, Nat.reduceMul, Nat.reduceLT, Nat.reduceSub, Nat.reduceLeDiff, true_and, and_true, List.map_cons, List.map_nil, List.size_toArray, List.length_cons, List.length_nil, Option.map_some, Option.map_none, Option.bind_some, true_implies, Bool.false_eq_true, Bool.true_eq_false, false_implies, Bool.not_true, Bool.not_false, List.getElem?_cons_zero, List.getElem?_cons_succ, implies_true, and_self, Bool.and_true, Bool.true_and, BEq.rfl, and_assoc, Option.isSome_some, Option.isSome_none, List.take_succ_cons, List.take_zero, List.set_cons_zero, List.set_cons_succ, List.forall_mem_cons, List.not_mem_nil, forall_const, List.range, List.range.loop, ne_eq, not_false_eq_true, not_true_eq_false, List.cons.injEq, Prod.mk.injEq, List.append_nil, List.nil_append, List.cons_append, false_and, and_false, Bool.false_and, Bool.and_false, Nat.reduceBNe, Nat.reduceBEq, beq_self_eq_true, bne_self_eq_false, Nat.reduceBeqDiff, Bool.or_false, Bool.false_or, Bool.or_true, Bool.true_or, size_any, isOne_any, stor_any, fits_any, strip_any, sub_any, put_any, size_int, isOne_int, stor_int, fits_int, strip_int, sub_int, put_int, size_bool, isOne_bool, stor_bool, fits_bool, strip_bool, sub_bool, put_bool, size_str, isOne_str, stor_str, fits_str, strip_str, sub_str, put_str, size_raw, isOne_raw, fits_raw, strip_raw, sub_raw, put_raw, size_arr, isOne_arr, stor_arr, fits_arr, strip_arr, sub_arr, put_arr, size_agg, isOne_agg, stor_agg, fits_agg, strip_agg, sub_agg, put_agg, isOne_tup, stor_tup, fits_tup, strip_tup, sub_tup, put_tup, size_sli, isOne_sli, stor_sli, fits_sli, strip_sli, sub_sli, put_sli, size_sl, isOne_sl, stor_sl, fits_sl, strip_sl, sub_sl, put_sl, size_bp, isOne_bp, stor_bp, fits_bp, strip_bp, sub_bp, put_bp, size_be, isOne_be, stor_be, fits_be, strip_be, sub_be, put_be, size_bsl, isOne_bsl, stor_bsl, fits_bsl, strip_bsl, sub_bsl, put_bsl, size_ip, isOne_ip, stor_ip, fits_ip, strip_ip, sub_ip, put_ip, size_fn, isOne_fn, stor_fn, fits_fn, strip_fn, sub_fn, put_fn, stor_nil, stor_nilf, stor_nili, sizes_nil, sizes_cons, subs_nil, subs_cons, puts_nil, puts_cons, strips_nil, strips_cons, ty1, ty2, ty3, ty4, ty5, ty9, ty12, ty20, ty21, ty22, ty23, ty24, ty25, ty26, ty27, ty28, ty29, ty30, ty31, ty32, ty33, ty34, ty35, ty36, ty37, ty39, ty40, ty41, ty42, ty43, ty44, ty45, ty46, ty47, ty48, ty49, ty50, ty51, ty52, ty53, ty54, ty55, ty56, ty57, ty58, ty59, ty60, ty61, ty62, ty63, ty64, ty65, ty66, ty67, ty68, ty69, ty70, ty71, ty72, ty73, ty74, ty75, ty76, ty77, ty78, ty79, ty80, ty82, ty83, ty89, ty92, ty95, gl0, Tryd.ntmps11, Tryd.results11, PF.toR, gives, givesIf, name_abc, twice_nil, eq_self, decide_true, l1, spec_name, sp_name, c_name, b_name, spec_twice, sp_twice, c_twice, b_twice, spec_text, sp_text, c_text, b_text]
  refine ⟨sum_len _, bytes_sum _⟩
theorem c_lawNames : Contract E 3 := by
  refine contract_see hE hgl (show E.P.funcs[3]? = some Tryd.f3 from Tryd.func3) rfl (p := sp_lawNames) (fun _ _ _ => rfl) ?_
  intro args hv
  unfold sp_lawNames at hv ⊢
  split at hv
  case h_2 => exact hv.elim
  rename_i b
  refine ⟨by simp, Nat.le_of_ble_eq_true rfl, ?_⟩
  simp only [givesIf] at hv
  by_cases h3 : b.length ≤ 3000
  · have hs1 := sum_eq b hv (by omega)
    have hs2 : refSumI (sumP b) = sumP (sumP b) := sum_eq _ (bytes_sum b) (by rw [sum_len]; decide)
    have hl : b.length < 1000000000 := by omega
    have hd : decide ((3000 : Int) < (b.length : Int)) = false := decide_eq_false (by omega)
    simp (config := {dsimp := false}) only [↓a_skip, ↓a_exit, ↓a_ret, ↓a_seq, ↓a_cond, ↓a_block, ↓a_loop, ↓a_region, ↓a_draw, ↓a_region', ↓a_draw', ↓then_key, ↓with_key, ↓cond_key, ↓one_key, ↓thenQ_normal, ↓thenQ_exit, ↓thenQ_ret, ↓blockQ_normal, ↓blockQ_exit, ↓blockQ_ret, ↓aops, ↓aopsD, ↓imp_tt, ↓imp_ff, ↓imp_tf, ↓imp_ft, ↓imp_tnt, ↓imp_tnf, ↓imp_fnt, ↓imp_fnf, okD_nil, okD_u, okD_t, thenK_mk, withK_some, condK_bool, oneK_some, look, look_hit, setL, resQ, argSlots, buildSt, buildArr, intsOf, eqB, keepSl, sh_one_one, sh_one_arr, sh_one_st, sh_arr_one, sh_arr_arr, sh_arr_st, sh_st_one, sh_st_arr, sh_st_st, bin_int, bin_str, bin_bool, bin_arr, bin_agg, un_neg, un_xor, un_not, i_add, i_sub, i_mul, i_quo, i_rem, i_and, i_or, i_xor, i_andNot, i_eql, i_neq, i_lss, i_leq, i_gtr, i_geq, s_shl, s_shr, opR, okIf, ok, bad, ev, ofConst, putS, updS, S.upd, dstOk, yieldD, strBin, isShift, cellD, retQ, resD, stripO, convR, conv2R, makeR, indexR, indexAddrR, fieldAddrR, loadR, storeR, allocR, boxR, pickR, buildR, buildSliceR, lenR, nilCheckR, extractR, funcR, sliceR, appendR, callR, S.box, S.tok, TK.sh, known, tsize, destI, ownTok, srcI, isIn, isSl, isSt, appendI, appendL, bnd, aggBin, nilD, isPtr, fieldOf, sized, enumS, seeR, seeL, hasB, flat, flats, nil1_none, nil1_sl, nil1_sl', nil1_sli, nil1_bsl, nilK_cons, nilK_nil, nilK_nil', see_any, isB_any, see_int, isB_int, see_bool, isB_bool, see_str, isB_str, see_raw, isB_raw, see_arr, isB_arr, see_agg, isB_agg, see_tup, isB_tup, see_sli, isB_sli, see_sl, isB_sl, see_bp, isB_bp, see_be, isB_be, see_ip, isB_ip, see_fn, isB_fn, see_bsl, isB_bsl, seen_arr, List.foldl_nil, List.foldl_cons, Option.getD_some, Option.getD_none, if_true, if_false, reduceIte, reduceCtorEq, Nat.reduceEqDiff, Nat.reduceAdd, Nat.reduceMul, Nat.reduceLT, Nat.reduceSub, Nat.reduceLeDiff, true_and, and_true, List.map_cons, List.map_nil, List.size_toArray, List.length_cons, List.length_nil, Option.map_some, Option.map_none, Option.bind_some, true_implies, Bool.false_eq_true, Bool.true_eq_false, false_implies, Bool.not_true, Bool.not_false, List.getElem?_cons_zero, List.getElem?_cons_succ, implies_true, and_self, Bool.and_true, Bool.true_and, BEq.rfl, and_assoc, Option.isSome_some, Option.isSome_none, List.take_succ_cons, List.take_zero, List.set_cons_zero, List.set_cons_succ, List.forall_mem_cons, List.not_mem_nil, forall_const, List.range, List.range.loop, ne_eq, not_false_eq_true, not_true_eq_false, List.cons.injEq, Prod.mk.injEq, List.append_nil, List.nil_append, List.cons_append, false_and, and_false, Bool.false_and, Bool.and_false, Nat.reduceBNe, Nat.reduceBEq, beq_self_eq_true, bne_self_eq_false, Nat.reduceBeqDiff, Bool.or_false, Bool.false_or, Bool.or_true, Bool.true_or, size_any, isOne_any, stor_any, fits_any, strip_any, sub_any, put_any, size_int, isOne_int, stor_int, fits_int, strip_int, sub_int, put_int, size_bool, isOne_bool, stor_bool, fits_bool, strip_bool, sub_bool, put_bool, size_str, isOne_str, stor_str, fits_str, strip_str, sub_str, put_str, size_raw, isOne_raw, fits_raw, strip_raw, sub_raw, put_raw, size_arr, isOne_arr, stor_arr, fits_arr, strip_arr, sub_arr, put_arr, size_agg, isOne_agg, stor_agg, fits_agg, strip_agg, sub_agg, put_agg, isOne_tup, stor_tup, fits_tup, strip_tup, sub_tup, put_tup, size_sli, isOne_sli, stor_sli, fits_sli, strip_sli, sub_sli, put_sli, size_sl, isOne_sl, stor_sl, fits_sl, strip_sl, sub_sl, put_sl, size_bp, isOne_bp, stor_bp, fits_bp, strip_bp, sub_bp, put_bp, size_be, isOne_be, stor_be, fits_be, strip_be, sub_be, put_be, size_bsl, isOne_bsl, stor_bsl, fits_bsl, strip_bsl, sub_bsl, put_bsl, size_ip, isOne_ip, stor_ip, fits_ip, strip_ip, sub_ip, put_ip, size_fn, isOne_fn, stor_fn, fits_fn, strip_fn, sub_fn, put_fn, stor_nil, stor_nilf, stor_nili, sizes_nil, sizes_cons, subs_nil, subs_cons, puts_nil, puts_cons, strips_nil, strips_cons, ty1, ty2, ty3, ty4, ty5, ty9, ty12, ty20, ty21, ty22, ty23, ty24, ty25, ty26, ty27, ty28, ty29, ty30, ty31, ty32, ty33, ty34, ty35, ty36, ty37, ty39, ty40, ty41, ty42, ty43, ty44, ty45, ty46, ty47, ty48, ty49, ty50, ty51, ty52, ty53, ty54, ty55, ty56, ty57, ty58, ty59, ty60, ty61, ty62, ty63, ty64, ty65, ty66, ty67, ty68, ty69, ty70, ty71, ty72, ty73, ty74, ty75, ty76, ty77, ty78, ty79, ty80, ty82, ty83, ty89, ty92, ty95, gl0, Tryd.ntmps3, Tryd.results3, PF.toR, gives, givesIf, hs1, hs2, hl, hd, eq_self, decide_true, spec_awake, sp_awake, c_awake, b_awake, spec_sum, sp_sum, c_sum, b_sum, spec_twice, sp_twice, c_twice, b_twice, spec_refSum, sp_refSum, c_refSum, b_refSum, spec_refTwice, sp_refTwice, c_refTwice, b_refTwice]
    omega
  · have hd : decide ((3000 : Int) < (b.length : Int)) = true := decide_eq_true (by omega)
    simp (config := {dsimp := false}) only [↓a_skip, ↓a_exit, ↓a_ret, ↓a_seq, ↓a_cond, ↓a_block, ↓a_loop, ↓a_region, ↓a_draw, ↓a_region', ↓a_draw', ↓then_key, ↓with_key, ↓cond_key, ↓one_key, ↓thenQ_normal, ↓thenQ_exit, ↓thenQ_ret, ↓blockQ_normal, ↓blockQ_exit, ↓blockQ_ret, ↓aops, ↓aopsD, ↓imp_tt, ↓imp_ff, ↓imp_tf, ↓imp_ft, ↓imp_tnt, ↓imp_tnf, ↓imp_fnt, ↓imp_fnf, okD_nil, okD_u, okD_t, thenK_mk, withK_some, condK_bool, oneK_some, look, look_hit, setL, resQ, argSlots, buildSt, buildArr, intsOf, eqB, keepSl, sh_one_one, sh_one_arr, sh_one_st, sh_arr_one, sh_arr_arr, sh_arr_st, sh_st_one, sh_st_arr, sh_st_st, bin_int, bin_str, bin_bool, bin_arr, bin_agg, un_neg, un_xor, un_not, i_add, i_sub, i_mul, i_quo, i_rem, i_and, i_or, i_xor, i_andNot, i_eql, i_neq, i_lss, i_leq, i_gtr, i_geq, s_shl, s_shr, opR, okIf, ok, bad, ev, ofConst, putS, updS, S.upd, dstOk, yieldD, strBin, isShift, cellD, retQ, resD, stripO, convR, conv2R, makeR, indexR, indexAddrR, fieldAddrR, loadR, storeR, allocR, boxR, pickR, buildR, buildSliceR, lenR, nilCheckR, extractR, funcR, sliceR, appendR, callR, S.box, S.tok, TK.sh, known, tsize, destI, ownTok, srcI, isIn, isSl, isSt, appendI, appendL, bnd, aggBin, nilD, isPtr, fieldOf, sized, enumS, seeR, seeL, hasB, flat, flats, nil1_none, nil1_sl, nil1_sl', nil1_sli, nil1_bsl, nilK_cons, nilK_nil, nilK_nil', see_any, isB_any, see_int, isB_int, see_bool, isB_bool, see_str, isB_str, see_raw, isB_raw, see_arr, isB_arr, see_agg, isB_agg, see_tup, isB_tup, see_sli, isB_sli, see_sl, isB_sl, see_bp, isB_bp, see_be, isB_be, see_ip, isB_ip, see_fn, isB_fn, see_bsl, isB_bsl, seen_arr, List.foldl_nil, List.foldl_cons, Option.getD_some, Option.getD_none, if_true, if_false, reduceIte, reduceCtorEq, Nat.reduceEqDiff, Nat.reduceAdd, Nat.reduceMul, Nat.reduceLT, Nat.reduceSub, Nat.reduceLeDiff, true_and, and_true, List.map_cons, List.map_nil, List.size_toArray, List.length_cons, List.length_nil, Option.map_some, Option.map_none, Option.bind_some, true_implies, Bool.false_eq_true, Bool.true_eq_false, false_implies, Bool.not_true, Bool.not_false, List.getElem?_cons_zero, List.getElem?_cons_succ, implies_true, and_self, Bool.and_true, Bool.true_and, BEq.rfl, and_assoc, Option.isSome_some, Option.isSome_none, List.take_succ_cons, List.take_zero, List.set_cons_zero, List.set_cons_succ, List.forall_mem_cons, List.not_mem_nil, forall_const, List.range, List.range.loop, ne_eq, not_false_eq_true, not_true_eq_false, List.cons.injEq, Prod.mk.injEq, List.append_nil, List.nil_append, List.cons_append, false_and, and_false, Bool.false_and, Bool.and_false, Nat.reduceBNe, Nat.reduceBEq, beq_self_eq_true, bne_self_eq_false, Nat.reduceBeqDiff, Bool.or_false, Bool.false_or, Bool.or_true, Bool.true_or, size_any, isOne_any, stor_any, fits_any, strip_any, sub_any, put_any, size_int, isOne_int, stor_int, fits_int, strip_int, sub_int, put_int, size_bool, isOne_bool, stor_bool, fits_bool, strip_bool, sub_bool, put_bool, size_str, isOne_str, stor_str, fits_str, strip_str, sub_str, put_str, size_raw, isOne_raw, fits_raw, strip_raw, sub_raw, put_raw, size_arr, isOne_arr, stor_arr, fits_arr, strip_arr, sub_arr, put_arr, size_agg, isOne_agg, stor_agg, fits_agg, strip_agg, sub_agg, put_agg, isOne_tup, stor_tup, fits_tup, strip_tup, sub_tup, put_tup, size_sli, isOne_sli, stor_sli, fits_sli, strip_sli, sub_sli, put_sli, size_sl, isOne_sl, stor_sl, fits_sl, strip_sl, sub_sl, put_sl, size_bp, isOne_bp, stor_bp, fits_bp, strip_bp, sub_bp, put_bp, size_be, isOne_be, stor_be, fits_be, strip_be, sub_be, put_be, size_bsl, isOne_bsl, stor_bsl, fits_bsl, strip_bsl, sub_bsl, put_bsl, size_ip, isOne_ip, stor_ip, fits_ip, strip_ip, sub_ip, put_ip, size_fn, isOne_fn, stor_fn, fits_fn, strip_fn, sub_fn, put_fn, stor_nil, stor_nilf, stor_nili, sizes_nil, sizes_cons, subs_nil, subs_cons, puts_nil, puts_cons, strips_nil, strips_cons, ty1, ty2, ty3, ty4, ty5, ty9, ty12, ty20, ty21, ty22, ty23, ty24, ty25, ty26, ty27, ty28, ty29, ty30, ty31, ty32, ty33, ty34, ty35, ty36, ty37, ty39, ty40, ty41, ty42, ty43, ty44, ty45, ty46, ty47, ty48, ty49, ty50, ty51, ty52, ty53, ty54, ty55, ty56, ty57, ty58, ty59, ty60, ty61, ty62, ty63, ty64, ty65, ty66, ty67, ty68, ty69, ty70, ty71, ty72, ty73, ty74, ty75, ty76, ty77, ty78, ty79, ty80, ty82, ty83, ty89, ty92, ty95, gl0, Tryd.ntmps3, Tryd.results3, PF.toR, gives, givesIf, hd, spec_awake, sp_awake, c_awake, b_awake]
theorem c_lawTwice : Contract E 5 := by
  refine contract_see hE hgl (show E.P.funcs[5]? = some Tryd.f5 from Tryd.func5) rfl (p := sp_lawTwice) (fun _ _ _ => rfl) ?_
  intro args hv
  unfold sp_lawTwice at hv ⊢
  split at hv
  case h_2 => exact hv.elim
  rename_i b
  refine ⟨by simp, Nat.le_of_ble_eq_true rfl, ?_⟩
  simp only [givesIf] at hv
  simp (config := {dsimp := false}) only [↓a_skip, ↓a_exit, ↓a_ret, ↓a_seq, ↓a_cond, ↓a_block, ↓a_loop, ↓a_region, ↓a_draw, ↓a_region', ↓a_draw', ↓then_key, ↓with_key, ↓cond_key, ↓one_key, ↓thenQ_normal, ↓thenQ_exit, ↓thenQ_ret, ↓blockQ_normal, ↓blockQ_exit, ↓blockQ_ret, ↓aops, ↓aopsD, ↓imp_tt, ↓imp_ff, ↓imp_tf, ↓imp_ft, ↓imp_tnt, ↓imp_tnf, ↓imp_fnt, ↓imp_fnf, okD_nil, okD_u, okD_t, thenK_mk, withK_some, condK_bool, oneK_some, look, look_hit, setL, resQ, argSlots, buildSt, buildArr, intsOf, eqB, keepSl, sh_one_one, sh_one_arr, sh_one_st, sh_arr_one, sh_arr_arr, sh_arr_st, sh_st_one, sh_st_arr, sh_st_st, bin_int, bin_str, bin_bool, bin_arr, bin_agg, un_neg, un_xor, un_not, i_add, i_sub, i_mul, i_quo, i_rem, i_and, i_or, i_xor, i_andNot, i_eql, i_neq, i_lss, i_leq, i_gtr, i_geq, s_shl, s_shr, opR, okIf, ok, bad, ev, ofConst, putS, updS, S.upd, dstOk, yieldD, strBin, isShift, cellD, retQ, resD, stripO, convR, conv2R, makeR, indexR, indexAddrR, fieldAddrR, loadR, storeR, allocR, boxR, pickR, buildR, buildSliceR, lenR, nilCheckR, extractR, funcR, sliceR, appendR, callR, S.box, S.tok, TK.sh, known, tsize, destI, ownTok, srcI, isIn, isSl, isSt, appendI, appendL, bnd, aggBin, nilD, isPtr, fieldOf, sized, enumS, seeR, seeL, hasB, flat, flats, nil1_none, nil1_sl, nil1_sl', nil1_sli, nil1_bsl, nilK_cons, nilK_nil, nilK_nil', see_any, isB_any, see_int, isB_int, see_bool, isB_bool, see_str, isB_str, see_raw, isB_raw, see_arr, isB_arr, see_agg, isB_agg, see_tup, isB_tup, see_sli, isB_sli, see_sl, isB_sl, see_bp, isB_bp, see_be, isB_be, see_ip, isB_ip, see_fn, isB_fn, see_bsl, isB_bsl, seen_arr, List.foldl_nil, List.foldl_cons, Option.getD_some, Option.getD_none, if_true, if_false, reduceIte, reduceCtorEq, Nat.reduceEqDiff, Nat.reduceAdd, Nat.reduceMul, Nat.reduceLT, Nat.reduceSub, Nat.reduceLeDiff, true_and, and_true, List.map_cons, List.map_nil, List.size_toArray, List.length_cons, List.length_nil, Option.map_some, Option.map_none, Option.bind_some, true_implies, Bool.false_eq_true, Bool.true_eq_false, false_implies, Bool.not_true, Bool.not_false, List.getElem?_cons_zero, List.getElem?_cons_succ, implies_true, and_self, Bool.and_true, Bool.true_and, BEq.rfl, and_assoc, Option.isSome_some, Option.isSome_none, List.take_succ_cons, List.take_zero, List.set_cons_zero, List.set_cons_succ, List.forall_mem_cons, List.not_mem_nil, forall_const, List.range, List.range.loop, ne_eq, not_false_eq_true, not_true_eq_false, List.cons.injEq, Prod.mk.injEq, List.append_nil, List.nil_append, List.cons_append, false_and, and_false, Bool.false_and, Bool.and_false, Nat.reduceBNe, Nat.reduceBEq, beq_self_eq_true, bne_self_eq_false, Nat.reduceBeqDiff, Bool.or_false, Bool.false_or, Bool.or_true, Bool.true_or, size_any, isOne_any, stor_any, fits_any, strip_any, sub_any, put_any, size_int, isOne_int, stor_int, fits_int, strip_int, sub_int, put_int, size_bool, isOne_bool, stor_bool, fits_bool, strip_bool, sub_bool, put_bool, size_str, isOne_str, stor_str, fits_str, strip_str, sub_str, put_str, size_raw, isOne_raw, fits_raw, strip_raw, sub_raw, put_raw, size_arr, isOne_arr, stor_arr, fits_arr, strip_arr, sub_arr, put_arr, size_agg, isOne_agg, stor_agg, fits_agg, strip_agg, sub_agg, put_agg, isOne_tup, stor_tup, fits_tup, strip_tup, sub_tup, put_tup, size_sli, isOne_sli, stor_sli, fits_sli, strip_sli, sub_sli, put_sli, size_sl, isOne_sl, stor_sl, fits_sl, strip_sl, sub_sl, put_sl, size_bp, isOne_bp, stor_bp, fits_bp, strip_bp, sub_bp, put_bp, size_be, isOne_be, stor_be, fits_be, strip_be, sub_be, put_be, size_bsl, isOne_bsl, stor_bsl, fits_bsl, strip_bsl, sub_bsl, put_bsl, size_ip, isOne_ip, stor_ip, fits_ip, strip_ip, sub_ip, put_ip, size_fn, isOne_fn, stor_fn, fits_fn, strip_fn, sub_fn, put_fn, stor_nil, stor_nilf, stor_nili, sizes_nil, sizes_cons, subs_nil, subs_cons, puts_nil, puts_cons, strips_nil, strips_cons, ty1, ty2, ty3, ty4, ty5, ty9, ty12, ty20, ty21, ty22, ty23, ty24, ty25, ty26, ty27, ty28, ty29, ty30, ty31, ty32, ty33, ty34, ty35, ty36, ty37, ty39, ty40, ty41, ty42, ty43, ty44, ty45, ty46, ty47, ty48, ty49, ty50, ty51, ty52, ty53, ty54, ty55, ty56, ty57, ty58, ty59, ty60, ty61, ty62, ty63, ty64, ty65, ty66, ty67, ty68, ty69, ty70, ty71, ty72, ty73, ty74, ty75, ty76, ty77, ty78, ty79, ty80, ty82, ty83, ty89, ty92, ty95, gl0, Tryd.ntmps5, Tryd.results5, PF.toR, gives, givesIf, spec_awake, sp_awake, c_awake, b_awake, spec_sum, sp_sum, c_sum, b_sum, spec_twice, sp_twice, c_twice, b_twice]
  intro hh
  have hh := of_decide_eq_false hh
  refine ⟨by omega, ?_⟩
  refine drawI [0, 3] (by kernel_rfl) ?_
  have e : List.take ((32 : Nat) - 0 : Int).toNat (List.drop (Int.toNat 0) (sumP b)) = sumP b := by
    rw [show Int.toNat 0 = 0 from rfl, List.drop_zero]
    exact List.take_of_length_le (by rw [sum_len]; decide)
  have hl : b.length < 1000000000 := by omega
  have hl2 : (sumP b).length < 1000000000 := by rw [sum_len]; decide
  simp (config := {dsimp := false}) only [↓a_skip, ↓a_exit, ↓a_ret, ↓a_seq, ↓a_cond, ↓a_block, ↓a_loop, ↓a_region, ↓a_draw, ↓a_region', ↓a_draw', ↓then_key, ↓with_key, ↓cond_key, ↓one_key, ↓thenQ_normal, ↓thenQ_exit, ↓thenQ_ret, ↓blockQ_normal, ↓blockQ_exit, ↓blockQ_ret, ↓aops, ↓aopsD, ↓imp_tt, ↓imp_ff, ↓imp_tf, ↓imp_ft, ↓imp_tnt, ↓imp_tnf, ↓imp_fnt, ↓imp_fnf, okD_nil, okD_u, okD_t, thenK_mk, withK_some, condK_bool, oneK_some, look, look_hit, setL, resQ, argSlots, buildSt, buildArr, intsOf, eqB, keepSl, sh_one_one, sh_one_arr, sh_one_st, sh_arr_one, sh_arr_arr, sh_arr_st, sh_st_one, sh_st_arr, sh_st_st, bin_int, bin_str, bin_bool, bin_arr, bin_agg, un_neg, un_xor, un_not, i_add, i_sub, i_mul, i_quo, i_rem, i_and, i_or, i_xor, i_andNot, i_eql, i_neq, i_lss, i_leq, i_gtr, i_geq, s_shl, s_shr, opR, okIf, ok, bad, ev, ofConst, putS, updS, S.upd, dstOk, yieldD, strBin, isShift, cellD, retQ, resD, stripO, convR, conv2R, makeR, indexR, indexAddrR, fieldAddrR, loadR, storeR, allocR, boxR, pickR, buildR, buildSliceR, lenR, nilCheckR, extractR, funcR, sliceR, appendR, callR, S.box, S.tok, TK.sh, known, tsize, destI, ownTok, srcI, isIn, isSl, isSt, appendI, appendL, bnd, aggBin, nilD, isPtr, fieldOf, sized, enumS, seeR, seeL, hasB, flat, flats, nil1_none, nil1_sl, nil1_sl', nil1_sli, nil1_bsl, nilK_cons, nilK_nil, nilK_nil', see_any, isB_any, see_int, isB_int, see_bool, isB_bool, see_str, isB_str, see_raw, isB_raw, see_arr, isB_arr, see_agg, isB_agg, see_tup, isB_tup, see_sli, isB_sli, see_sl, isB_sl, see_bp, isB_bp, see_be, isB_be, see_ip, isB_ip, see_fn, isB_fn, see_bsl, isB_bsl, seen_arr, List.foldl_nil, List.foldl_cons, Option.getD_some, Option.getD_none, if_true, if_false, reduceIte, reduceCtorEq, Nat.reduceEqDiff, Nat.reduceAdd, Nat.reduceMul, Nat.reduceLT, Nat.reduceSub, Nat.reduceLeDiff, true_and, and_true, List.map_cons, List.map_nil, List.size_toArray, List.length_cons, List.length_nil, Option.map_some, Option.map_none, Option.bind_some, true_implies, Bool.false_eq_true, Bool.true_eq_false, false_implies, Bool.not_true, Bool.not_false, List.getElem?_cons_zero, List.getElem?_cons_succ, implies_true, and_self, Bool.and_true, Bool.true_and, BEq.rfl, and_assoc, Option.isSome_some, Option.isSome_none, List.take_succ_cons, List.take_zero, List.set_cons_zero, List.set_cons_succ, List.forall_mem_cons, List.not_mem_nil, forall_const, List.range, List.range.loop, ne_eq, not_false_eq_true, not_true_eq_false, List.cons.injEq, Prod.mk.injEq, List.append_nil, List.nil_append, List.cons_append, false_and, and_false, Bool.false_and, Bool.and_false, Nat.reduceBNe, Nat.reduceBEq, beq_self_eq_true, bne_self_eq_false, Nat.reduceBeqDiff, Bool.or_false, Bool.false_or, Bool.or_true, Bool.true_or, size_any, isOne_any, stor_any, fits_any, strip_any, sub_any, put_any, size_int, isOne_int, stor_int, fits_int, strip_int, sub_int, put_int, size_bool, isOne_bool, stor_bool, fits_bool, strip_bool, sub_bool, put_bool, size_str, isOne_str, stor_str, fits_str, strip_str, sub_str, put_str, size_raw, isOne_raw, fits_raw, strip_raw, sub_raw, put_raw, size_arr, isOne_arr, stor_arr, fits_arr, strip_arr, sub_arr, put_arr, size_agg, isOne_agg, stor_agg, fits_agg, strip_agg, sub_agg, put_agg, isOne_tup, stor_tup, fits_tup, strip_tup, sub_tup, put_tup, size_sli, isOne_sli, stor_sli, fits_sli, strip_sli, sub_sli, put_sli, size_sl, isOne_sl, stor_sl, fits_sl, strip_sl, sub_sl, put_sl, size_bp, isOne_bp, stor_bp, fits_bp, strip_bp, sub_bp, put_bp, size_be, isOne_be, stor_be, fits_be, strip_be, sub_be, put_be, size_bsl, isOne_bsl, stor_bsl, fits_bsl, strip_bsl, sub_bsl, put_bsl, size_ip, isOne_ip, stor_ip, fits_ip, strip_ip, sub_ip, put_ip, size_fn, isOne_fn, stor_fn, fits_fn, strip_fn, sub_fn, put_fn, stor_nil, stor_nilf, stor_nili, sizes_nil, sizes_cons, subs_nil, subs_cons, puts_nil, puts_cons, strips_nil, strips_cons, ty1, ty2, ty3, ty4, ty5, ty9, ty12, ty20, ty21, ty22, ty23, ty24, ty25, ty26, ty27, ty28, ty29, ty30, ty31, ty32, ty33, ty34, ty35, ty36, ty37, ty39, ty40, ty41, ty42, ty43, ty44, ty45, ty46, ty47, ty48, ty49, ty50, ty51, ty52, ty53, ty54, ty55, ty56, ty57, ty58, ty59, ty60, ty61, ty62, ty63, ty64, ty65, ty66, ty67, ty68, ty69, ty70, ty71, ty72, ty73, ty74, ty75, ty76, ty77, ty78, ty79, ty80, ty82, ty83, ty89, ty92, ty95, gl0, Tryd.ntmps5, Tryd.results5, PF.toR, gives, givesIf, e, hl, hl2, eq_self, decide_true, spec_awake, sp_awake, c_awake, b_awake, spec_sum, sp_sum, c_sum, b_sum, spec_twice, sp_twice, c_twice, b_twice]
  exact ⟨by decide, by decide, by decide⟩
end Go.Vi.C1
end

section
/-
  NAMES: the program's and the document's, there and back: plain.
-/
set_option linter.unusedVariables false
set_option maxRecDepth 100000
namespace Go.Vi

/-! ### one letter -/
theorem all256 {p : Nat → Bool} (h : ((List.range 256).all p) = true) {x : Int} (hx : 0 ≤ x ∧ x < 256) : p x.toNat = true := List.all_eq_true.1 h x.toNat (List.mem_range.2 (by omega))
theorem lo_hex {x : Int} (hx : 0 ≤ x ∧ x < 256) : byteAt hexT (andI .u8 (shrI .u8 x (4 - 1 * 4)) 15) = hexOf (x.tmod 16) := by
  have := all256 (p := fun x => decide (byteAt hexT (andI .u8 (shrI .u8 (x : Int) (4 - 1 * 4)) 15) = hexOf ((x : Int).tmod 16))) (by kernel_rfl) hx
  rw [show ((x.toNat : Nat) : Int) = x by omega] at this
  exact of_decide_eq_true this
theorem hi_hex {x : Int} (hx : 0 ≤ x ∧ x < 256) : byteAt hexT (andI .u8 (shrI .u8 x (4 - 0 * 4)) 15) = hexOf (IntKind.wrap .u8 (x.tdiv 16)) := by
  have := all256 (p := fun x => decide (byteAt hexT (andI .u8 (shrI .u8 (x : Int) (4 - 0 * 4)) 15) = hexOf (IntKind.wrap .u8 ((x : Int).tdiv 16)))) (by kernel_rfl) hx
  rw [show ((x.toNat : Nat) : Int) = x by omega] at this
  exact of_decide_eq_true this
theorem index_val {c : Int} (hc : 0 ≤ c ∧ c < 256) : indexB hexT c = hexVal c := by
  have := all256 (p := fun c => decide (indexB hexT (c : Int) = hexVal (c : Int))) (by kernel_rfl) hc
  rw [show ((c.toNat : Nat) : Int) = c by omega] at this
  exact of_decide_eq_true this
theorem val_hex {c : Int} (hc : 0 ≤ c ∧ c < 256) (h : 0 ≤ hexVal c) : hexOf (hexVal c) = c := by
  have := all256 (p := fun c => decide (hexVal (c : Int) < 0 ∨ hexOf (hexVal (c : Int)) = (c : Int))) (by kernel_rfl) hc
  rw [show ((c.toNat : Nat) : Int) = c by omega] at this
  rcases of_decide_eq_true this with h' | h'
  · omega
  · exact h'
theorem val_range (c : Int) : -1 ≤ hexVal c ∧ hexVal c < 16 := by unfold hexVal; split <;> (try split) <;> omega
theorem hex_range {x : Int} (hx : 0 ≤ x ∧ x < 16) : 0 ≤ hexOf x ∧ hexOf x < 256 ∧ hexVal (hexOf x) = x := by
  have h : ∀ x : Fin 16, 0 ≤ hexOf (x.1 : Nat) ∧ hexOf (x.1 : Nat) < 256 ∧ hexVal (hexOf (x.1 : Nat)) = (x.1 : Nat) := by decide
  have := h ⟨x.toNat, by omega⟩
  simpa [show ((x.toNat : Nat) : Int) = x by omega] using this
theorem two_letters {a b : Int} (ha : 0 ≤ a ∧ a < 16) (hb : 0 ≤ b ∧ b < 16) : orI .u8 (orI .u8 0 (shlI .u8 (IntKind.wrap .u8 a) (4 - 0 * 4))) (shlI .u8 (IntKind.wrap .u8 b) (4 - 1 * 4)) = IntKind.wrap .u8 (16 * a + b) := by
  have h : ((List.range 16).all fun a => (List.range 16).all fun b => decide (orI .u8 (orI .u8 0 (shlI .u8 (IntKind.wrap .u8 (a : Int)) (4 - 0 * 4))) (shlI .u8 (IntKind.wrap .u8 (b : Int)) (4 - 1 * 4)) = IntKind.wrap .u8 (16 * (a : Int) + (b : Int)))) = true := by kernel_rfl
  have h1 := List.all_eq_true.1 h a.toNat (List.mem_range.2 (by omega))
  have h2 := of_decide_eq_true (List.all_eq_true.1 h1 b.toNat (List.mem_range.2 (by omega)))
  simpa [show ((a.toNat : Nat) : Int) = a by omega, show ((b.toNat : Nat) : Int) = b by omega] using h2

/-! ### the text -/
theorem text_eq (h : List Int) (hb : bytes h) : refTextI h = textP h := by
  unfold refTextI textP
  apply List.map_congr_left
  intro i hi
  have hx := bytes_getD hb (i / 2)
  by_cases h2 : i % 2 = 1
  · rw [if_pos h2, h2]
    exact (lo_hex hx).symm
  · rw [if_neg h2, show i % 2 = 0 by omega]
    exact (hi_hex hx).symm
theorem byteAt_of (l : List Int) (hl : bytes l) (i : Nat) (hi : i < l.length) : byteAt (strOfNums l) (i : Int) = l.getD i 0 := by
  unfold byteAt strOfNums
  have hx := bytes_getD hl i
  rw [show ((i : Int)).toNat = i from rfl]
  have : (⟨(l.map fun n => UInt8.ofNat n.toNat).toArray⟩ : ByteArray)[i]? = some (UInt8.ofNat (l.getD i 0).toNat) := by
    rw [getElem?_pos _ i (by simpa [ByteArray.size] using hi)]
    simp [ByteArray.getElem_eq_getElem_data, List.getD, List.getElem?_eq_getElem hi]
  rw [this]
  simp only [UInt8.toNat_ofNat']
  omega

/-! ### what a name is read as -/
theorem byteAt_lt (s : ByteArray) (k : Int) : 0 ≤ byteAt s k ∧ byteAt s k < 256 := by
  unfold byteAt
  split
  · rename_i b _
    have := b.toNat_lt
    omega
  · decide
def hv (s : ByteArray) (i : Nat) : Int := hexVal (byteAt s (i : Int))
theorem index_hv (s : ByteArray) (i : Nat) : indexB hexT (byteAt s (i : Int)) = hv s i := index_val (byteAt_lt s i)
def both (s : ByteArray) (i : Nat) : Int := IntKind.wrap .u8 (16 * hv s (2 * i) + hv s (2 * i + 1))
theorem refOfP_step (s : ByteArray) (i : Nat) : refOfP s (i + 1) = match refOfP s i with
    | none => none
    | some h => if hv s (2 * i) < 0 ∨ hv s (2 * i + 1) < 0 then none else some (h.set i (both s i)) := by
  simp only [refOfP, hv, both, Int.natCast_mul, Int.natCast_add, Int.cast_ofNat_Int]
  rfl
theorem ofP_step (s : ByteArray) (i : Nat) : ofP s (i + 1) = match ofP s i with
    | none => none
    | some h => if hv s i < 0 ∨ 64 ≤ i then none else some (h.set (i / 2) (orI .u8 (h.getD (i / 2) 0) (shlI .u8 (IntKind.wrap .u8 (hv s i)) (4 - ((i % 2 : Nat) : Int) * 4)))) := by
  simp only [ofP, index_hv]
  rfl
theorem ref_form (s : ByteArray) : ∀ (i : Nat) (h : List Int), i ≤ 32 → refOfP s i = some h → h.length = 32 ∧ (∀ j, j < i → h.getD j 0 = both s j ∧ 0 ≤ hv s (2 * j) ∧ 0 ≤ hv s (2 * j + 1)) ∧ ∀ j, i ≤ j → h.getD j 0 = 0
  | 0, h, _, e => by
    simp only [refOfP, Option.some.injEq] at e
    subst e
    refine ⟨by simp, fun j hj => by omega, fun j _ => ?_⟩
    rw [List.getD_eq_getElem?_getD, List.getElem?_replicate]
    split <;> rfl
  | i + 1, h, hi, e => by
    rw [refOfP_step] at e
    cases hp : refOfP s i with
    | none => rw [hp] at e; cases e
    | some h0 =>
      rw [hp] at e
      simp only at e
      obtain ⟨h1, h2, h3⟩ := ref_form s i h0 (by omega) hp
      split at e
      · cases e
      · rename_i hno
        simp only [Option.some.injEq] at e
        subst e
        refine ⟨by simpa using h1, fun j hj => ?_, fun j hj => ?_⟩
        · by_cases e : j = i
          · subst e
            exact ⟨getD_set_eq (by omega), by omega, by omega⟩
          · rw [getD_set_ne (by omega)]
            exact h2 j (by omega)
        · rw [getD_set_ne (by omega)]
          exact h3 j (by omega)
theorem of_two (s : ByteArray) : ∀ i, i ≤ 32 → ofP s (2 * i) = refOfP s i
  | 0, _ => rfl
  | i + 1, hi => by
    rw [show 2 * (i + 1) = 2 * i + 1 + 1 by omega, ofP_step, ofP_step, of_two s i (by omega), refOfP_step]
    cases hp : refOfP s i with
    | none => rfl
    | some h =>
      obtain ⟨h1, _, h3⟩ := ref_form s i h (by omega) hp
      simp only
      by_cases ha : hv s (2 * i) < 0
      · rw [if_pos (.inl ha), if_pos (.inl ha)]
      · rw [if_neg (by omega)]
        simp only
        by_cases hb : hv s (2 * i + 1) < 0
        · rw [if_pos (.inl hb), if_pos (.inr hb)]
        · rw [if_neg (by omega), if_neg (by omega), show (2 * i + 1) / 2 = i by omega, show 2 * i / 2 = i by omega, show (2 * i + 1) % 2 = 1 by omega, show 2 * i % 2 = 0 by omega, h3 i (Nat.le_refl _),
            getD_set_eq (by omega), List.set_set]
          have va := val_range (byteAt s ((2 * i : Nat) : Int))
          have vb := val_range (byteAt s ((2 * i + 1 : Nat) : Int))
          have := two_letters (a := hv s (2 * i)) (b := hv s (2 * i + 1)) ⟨by omega, va.2⟩ ⟨by omega, vb.2⟩
          rw [show (((0 : Nat) : Int)) = 0 from rfl, show (((1 : Nat) : Int)) = 1 from rfl, this]
          rfl
theorem of_eq (s : ByteArray) : ofR s = refOfR s := by
  unfold ofR refOfR
  by_cases h : s.size = 64
  · rw [h, of_two s 32 (Nat.le_refl _), if_pos rfl]
    cases refOfP s 32 <;> simp
  · rw [if_neg h]
    cases ofP s s.size <;> simp [h]
theorem ofR_form (s : ByteArray) : (ofR s).1.length = 32 ∧ bytes (ofR s).1 := by
  have hz : bytes (List.replicate 32 (0 : Int)) := fun x hx => by rw [List.eq_of_mem_replicate hx]; decide
  rw [of_eq]
  unfold refOfR
  split
  · cases hp : refOfP s 32 with
    | none => exact ⟨by simp, hz⟩
    | some h =>
      obtain ⟨h1, h2, _⟩ := ref_form s 32 h (Nat.le_refl _) hp
      refine ⟨h1, fun x hx => ?_⟩
      change x ∈ h at hx
      obtain ⟨i, hi⟩ := List.getElem?_of_mem hx
      have hil := (List.getElem?_eq_some_iff.1 hi).1
      have := (h2 i (by omega)).1
      rw [List.getD_eq_getElem?_getD, hi] at this
      simp only [Option.getD_some] at this
      subst this
      exact wrap8_range _
  · exact ⟨by simp, hz⟩
theorem textP_len (h : List Int) : (textP h).length = 64 := by simp [textP]
theorem textP_at (h : List Int) (hb : bytes h) (i : Nat) (hi : i < 64) : (textP h).getD i 0 = hexOf (if i % 2 = 1 then (h.getD (i / 2) 0).tmod 16 else IntKind.wrap .u8 ((h.getD (i / 2) 0).tdiv 16)) := by
  rw [← text_eq h hb]
  simp only [refTextI, List.getD_eq_getElem?_getD, List.getElem?_map, List.getElem?_range hi, Option.map_some, Option.getD_some]
theorem half_range {x : Int} (hx : 0 ≤ x ∧ x < 256) : IntKind.wrap .u8 (x.tdiv 16) = x / 16 ∧ x.tmod 16 = x % 16 := by
  rw [Int.tdiv_eq_ediv_of_nonneg hx.1, Int.tmod_eq_emod_of_nonneg hx.1, IntKind.wrap_u8]
  omega
theorem textP_bytes (h : List Int) (hb : bytes h) : bytes (textP h) := by
  intro x hx
  obtain ⟨i, hi⟩ := List.getElem?_of_mem hx
  have hil := (List.getElem?_eq_some_iff.1 hi).1
  rw [textP_len] at hil
  have := textP_at h hb i hil
  rw [List.getD_eq_getElem?_getD, hi] at this
  simp only [Option.getD_some] at this
  subst this
  have hx := bytes_getD hb (i / 2)
  have hh := half_range hx
  split
  · rw [hh.2]; have := hex_range (x := h.getD (i / 2) 0 % 16) (by omega); exact ⟨this.1, this.2.1⟩
  · rw [hh.1]; have := hex_range (x := h.getD (i / 2) 0 / 16) (by omega); exact ⟨this.1, this.2.1⟩
theorem strN_size (l : List Int) : (strOfNums l).size = l.length := by simp [strOfNums, ByteArray.size]
theorem hv_text (h : List Int) (hb : bytes h) (i : Nat) (hi : i < 64) : hv (strOfNums (textP h)) i = if i % 2 = 1 then h.getD (i / 2) 0 % 16 else h.getD (i / 2) 0 / 16 := by
  unfold hv
  rw [byteAt_of _ (textP_bytes h hb) i (by rw [textP_len]; exact hi), textP_at h hb i hi]
  have hx := bytes_getD hb (i / 2)
  have hh := half_range hx
  split
  · rw [hh.2]; exact (hex_range (by omega)).2.2
  · rw [hh.1]; exact (hex_range (by omega)).2.2
theorem ref_text (h : List Int) (hl : h.length = 32) (hb : bytes h) : ∀ i, i ≤ 32 → ∃ r, refOfP (strOfNums (textP h)) i = some r ∧ ∀ j, j < i → r.getD j 0 = h.getD j 0
  | 0, _ => ⟨_, rfl, fun j hj => by omega⟩
  | i + 1, hi => by
    obtain ⟨r, e, hr⟩ := ref_text h hl hb i (by omega)
    have hrl := (ref_form _ i r (by omega) e).1
    have ha := hv_text h hb (2 * i) (by omega)
    have hb' := hv_text h hb (2 * i + 1) (by omega)
    rw [if_neg (by omega), show 2 * i / 2 = i by omega] at ha
    rw [if_pos (by omega), show (2 * i + 1) / 2 = i by omega] at hb'
    have hx := bytes_getD hb i
    rw [refOfP_step, e]
    simp only
    rw [if_neg (by omega)]
    refine ⟨_, rfl, fun j hj => ?_⟩
    by_cases e : j = i
    · subst e
      rw [getD_set_eq (by omega)]
      unfold both
      rw [ha, hb', IntKind.wrap_u8]
      omega
    · rw [getD_set_ne (by omega)]
      exact hr j (by omega)
theorem list_ext32 {a b : List Int} (ha : a.length = 32) (hb : b.length = 32) (h : ∀ j, j < 32 → a.getD j 0 = b.getD j 0) : a = b := by
  apply List.ext_getElem (by omega)
  intro i h1 h2
  have := h i (by omega)
  rwa [List.getD_eq_getElem?_getD, List.getD_eq_getElem?_getD, List.getElem?_eq_getElem h1, List.getElem?_eq_getElem h2] at this
/-- A digest's text is read back. -/
theorem of_text (h : List Int) (hl : h.length = 32) (hb : bytes h) : ofR (strOfNums (textP h)) = (h, true) := by
  rw [of_eq]
  unfold refOfR
  rw [if_pos (by rw [strN_size, textP_len])]
  obtain ⟨r, e, hr⟩ := ref_text h hl hb 32 (Nat.le_refl _)
  rw [e]
  simp only
  rw [list_ext32 (ref_form _ 32 r (Nat.le_refl _) e).1 hl hr]
theorem text_inj {g h : List Int} (hg : g.length = 32) (hh : h.length = 32) (bg : bytes g) (bh : bytes h) (e : strOfNums (textP g) = strOfNums (textP h)) : g = h := by
  have h1 := of_text g hg bg
  rw [e, of_text h hh bh] at h1
  exact (Prod.mk.inj h1).1.symm
/-- What is no name is read as nothing. -/
theorem of_none (s : ByteArray) (h : (ofR s).2 = false) : (ofR s).1 = List.replicate 32 0 := by
  rw [of_eq] at h ⊢
  unfold refOfR at h ⊢
  by_cases hn : s.size = 64
  · rw [if_pos hn] at h ⊢
    cases hp : refOfP s 32 with
    | none => rfl
    | some r => rw [hp] at h; cases h
  · rw [if_neg hn]
theorem str_of_bytes (s : ByteArray) (l : List Int) (hl : l.length = s.size) (h : ∀ i, i < s.size → l.getD i 0 = byteAt s (i : Int)) : strOfNums l = s := by
  have hd : (strOfNums l).data = s.data := by
    apply Array.ext
    · exact (strN_size l).trans hl
    · intro i h1 h2
      have hi : i < l.length := Nat.lt_of_lt_of_eq h1 (strN_size l)
      have := h i (by omega)
      unfold byteAt at this
      rw [show ((i : Int)).toNat = i from rfl, getElem?_pos s i (by omega)] at this
      simp only [List.getD_eq_getElem?_getD, List.getElem?_eq_getElem hi, Option.getD_some, ByteArray.getElem_eq_getElem_data] at this
      have e2 : (strOfNums l).data[i] = UInt8.ofNat (l[i]).toNat := by simp [strOfNums]
      rw [e2, this]
      simp
  cases s
  simpa [strOfNums] using hd
/-- What is read of a name is that name's digest. -/
theorem text_of (s : ByteArray) (h : (ofR s).2 = true) : strOfNums (textP (ofR s).1) = s := by
  have hf := ofR_form s
  have hs : s.size = 64 := by
    rw [of_eq] at h
    unfold refOfR at h
    split at h
    · assumption
    · cases h
  obtain ⟨r, hr⟩ : ∃ r, refOfP s 32 = some r := by
    rw [of_eq] at h
    unfold refOfR at h
    rw [if_pos hs] at h
    cases hp : refOfP s 32 with
    | none => rw [hp] at h; cases h
    | some r => exact ⟨r, rfl⟩
  have e1 : (ofR s).1 = r := by
    rw [of_eq]
    unfold refOfR
    rw [if_pos hs, hr]
  rw [e1] at hf ⊢
  obtain ⟨_, h2, _⟩ := ref_form s 32 r (Nat.le_refl _) hr
  refine str_of_bytes s _ (by rw [textP_len, hs]) fun i hi => ?_
  rw [textP_at r hf.2 i (by omega)]
  obtain ⟨q, qa, qb⟩ := h2 (i / 2) (by omega)
  have va := val_range (byteAt s ((2 * (i / 2) : Nat) : Int))
  have vb := val_range (byteAt s ((2 * (i / 2) + 1 : Nat) : Int))
  have hx := bytes_getD hf.2 (i / 2)
  have hh := half_range hx
  have hq : r.getD (i / 2) 0 = 16 * hv s (2 * (i / 2)) + hv s (2 * (i / 2) + 1) := by
    rw [q]
    unfold both
    rw [IntKind.wrap_u8]
    unfold hv at qa qb ⊢
    omega
  split
  · rename_i h1
    rw [hh.2, show r.getD (i / 2) 0 % 16 = hv s (2 * (i / 2) + 1) by unfold hv at qa qb hq ⊢; omega, show 2 * (i / 2) + 1 = i by omega]
    exact val_hex (byteAt_lt s i) (by rw [show 2 * (i / 2) + 1 = i by omega] at qb; exact qb)
  · rename_i h1
    rw [hh.1, show r.getD (i / 2) 0 / 16 = hv s (2 * (i / 2)) by unfold hv at qa qb hq ⊢; omega, show 2 * (i / 2) = i by omega]
    exact val_hex (byteAt_lt s i) (by rw [show 2 * (i / 2) = i by omega] at qa; exact qa)
end Go.Vi
end

section
set_option linter.unusedVariables false
set_option linter.unusedSimpArgs false
set_option maxHeartbeats 0
set_option maxRecDepth 20000
namespace Go.Vi.C1
open Go.Proofs

theorem c_lawKnown : Contract E 10 := by
  refine contract_see hE hgl (show E.P.funcs[10]? = some Tryd.f10 from Tryd.func10) rfl (p := sp_lawKnown) (fun _ _ _ => rfl) ?_
  intro args hv
  unfold sp_lawKnown at hv ⊢
  split at hv
  case h_2 => exact hv.elim
  refine ⟨by simp, Nat.le_of_ble_eq_true rfl, ?_⟩
  simp (config := {dsimp := false}) only [↓a_skip, ↓a_exit, ↓a_ret, ↓a_seq, ↓a_cond, ↓a_block, ↓a_loop, ↓a_region, ↓a_draw, ↓a_region', ↓a_draw', ↓then_key, ↓with_key, ↓cond_key, ↓one_key, ↓thenQ_normal, ↓thenQ_exit, ↓thenQ_ret, ↓blockQ_normal, ↓blockQ_exit, ↓blockQ_ret, ↓aops, ↓aopsD, ↓imp_tt, ↓imp_ff, ↓imp_tf, ↓imp_ft, ↓imp_tnt, ↓imp_tnf, ↓imp_fnt, ↓imp_fnf, okD_nil, okD_u, okD_t, thenK_mk, withK_some, condK_bool, oneK_some, look, look_hit, setL, resQ, argSlots, buildSt, buildArr, intsOf, eqB, keepSl, sh_one_one, sh_one_arr, sh_one_st, sh_arr_one, sh_arr_arr, sh_arr_st, sh_st_one, sh_st_arr, sh_st_st, bin_int, bin_str, bin_bool, bin_arr, bin_agg, un_neg, un_xor, un_not, i_add, i_sub, i_mul, i_quo, i_rem, i_and, i_or, i_xor, i_andNot, i_eql, i_neq, i_lss, i_leq, i_gtr, i_geq, s_shl, s_shr, opR, okIf, ok, bad, ev, ofConst, putS, updS, S.upd, dstOk, yieldD, strBin, isShift, cellD, retQ, resD, stripO, convR, conv2R, makeR, indexR, indexAddrR, fieldAddrR, loadR, storeR, allocR, boxR, pickR, buildR, buildSliceR, lenR, nilCheckR, extractR, funcR, sliceR, appendR, callR, S.box, S.tok, TK.sh, known, tsize, destI, ownTok, srcI, isIn, isSl, isSt, appendI, appendL, bnd, aggBin, nilD, isPtr, fieldOf, sized, enumS, seeR, seeL, hasB, flat, flats, nil1_none, nil1_sl, nil1_sl', nil1_sli, nil1_bsl, nilK_cons, nilK_nil, nilK_nil', see_any, isB_any, see_int, isB_int, see_bool, isB_bool, see_str, isB_str, see_raw, isB_raw, see_arr, isB_arr, see_agg, isB_agg, see_tup, isB_tup, see_sli, isB_sli, see_sl, isB_sl, see_bp, isB_bp, see_be, isB_be, see_ip, isB_ip, see_fn, isB_fn, see_bsl, isB_bsl, seen_arr, List.foldl_nil, List.foldl_cons, Option.getD_some, Option.getD_none, if_true, if_false, reduceIte, reduceCtorEq, Nat.reduceEqDiff, Nat.reduceAdd, Nat.reduceMul, Nat.reduceLT, Nat.reduceSub, Nat.reduceLeDiff, true_and, and_true, List.map_cons, List.map_nil, List.size_toArray, List.length_cons, List.length_nil, Option.map_some, Option.map_none, Option.bind_some, true_implies, Bool.false_eq_true, Bool.true_eq_false, false_implies, Bool.not_true, Bool.not_false, List.getElem?_cons_zero, List.getElem?_cons_succ, implies_true, and_self, Bool.and_true, Bool.true_and, BEq.rfl, and_assoc, Option.isSome_some, Option.isSome_none, List.take_succ_cons, List.take_zero, List.set_cons_zero, List.set_cons_succ, List.forall_mem_cons, List.not_mem_nil, forall_const, List.range, List.range.loop, ne_eq, not_false_eq_true, not_true_eq_false, List.cons.injEq, Prod.mk.injEq, List.append_nil, List.nil_append, List.cons_append, false_and, and_false, Bool.false_and, Bool.and_false, Nat.reduceBNe, Nat.reduceBEq, beq_self_eq_true, bne_self_eq_false, Nat.reduceBeqDiff, Bool.or_false, Bool.false_or, Bool.or_true, Bool.true_or, size_any, isOne_any, stor_any, fits_any, strip_any, sub_any, put_any, size_int, isOne_int, stor_int, fits_int, strip_int, sub_int, put_int, size_bool, isOne_bool, stor_bool, fits_bool, strip_bool, sub_bool, put_bool, size_str, isOne_str, stor_str, fits_str, strip_str, sub_str, put_str, size_raw, isOne_raw, fits_raw, strip_raw, sub_raw, put_raw, size_arr, isOne_arr, stor_arr, fits_arr, strip_arr, sub_arr, put_arr, size_agg, isOne_agg, stor_agg, fits_agg, strip_agg, sub_agg, put_agg, isOne_tup, stor_tup, fits_tup, strip_tup, sub_tup, put_tup, size_sli, isOne_sli, stor_sli, fits_sli, strip_sli, sub_sli, put_sli, size_sl, isOne_sl, stor_sl, fits_sl, strip_sl, sub_sl, put_sl, size_bp, isOne_bp, stor_bp, fits_bp, strip_bp, sub_bp, put_bp, size_be, isOne_be, stor_be, fits_be, strip_be, sub_be, put_be, size_bsl, isOne_bsl, stor_bsl, fits_bsl, strip_bsl, sub_bsl, put_bsl, size_ip, isOne_ip, stor_ip, fits_ip, strip_ip, sub_ip, put_ip, size_fn, isOne_fn, stor_fn, fits_fn, strip_fn, sub_fn, put_fn, stor_nil, stor_nilf, stor_nili, sizes_nil, sizes_cons, subs_nil, subs_cons, puts_nil, puts_cons, strips_nil, strips_cons, ty1, ty2, ty3, ty4, ty5, ty9, ty12, ty20, ty21, ty22, ty23, ty24, ty25, ty26, ty27, ty28, ty29, ty30, ty31, ty32, ty33, ty34, ty35, ty36, ty37, ty39, ty40, ty41, ty42, ty43, ty44, ty45, ty46, ty47, ty48, ty49, ty50, ty51, ty52, ty53, ty54, ty55, ty56, ty57, ty58, ty59, ty60, ty61, ty62, ty63, ty64, ty65, ty66, ty67, ty68, ty69, ty70, ty71, ty72, ty73, ty74, ty75, ty76, ty77, ty78, ty79, ty80, ty82, ty83, ty89, ty92, ty95, gl0, Tryd.ntmps10, Tryd.results10, PF.toR, gives, givesIf, spec_of, sp_of, c_of, b_of]
  have k1 : ofR (⟨#[98, 97, 55, 56, 49, 54, 98, 102, 56, 102, 48, 49, 99, 102, 101, 97, 52, 49, 52, 49, 52, 48, 100, 101, 53, 100, 97, 101, 50, 50, 50, 51, 98, 48, 48, 51, 54, 49, 97, 51, 57, 54, 49, 55, 55, 97, 57, 99, 98, 52, 49, 48, 102, 102, 54, 49, 102, 50, 48, 48, 49, 53, 97, 100]⟩ : ByteArray) = (sumP [97, 98, 99], true) := by rw [sum_abc]; kernel_rfl
  have k2 : (ofR ((⟨#[98, 97, 55, 56, 49, 54, 98, 102, 56, 102, 48, 49, 99, 102, 101, 97, 52, 49, 52, 49, 52, 48, 100, 101, 53, 100, 97, 101, 50, 50, 50, 51, 98, 48, 48, 51, 54, 49, 97, 51, 57, 54, 49, 55, 55, 97, 57, 99, 98, 52, 49, 48, 102, 102, 54, 49, 102, 50, 48, 48, 49, 53, 97, 100]⟩ : ByteArray).extract (Int.toNat 2) (((⟨#[98, 97, 55, 56, 49, 54, 98, 102, 56, 102, 48, 49, 99, 102, 101, 97, 52, 49, 52, 49, 52, 48, 100, 101, 53, 100, 97, 101, 50, 50, 50, 51, 98, 48, 48, 51, 54, 49, 97, 51, 57, 54, 49, 55, 55, 97, 57, 99, 98, 52, 49, 48, 102, 102, 54, 49, 102, 50, 48, 48, 49, 53, 97, 100]⟩ : ByteArray).size : Nat) : Int).toNat)).2 = false := by kernel_rfl
  have k3 : (ofR ((⟨#[103]⟩ : ByteArray) ++ ((⟨#[98, 97, 55, 56, 49, 54, 98, 102, 56, 102, 48, 49, 99, 102, 101, 97, 52, 49, 52, 49, 52, 48, 100, 101, 53, 100, 97, 101, 50, 50, 50, 51, 98, 48, 48, 51, 54, 49, 97, 51, 57, 54, 49, 55, 55, 97, 57, 99, 98, 52, 49, 48, 102, 102, 54, 49, 102, 50, 48, 48, 49, 53, 97, 100]⟩ : ByteArray).extract (Int.toNat 1) (((⟨#[98, 97, 55, 56, 49, 54, 98, 102, 56, 102, 48, 49, 99, 102, 101, 97, 52, 49, 52, 49, 52, 48, 100, 101, 53, 100, 97, 101, 50, 50, 50, 51, 98, 48, 48, 51, 54, 49, 97, 51, 57, 54, 49, 55, 55, 97, 57, 99, 98, 52, 49, 48, 102, 102, 54, 49, 102, 50, 48, 48, 49, 53, 97, 100]⟩ : ByteArray).size : Nat) : Int).toNat))).2 = false := by kernel_rfl
  have k4 : (ofR ((⟨#[66]⟩ : ByteArray) ++ ((⟨#[98, 97, 55, 56, 49, 54, 98, 102, 56, 102, 48, 49, 99, 102, 101, 97, 52, 49, 52, 49, 52, 48, 100, 101, 53, 100, 97, 101, 50, 50, 50, 51, 98, 48, 48, 51, 54, 49, 97, 51, 57, 54, 49, 55, 55, 97, 57, 99, 98, 52, 49, 48, 102, 102, 54, 49, 102, 50, 48, 48, 49, 53, 97, 100]⟩ : ByteArray).extract (Int.toNat 1) (((⟨#[98, 97, 55, 56, 49, 54, 98, 102, 56, 102, 48, 49, 99, 102, 101, 97, 52, 49, 52, 49, 52, 48, 100, 101, 53, 100, 97, 101, 50, 50, 50, 51, 98, 48, 48, 51, 54, 49, 97, 51, 57, 54, 49, 55, 55, 97, 57, 99, 98, 52, 49, 48, 102, 102, 54, 49, 102, 50, 48, 48, 49, 53, 97, 100]⟩ : ByteArray).size : Nat) : Int).toNat))).2 = false := by kernel_rfl
  have k5 : (ofR (⟨([98, 97, 55, 56, 49, 54, 98, 102, 56, 102, 48, 49, 99, 102, 101, 97, 52, 49, 52, 49, 52, 48, 100, 101, 53, 100, 97, 101, 50, 50, 50, 51, 98].append [48, 48, 51, 54, 49, 97, 51, 57, 54, 49, 55, 55, 97, 57, 99, 98, 52, 49, 48, 102, 102, 54, 49, 102, 50, 48, 48, 49, 53, 97, 100, 48, 48]).toArray⟩ : ByteArray)).2 = false := by kernel_rfl
  have k6 : (ofR (⟨#[]⟩ : ByteArray)).2 = false := by kernel_rfl
  have k7 : nameP (⟨#[]⟩ : ByteArray) = (⟨#[101, 51, 98, 48, 99, 52, 52, 50, 57, 56, 102, 99, 49, 99, 49, 52, 57, 97, 102, 98, 102, 52, 99, 56, 57, 57, 54, 102, 98, 57, 50, 52, 50, 55, 97, 101, 52, 49, 101, 52, 54, 52, 57, 98, 57, 51, 52, 99, 97, 52, 57, 53, 57, 57, 49, 98, 55, 56, 53, 50, 98, 56, 53, 53]⟩ : ByteArray) := by kernel_rfl
  simp only [k1, k2, k3, k4, k5, k6]
  refine ⟨of_decide_eq_true (by kernel_rfl), by decide, of_decide_eq_true (by kernel_rfl), of_decide_eq_true (by kernel_rfl), of_decide_eq_true (by kernel_rfl), by decide, of_decide_eq_true (by kernel_rfl), of_decide_eq_true (by kernel_rfl), of_decide_eq_true (by kernel_rfl), of_decide_eq_true (by kernel_rfl), by decide, of_decide_eq_true (by kernel_rfl), of_decide_eq_true (by kernel_rfl), of_decide_eq_true (by kernel_rfl), of_decide_eq_true (by kernel_rfl), of_decide_eq_true (by kernel_rfl), of_decide_eq_true (by kernel_rfl), ?_⟩
  refine drawI [1, 2, 4, 6, 8, 10, 12, 13] (by kernel_rfl) ?_
  have l0 : (⟨#[]⟩ : ByteArray).size < 1000000000 := by decide
  have hr : List.replicate 32 (0 : Int) = [0, 0, 0, 0, 0, 0, 0, 0, 0, 0, 0, 0, 0, 0, 0, 0, 0, 0, 0, 0, 0, 0, 0, 0, 0, 0, 0, 0, 0, 0, 0, 0] := rfl
  simp (config := {dsimp := false}) only [↓a_skip, ↓a_exit, ↓a_ret, ↓a_seq, ↓a_cond, ↓a_block, ↓a_loop, ↓a_region, ↓a_draw, ↓a_region', ↓a_draw', ↓then_key, ↓with_key, ↓cond_key, ↓one_key, ↓thenQ_normal, ↓thenQ_exit, ↓thenQ_ret, ↓blockQ_normal, ↓blockQ_exit, ↓blockQ_ret, ↓aops, ↓aopsD, ↓imp_tt, ↓imp_ff, ↓imp_tf, ↓imp_ft, ↓imp_tnt, ↓imp_tnf, ↓imp_fnt, ↓imp_fnf, okD_nil, okD_u, okD_t, thenK_mk, withK_some, condK_bool, oneK_some, look, look_hit, setL, resQ, argSlots, buildSt, buildArr, intsOf, eqB, keepSl, sh_one_one, sh_one_arr, sh_one_st, sh_arr_one, sh_arr_arr, sh_arr_st, sh_st_one, sh_st_arr, sh_st_st, bin_int, bin_str, bin_bool, bin_arr, bin_agg, un_neg, un_xor, un_not, i_add, i_sub, i_mul, i_quo, i_rem, i_and, i_or, i_xor, i_andNot, i_eql, i_neq, i_lss, i_leq, i_gtr, i_geq, s_shl, s_shr, opR, okIf, ok, bad, ev, ofConst, putS, updS, S.upd, dstOk, yieldD, strBin, isShift, cellD, retQ, resD, stripO, convR, conv2R, makeR, indexR, indexAddrR, fieldAddrR, loadR, storeR, allocR, boxR, pickR, buildR, buildSliceR, lenR, nilCheckR, extractR, funcR, sliceR, appendR, callR, S.box, S.tok, TK.sh, known, tsize, destI, ownTok, srcI, isIn, isSl, isSt, appendI, appendL, bnd, aggBin, nilD, isPtr, fieldOf, sized, enumS, seeR, seeL, hasB, flat, flats, nil1_none, nil1_sl, nil1_sl', nil1_sli, nil1_bsl, nilK_cons, nilK_nil, nilK_nil', see_any, isB_any, see_int, isB_int, see_bool, isB_bool, see_str, isB_str, see_raw, isB_raw, see_arr, isB_arr, see_agg, isB_agg, see_tup, isB_tup, see_sli, isB_sli, see_sl, isB_sl, see_bp, isB_bp, see_be, isB_be, see_ip, isB_ip, see_fn, isB_fn, see_bsl, isB_bsl, seen_arr, List.foldl_nil, List.foldl_cons, Option.getD_some, Option.getD_none, if_true, if_false, reduceIte, reduceCtorEq, Nat.reduceEqDiff, Nat.reduceAdd, Nat.reduceMul, Nat.reduceLT, Nat.reduceSub, Nat.reduceLeDiff, true_and, and_true, List.map_cons, List.map_nil, List.size_toArray, List.length_cons, List.length_nil, Option.map_some, Option.map_none, Option.bind_some, true_implies, Bool.false_eq_true, Bool.true_eq_false, false_implies, Bool.not_true, Bool.not_false, List.getElem?_cons_zero, List.getElem?_cons_succ, implies_true, and_self, Bool.and_true, Bool.true_and, BEq.rfl, and_assoc, Option.isSome_some, Option.isSome_none, List.take_succ_cons, List.take_zero, List.set_cons_zero, List.set_cons_succ, List.forall_mem_cons, List.not_mem_nil, forall_const, List.range, List.range.loop, ne_eq, not_false_eq_true, not_true_eq_false, List.cons.injEq, Prod.mk.injEq, List.append_nil, List.nil_append, List.cons_append, false_and, and_false, Bool.false_and, Bool.and_false, Nat.reduceBNe, Nat.reduceBEq, beq_self_eq_true, bne_self_eq_false, Nat.reduceBeqDiff, Bool.or_false, Bool.false_or, Bool.or_true, Bool.true_or, size_any, isOne_any, stor_any, fits_any, strip_any, sub_any, put_any, size_int, isOne_int, stor_int, fits_int, strip_int, sub_int, put_int, size_bool, isOne_bool, stor_bool, fits_bool, strip_bool, sub_bool, put_bool, size_str, isOne_str, stor_str, fits_str, strip_str, sub_str, put_str, size_raw, isOne_raw, fits_raw, strip_raw, sub_raw, put_raw, size_arr, isOne_arr, stor_arr, fits_arr, strip_arr, sub_arr, put_arr, size_agg, isOne_agg, stor_agg, fits_agg, strip_agg, sub_agg, put_agg, isOne_tup, stor_tup, fits_tup, strip_tup, sub_tup, put_tup, size_sli, isOne_sli, stor_sli, fits_sli, strip_sli, sub_sli, put_sli, size_sl, isOne_sl, stor_sl, fits_sl, strip_sl, sub_sl, put_sl, size_bp, isOne_bp, stor_bp, fits_bp, strip_bp, sub_bp, put_bp, size_be, isOne_be, stor_be, fits_be, strip_be, sub_be, put_be, size_bsl, isOne_bsl, stor_bsl, fits_bsl, strip_bsl, sub_bsl, put_bsl, size_ip, isOne_ip, stor_ip, fits_ip, strip_ip, sub_ip, put_ip, size_fn, isOne_fn, stor_fn, fits_fn, strip_fn, sub_fn, put_fn, stor_nil, stor_nilf, stor_nili, sizes_nil, sizes_cons, subs_nil, subs_cons, puts_nil, puts_cons, strips_nil, strips_cons, ty1, ty2, ty3, ty4, ty5, ty9, ty12, ty20, ty21, ty22, ty23, ty24, ty25, ty26, ty27, ty28, ty29, ty30, ty31, ty32, ty33, ty34, ty35, ty36, ty37, ty39, ty40, ty41, ty42, ty43, ty44, ty45, ty46, ty47, ty48, ty49, ty50, ty51, ty52, ty53, ty54, ty55, ty56, ty57, ty58, ty59, ty60, ty61, ty62, ty63, ty64, ty65, ty66, ty67, ty68, ty69, ty70, ty71, ty72, ty73, ty74, ty75, ty76, ty77, ty78, ty79, ty80, ty82, ty83, ty89, ty92, ty95, gl0, Tryd.ntmps10, Tryd.results10, PF.toR, gives, givesIf, k7, l0, eq_self, decide_true, spec_awake, sp_awake, c_awake, b_awake, spec_name, sp_name, c_name, b_name, spec_sum, sp_sum, c_sum, b_sum, spec_mtwice, sp_mtwice, c_mtwice, b_mtwice]
end Go.Vi.C1
end

section
/-
  FROM A CONTRACT TO A ROW: what a reading of the arguments gives, and the row's last step.
-/
set_option linter.unusedVariables false
set_option linter.unusedSimpArgs false
namespace Go.Vi
open Go.RowKit Go.WideShapes Go.ChangeShapes

/-- The world as it is handed to the law: nothing is owned, and each block's cells stand. -/
def g0 (W : World) : Gh := ⟨fun _ => none, fun _ => none, fun _ => none, rowSize W⟩
def s0 : S := ⟨[], [], 0⟩

theorem rowSize_none {W : World} {b : Nat} (h : W.heap.size ≤ b) : rowSize W b = 0 := by
  unfold rowSize
  rw [Array.getElem?_eq_none h]
theorem inv_g0 (W : World) : Inv (g0 W) s0 W (fun _ => True) where
  box := fun id d h => by simp [s0, S.box, look] at h
  tok := fun t n sz h => by simp [s0, S.tok, look] at h
  fresh := fun _ _ => ⟨rfl, rfl⟩
  lim := fun b h => rowSize_none h
  own := fun _ _ => rfl

theorem cell_lt {W : World} {b off : Nat} {v : Value} (h : W.cell? ⟨b, off, none⟩ = some v) : off < rowSize W b := by
  unfold World.cell? at h
  unfold rowSize
  split at h
  · rename_i c _ _ hb
    simp only [hb]
    simp at h
    exact (Array.getElem?_eq_some_iff.1 h).1
  · cases h

theorem spot_none {W : World} {a : Addr} {v : Value} (h : W.cell? a = some v) : a = ⟨a.block, a.off, none⟩ := by
  unfold World.cell? at h
  split at h
  · obtain ⟨b, o, s⟩ := a
    cases s with
    | none => rfl
    | some s => simp at h
  · cases h

theorem row_of {W : World} {a : Addr} {cs : List Value} (h : ∀ i v, cs[i]? = some v → W.cell? (a.add i) = some v) : Row (g0 W) W (some a) cs := by
  intro hne
  have h0 : a = ⟨a.block, a.off, none⟩ := by
    match cs, hne, h with
    | c :: r, _, h => exact spot_none (v := c) (by simpa [Addr.add] using h 0 c rfl)
  have hadd : ∀ i, a.add i = ⟨a.block, a.off + i, none⟩ := by
    intro i
    unfold Addr.add
    split
    · rename_i hi
      subst hi
      exact h0
    · rfl
  refine ⟨a.block, a.off, by rw [← h0], ?_, fun i v hv => by rw [← hadd]; exact h i v hv⟩
  have hl : cs.length - 1 < cs.length := by
    have := List.length_pos_iff.2 hne
    omega
  have := cell_lt (by rw [← hadd]; exact h (cs.length - 1) cs[cs.length - 1] (List.getElem?_eq_getElem hl))
  show a.off + cs.length ≤ rowSize W a.block
  omega

section
variable {H : Type} {enc : TypeId × Value → H} {P : Program} {W : World} {base : Nat}

theorem rep_int {r : Reach} {b0 : Nat} {t : TypeId} {k : IntKind} {v : Value} {d : DataW H} {ps : List MemPlace} (ht : P.underlying t = some (.int k)) (hval : Value.okWide P W r b0 t v) (hd : DataW.Trod enc P W base (fun _ => true) true t v d ps) (g : Gh) :
    ∃ n, Rep1 g W (.int k n) v ∧ (Lit.int k n).wf = true := by
  obtain ⟨n, rfl, _, _, hw⟩ := open_int ht hval hd
  exact ⟨n, by simp [Rep1, RepC], hw⟩
theorem rep_bool {r : Reach} {b0 : Nat} {t : TypeId} {v : Value} {d : DataW H} {ps : List MemPlace} (ht : P.underlying t = some .bool) (hval : Value.okWide P W r b0 t v) (hd : DataW.Trod enc P W base (fun _ => true) true t v d ps) (g : Gh) :
    ∃ b, Rep1 g W (.bool b) v := by
  obtain ⟨n, rfl, _, _⟩ := open_bool ht hval hd
  exact ⟨n, by simp [Rep1, RepC]⟩
theorem rep_str {r : Reach} {b0 : Nat} {t : TypeId} {v : Value} {d : DataW H} {ps : List MemPlace} (ht : P.underlying t = some .string) (hval : Value.okWide P W r b0 t v) (hd : DataW.Trod enc P W base (fun _ => true) true t v d ps) (g : Gh) :
    ∃ s : ByteArray, Rep1 g W (.str s) v := by
  obtain ⟨s, rfl, _, _, _⟩ := ChangeMaps.open_string ht hval hd
  exact ⟨s, by simp [Rep1, RepC]⟩

theorem cells_one {v : Value} {p : Option Addr} {n m : Nat} (h : ∃ a l c, v = .slice a l c) (he : v.cells.toList = [.slice p n m]) : v = .slice p n m := by
  obtain ⟨a, l, c, rfl⟩ := h
  simpa [Value.cells] using he

theorem repc_ints {t e : TypeId} {k : IntKind} {fuel : Nat} {cs : List Value} {x : DataW H × List MemPlace} (ht : P.underlying t = some (.slice e)) (he : P.underlying e = some (.int k)) (hc : P.cellsOf e = 1)
    (hf : DataW.trod enc P W base (fun _ => true) true fuel t cs = some x) :
    ∃ xs, RepC (g0 W) W (.sli .no k xs) cs ∧ (∀ x ∈ xs, (Lit.int k x).wf = true) ∧ xs.length ≤ maxLen := by
  rcases open_ints ht he hc hf with ⟨h, _⟩ | ⟨a, len, cap, zs, h, hb, hl, hm, hzl, _, hcell, hwf⟩
  · refine ⟨[], ?_, ⟨fun x hx => absurd hx (List.not_mem_nil), Nat.zero_le _⟩⟩
    rw [h]
    exact ⟨none, 0, rfl, Nat.le_refl _, fun h => (h rfl).elim, trivial⟩
  · rw [h]
    simp only [if_true] at hzl
    have hlen : (zs.take len).length = len := by rw [List.length_take]; omega
    refine ⟨zs.take len, ⟨some a, cap, by rw [hlen], by omega, row_of ?_, trivial⟩, fun x hx => hwf x (List.mem_of_mem_take hx), by omega⟩
    intro i v hi
    simp only [ints, List.getElem?_map, Option.map_eq_some_iff] at hi
    obtain ⟨z, hz, rfl⟩ := hi
    have hil : i < len := by
      have := (List.getElem?_eq_some_iff.1 hz).1
      omega
    have := hcell i (by omega)
    rw [this]
    have hz' : zs[i]? = some z := by
      rw [List.getElem?_take] at hz
      simpa [hil] using hz
    rw [List.getD_eq_getElem?_getD, hz']
    rfl
theorem rep_ints {r : Reach} {b0 : Nat} {t e : TypeId} {k : IntKind} {v : Value} {d : DataW H} {ps : List MemPlace} (ht : P.underlying t = some (.slice e)) (he : P.underlying e = some (.int k)) (hc : P.cellsOf e = 1)
    (hval : Value.okWide P W r b0 t v) (hd : DataW.Trod enc P W base (fun _ => true) true t v d ps) :
    ∃ xs, Rep1 (g0 W) W (.sli .no k xs) v ∧ (∀ x ∈ xs, (Lit.int k x).wf = true) ∧ xs.length ≤ maxLen := by
  obtain ⟨fuel, hf⟩ := hd
  obtain ⟨a, l, c, rfl⟩ := okWide_slice ht hval
  exact repc_ints ht he hc hf

theorem repEs_snoc {g : Gh} {w : World} {sz : Nat} {d : D} {cs : List Value} (hl : cs.length = sz) (h : RepC g w d cs) : ∀ {ds : List D} {vs : List Value}, RepEs g w sz ds vs → RepEs g w sz (ds ++ [d]) (vs ++ cs)
  | [], vs, h' => by
    simp only [RepEs] at h'
    subst h'
    exact ⟨cs, [], by simp, hl, h, rfl⟩
  | e :: ds, vs, ⟨c1, c2, e1, h1, h2, h3⟩ => by
    subst e1
    exact ⟨c1, c2 ++ cs, by simp, h1, h2, repEs_snoc hl h h3⟩
theorem add_add (a : Addr) (m n : Nat) : (a.add m).add n = a.add (m + n) := by
  unfold Addr.add
  by_cases h : n = 0
  · subst h; simp
  · by_cases h' : m = 0
    · subst h'; simp
    · simp [h, h', Nat.add_assoc]

/-- A slice of anything that is read. -/
theorem repc_slice {t e : TypeId} {sz fuel : Nat} {cs : List Value} {x : DataW H × List MemPlace} (Q : D → Prop) (ht : P.underlying t = some (.slice e)) (hc : P.cellsOf e = sz)
    (each : ∀ (n : Nat) (cs : List Value) (y : DataW H × List MemPlace), DataW.trod enc P W base (fun _ => true) true n e cs = some y → ∃ d, RepC (g0 W) W d cs ∧ Q d)
    (hf : DataW.trod enc P W base (fun _ => true) true fuel t cs = some x) : ∃ es, RepC (g0 W) W (.sl .no sz es) cs ∧ (∀ d ∈ es, Q d) ∧ es.length ≤ maxLen := by
  rcases DataW.trod_slice ht hf with ⟨rfl, _⟩ | ⟨a, len, cap, elems, rest, n, _, rfl, _, hb, hl, hm, hlen, hel, _, _⟩
  · exact ⟨[], ⟨none, 0, [], rfl, Nat.le_refl _, rfl, fun h => (h rfl).elim, trivial⟩, fun d hd => absurd hd List.not_mem_nil, Nat.zero_le _⟩
  have build : ∀ m, m ≤ len → ∃ (es : List D) (vs : List Value), es.length = m ∧ vs.length = m * sz ∧ RepEs (g0 W) W sz es vs ∧ (∀ k v, vs[k]? = some v → W.cell? (a.add k) = some v) ∧ ∀ d ∈ es, Q d := by
    intro m
    induction m with
    | zero => intro _; exact ⟨[], [], rfl, by simp, rfl, fun k v h => by simp at h, fun d hd => absurd hd List.not_mem_nil⟩
    | succ m ih =>
      intro hm'
      obtain ⟨es, vs, h1, h2, h3, h4, h5⟩ := ih (by omega)
      have he := hel m (by omega)
      rw [List.getElem?_eq_getElem (by omega), Option.bind_eq_some_iff] at he
      obtain ⟨cs', hcs, hy⟩ := he
      obtain ⟨d, hd, hq⟩ := each _ _ _ hy
      obtain ⟨_, hl', hcell⟩ := World.cells?_some hcs
      rw [hc] at hl' hcell
      refine ⟨es ++ [d], vs ++ cs', by simp [h1], by rw [List.length_append, h2, hl', Nat.succ_mul], repEs_snoc hl' hd h3, ?_, ?_⟩
      · intro k v hk
        by_cases hkl : k < vs.length
        · rw [List.getElem?_append_left hkl] at hk
          exact h4 k v hk
        · rw [List.getElem?_append_right (by omega)] at hk
          have hk' : k - vs.length < sz := by
            have := (List.getElem?_eq_some_iff.1 hk).1
            omega
          have := hcell (k - vs.length) hk'
          rw [add_add, h2] at this
          rw [h2] at hk
          rw [show m * sz + (k - m * sz) = k by omega] at this
          rw [this, hk]
      · intro d' hd'
        rcases List.mem_append.1 hd' with h | h
        · exact h5 d' h
        · rw [List.mem_singleton.1 h]; exact hq
  obtain ⟨es, vs, h1, h2, h3, h4, h5⟩ := build len (Nat.le_refl _)
  refine ⟨es, ⟨some a, cap, vs, by rw [h1], by omega, h3, row_of h4, trivial⟩, h5, by omega⟩

theorem map_of {es : List D} {f : List Int → D} {p : List Int → Prop} (h : ∀ d ∈ es, ∃ xs, d = f xs ∧ p xs) : ∃ bs : List (List Int), es = bs.map f ∧ ∀ b ∈ bs, p b := by
  induction es with
  | nil => exact ⟨[], rfl, fun b hb => absurd hb List.not_mem_nil⟩
  | cons d es ih =>
    obtain ⟨xs, rfl, hp⟩ := h d (List.mem_cons_self ..)
    obtain ⟨bs, rfl, hb⟩ := ih fun d hd => h d (List.mem_cons_of_mem _ hd)
    exact ⟨xs :: bs, rfl, fun b hb' => by
      rcases List.mem_cons.1 hb' with rfl | h
      · exact hp
      · exact hb b h⟩
theorem strips_slis (keep : Bool) (k : IntKind) : ∀ bs : List (List Int), D.strips keep (bs.map (D.sli .no k)) = bs.map (D.sli .no k)
  | [] => rfl
  | b :: bs => by
    simp only [List.map_cons, D.strips, strips_slis keep k bs]
    rfl
theorem rep_intss {r : Reach} {b0 : Nat} {t u e : TypeId} {k : IntKind} {v : Value} {d : DataW H} {ps : List MemPlace} (ht : P.underlying t = some (.slice u)) (hu : P.underlying u = some (.slice e)) (he : P.underlying e = some (.int k)) (hc : P.cellsOf e = 1) (hcu : P.cellsOf u = 1)
    (hval : Value.okWide P W r b0 t v) (hd : DataW.Trod enc P W base (fun _ => true) true t v d ps) :
    ∃ bs : List (List Int), Rep1 (g0 W) W (.sl .no 1 (bs.map (D.sli .no k))) v ∧ ∀ b ∈ bs, ∀ x ∈ b, (Lit.int k x).wf = true := by
  obtain ⟨fuel, hf⟩ := hd
  obtain ⟨a, l, c, rfl⟩ := okWide_slice ht hval
  obtain ⟨es, h1, h2, _⟩ := repc_slice (fun d => ∃ xs, d = D.sli .no k xs ∧ ∀ x ∈ xs, (Lit.int k x).wf = true) ht hcu (fun n cs y hy => by
    obtain ⟨xs, e1, e2, _⟩ := repc_ints hu he hc hy
    exact ⟨_, e1, xs, rfl, e2⟩) hf
  obtain ⟨bs, rfl, hb⟩ := map_of h2
  exact ⟨bs, h1, hb⟩

theorem rep_arr {r : Reach} {b0 : Nat} {t e : TypeId} {n : Nat} {k : IntKind} {v : Value} {d : DataW H} {ps : List MemPlace} (ht : P.underlying t = some (.array n e)) (he : P.underlying e = some (.int k)) (hc : P.cellsOf e = 1) (hn : P.cellsOf t = n)
    (hval : Value.okWide P W r b0 t v) (hd : DataW.Trod enc P W base (fun _ => true) true t v d ps) (g : Gh) :
    ∃ xs, Rep1 g W (.arr k n xs) v ∧ (∀ x ∈ xs, (Lit.int k x).wf = true) ∧ xs.length = n := by
  obtain ⟨fuel, hf⟩ := hd
  simp only [Value.okWide, ht] at hval
  obtain ⟨cs, rfl, hcs, _⟩ := hval
  obtain ⟨xs, m, _, _, hl, hx, hel⟩ := DataW.trod_array ht hf
  have hcs' : (Value.agg cs).cells.toList = cs.toList := rfl
  rw [hcs'] at hel hl
  have hcn : cs.size = n := by rw [hcs, hn]
  have each : ∀ i, i < n → ∃ z, cs[i]? = some (.int k z) ∧ (Lit.int k z).wf = true := by
    intro i hi
    have h1 := hel i hi
    rw [hc, Nat.mul_one, List.getElem?_eq_getElem (by omega)] at h1
    obtain ⟨z, e1, _, hw⟩ := DataW.trod_int he h1
    refine ⟨z, ?_, hw⟩
    have h0 : ((cs.toList.drop i).take 1)[0]? = some (.int k z) := by rw [e1]; rfl
    simpa using h0
  refine ⟨cs.toList.map fun v => match v with | .int _ z => z | _ => 0, ⟨by simpa using hcn, ?_⟩, ?_, by simpa using hcn⟩
  · congr 1
    apply Array.ext'
    apply List.ext_getElem?
    intro i
    simp only [ints, List.getElem?_map]
    by_cases hi : i < n
    · obtain ⟨z, hz, _⟩ := each i hi
      simp [hz]
    · have : cs[i]? = none := by simp; omega
      simp [this]
  · intro x hx
    obtain ⟨v, hv, rfl⟩ := List.mem_map.1 hx
    obtain ⟨i, hi⟩ := List.getElem?_of_mem hv
    have hi' : i < n := by
      have := (List.getElem?_eq_some_iff.1 hi).1
      simp at this
      omega
    obtain ⟨z, hz, hw⟩ := each i hi'
    have : v = .int k z := by
      have : cs[i]? = some v := by simpa using hi
      rw [hz] at this
      exact (Option.some.inj this).symm
    subst this
    exact hw
end

/-- What the law gives, and what it leaves alone. -/
theorem law_calls {E : Env} {f : FuncId} (hc : Contract E f) {W : World} {args : List D} {vs : List Value} (hv : (E.T f args s0 0).vc) (hr : (E.T f args s0 0).val = .bool true) (hg : Globs E (g0 W) W) (hrep : RepL (g0 W) W args vs) :
    Calls E.P f vs.toArray W fun e W' => e = .returned (.bool true) ∧ Below W.heap.size W W' := by
  refine (hc.2 args s0 0 (g0 W) W (fun _ => True) vs hv hg (inv_g0 W) (fun _ _ _ => trivial) hrep).mono ?_
  rintro e W' ⟨v, g', rfl, h1, h2, h3⟩
  rw [hr] at h1
  simp [Rep, Rep1, RepC] at h1
  subst h1
  exact ⟨rfl, ⟨h3.os, h3.tape, h3.output, h3.size, fun b hb => h3.block b hb rfl⟩⟩

section
variable {H : Type} {enc : TypeId × Value → H} {P : Program}
theorem trodAll_stays (hl : laidOutB P = true) {W W' : World} (hb : Below W.heap.size W W') : ∀ {ts : List TypeId} {vs : List Value} {ds : List (DataW H)} {ps : List MemPlace}, (ts.all fun t => P.readableRec t && decide (t < P.types.size)) = true →
    DataW.TrodAll enc P W 0 (fun _ => true) true ts vs ds ps → (∀ x ∈ ps, x.block < W.heap.size) → DataW.TrodAll enc P W' 0 (fun b => decide (b < W.heap.size)) true ts vs ds ps
  | [], [], [], _, _, h, _ => h
  | t :: ts, _ :: _, _ :: _, _, hr, ⟨p, q, h1, h2, e⟩, hlt => by
    subst e
    simp only [List.all_cons, Bool.and_eq_true, decide_eq_true_eq] at hr
    exact ⟨p, q, Below.trod hl hr.1.1 hr.1.2 h1 hb (fun x hx => hlt x (List.mem_append_left _ hx)), trodAll_stays hl hb hr.2 h2 (fun x hx => hlt x (List.mem_append_right _ hx)), rfl⟩

theorem trodAll_full (hl : laidOutB P = true) {W W' : World} (hb : Below W.heap.size W W') : ∀ {ts : List TypeId} {vs : List Value} {ds : List (DataW H)} {ps : List MemPlace}, (ts.all fun t => P.readableRec t && decide (t < P.types.size)) = true →
    DataW.TrodAll enc P W 0 (fun _ => true) true ts vs ds ps → (∀ x ∈ ps, x.block < W.heap.size) → ∀ sp : Nat → Bool, (∀ x ∈ ps, sp x.block = true) → DataW.TrodAll enc P W' 0 sp true ts vs ds ps
  | [], [], [], _, _, h, _, _, _ => h
  | t :: ts, _ :: _, _ :: _, _, hr, ⟨p, q, h1, h2, e⟩, hlt, sp, hsp => by
    subst e
    simp only [List.all_cons, Bool.and_eq_true, decide_eq_true_eq] at hr
    exact ⟨p, q, WideElems.Trod_stays hl hr.1.1 hr.1.2 h1 (fun x hx => hb.same (hlt x (List.mem_append_left _ hx))) (fun x hx => hsp x (List.mem_append_left _ hx)),
      trodAll_full hl hb hr.2 h2 (fun x hx => hlt x (List.mem_append_right _ hx)) sp (fun x hx => hsp x (List.mem_append_right _ hx)), rfl⟩

theorem law_post {f : Func} {s : ChangeSpec} {apart fresh handsOn again : Bool} {W W' : World} {args : Array Value} {ds gs : List (DataW H)} {before : List MemPlace} {tb : TypeId}
    (hW : DataW.Whole enc P f.params.toList s.vars apart W args.toList ds gs before) (hsv : s.vars = []) (hl : laidOutB P = true) (hrd : (f.params.toList.all fun t => P.readableRec t && decide (t < P.types.size)) = true)
    (hrt : f.resultTypes = #[tb]) (hbt : P.underlying tb = some .bool) (hfn : s.fn H (ds ++ gs) = { results := [.lit (.bool true)], args := ds })
    (hb : Below W.heap.size W W') : s.post enc P f apart fresh handsOn again W args (.bool true) W' := by
  have hlt : ∀ p ∈ before, p.block < W.heap.size := fun p hp => hW.lt p hp
  have hold : ∀ p ∈ before, (fun b => decide (b < W.heap.size)) p.block = true := fun p hp => by simpa using hlt p hp
  have hW' := hW
  obtain ⟨pa, pv, hA, hV, hps, hz, hn⟩ := hW
  rw [hsv] at hV
  obtain ⟨rfl, rfl⟩ := trodVars_none hV
  rw [List.append_nil] at hps
  subst hps
  have hargs : ∀ sp : Nat → Bool, (∀ x ∈ before, sp x.block = true) → DataW.TrodAll enc P W' 0 sp true f.params.toList args.toList (s.fn H (ds ++ [])).args before := by
    intro sp h
    rw [hfn]
    exact trodAll_full hl hb hrd hA hlt sp h
  have hres : ∀ (b : Nat) (sp : Nat → Bool) (hd : Bool), DataW.TrodAll enc P W' b sp hd f.resultTypes.toList ((Value.bool true).resultList f.resultTypes.size) (s.fn H (ds ++ [])).results [] := by
    intro b sp hd
    rw [hfn, hrt]
    exact trodAll_mk1 (shut_bool hbt true)
  have hvars : ∀ sp : Nat → Bool, DataW.TrodVars enc P W' sp s.vars (s.fn H (ds ++ [])).vars [] := by
    intro sp
    rw [hfn, hsv]
    rfl
  refine ⟨ds, [], before, [], before, [], hW', hres _ _ _, hargs _ hold, hvars _, World.keptBut_mono (fun p hp => ⟨hp, by simpa using hp⟩) (hb.frame (· ∈ before)), fun _ => ?_⟩
  · refine ⟨ok_one hrt rfl (okWide_bool_mk hbt true), _, _, ([] ++ before) ++ [], ⟨[] ++ before, [], trodAll_append (hargs _ (fun _ _ => rfl)) (hres _ _ _), hvars _, rfl, ?_, ?_⟩, ?_⟩
    · intro b off hp
      have hin : MemPlace.cell b off ∈ before := by simpa using hp
      rw [hb.frozen (hlt _ hin)]
      exact hz b off hin
    · intro ha
      simpa using hn ha
    · intro p hp _
      simpa using hp
end
end Go.Vi
end

section
set_option linter.unusedVariables false
set_option linter.unusedSimpArgs false
namespace Go.Proofs.YtalbmjogjolaoaaDoor
open Go.ChangeShapes Go.WideShapes Go.RowKit Go.Vi Go.Vi.C1

theorem Tryd.own : ownKnob Tryd.prog.godebug = none := by kernel_rfl
theorem Tryd.laidOut : laidOutB Tryd.prog = true := by kernel_rfl

theorem globs_of_laid {W : World} (h : laidMetH Tryd.prog [("spinney/sha.roundNumbers", Rows.laid_spinney_sha_roundNumbers)] W) : Globs Go.Vi.C1.E (g0 W) W := by
  rw [MakeChecks.laidMetH_plain _ _ _ (by kernel_rfl)] at h
  obtain ⟨ps, ⟨g, t, cs, fuel, p, q, hg, ht, hv, hd, _, _⟩, _, _⟩ := h
  obtain rfl := Option.some.inj ((show Tryd.prog.globalNamed "spinney/sha.roundNumbers" = some 0 by kernel_rfl).symm.trans hg)
  obtain rfl := Option.some.inj ((show (Tryd.prog.globals[0]?).map (·.type) = some 71 by kernel_rfl).symm.trans ht)
  obtain ⟨xs, m, _, ex, hcl, hl, hel⟩ := DataW.trod_array Tryd.underlying71 hd
  have c5 : Tryd.prog.cellsOf 29 = 1 := by kernel_rfl
  have hlen : kList.length = 64 := by decide
  have e3 : (xs.map (·.1)) = kList.map fun n => .lit (.int .u32 n) :=
    (DataW.agg.inj (Prod.mk.inj ex).1).symm
  have cell : ∀ r, r < 64 → cs.toList[r]? = some (.int .u32 (kList.getD r 0)) := by
    intro r hr
    have hE := hel r hr
    rw [c5, Nat.mul_one, List.getElem?_eq_getElem (by omega)] at hE
    obtain ⟨z, e1, e2, _⟩ := DataW.trod_int Tryd.underlying29 hE
    have e4 : (xs.map (·.1))[r]? = (kList.map fun n => (DataW.lit (.int .u32 n) : DataW Unit))[r]? := by rw [e3]
    rw [List.getElem?_map, List.getElem?_map, List.getElem?_eq_getElem (by omega : r < xs.length), List.getElem?_eq_getElem (by omega : r < kList.length), e2] at e4
    have hz : z = kList.getD r 0 := by
      simp only [Option.map_some, Option.some.injEq, DataW.lit.injEq, Lit.int.injEq, true_and] at e4
      rw [e4, List.getD, List.getElem?_eq_getElem (by omega : r < kList.length)]; rfl
    rw [← hz]
    have h0 : ((cs.toList.drop r).take 1)[0]? = some (.int .u32 z) := by rw [e1]; rfl
    simpa using h0
  have at0 : At W 0 0 (ints .u32 kList) := by
    intro i v hi
    simp only [ints, List.getElem?_map, Option.map_eq_some_iff] at hi
    obtain ⟨z, hz, rfl⟩ := hi
    have hil : i < 64 := by
      have := (List.getElem?_eq_some_iff.1 hz).1
      omega
    have := cell i hil
    rw [List.getD_eq_getElem?_getD, hz] at this
    rw [Nat.zero_add, World.var?_cell hg hv i]
    simpa using this
  intro i d hi
  change glC i = some d at hi
  unfold glC at hi
  split at hi <;> cases hi
  refine ⟨0, 0, ints .u32 kList, rfl, ⟨hlen, rfl⟩, ?_, at0⟩
  have := at0 63 _ (by rw [ints, List.getElem?_map, List.getElem?_eq_getElem (by omega : 63 < kList.length)]; rfl)
  have := cell_lt this
  show 0 + (ints .u32 kList).length ≤ rowSize W 0
  simp only [ints, List.length_map, hlen]
  omega

theorem bytes_of {xs : List Int} (h : ∀ x ∈ xs, (Lit.int .u8 x).wf = true) : Go.Vi.bytes xs := by
  intro x hx
  have := h x hx
  simp only [Lit.wf, Bool.and_eq_true, decide_eq_true_eq, show IntKind.u8.min = 0 from rfl, show IntKind.u8.max = 255 from rfl] at this
  omega

end Go.Proofs.YtalbmjogjolaoaaDoor
end
