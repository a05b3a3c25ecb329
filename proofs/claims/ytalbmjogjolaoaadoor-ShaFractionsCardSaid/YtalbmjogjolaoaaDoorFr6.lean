/- Lemmas for the law proved in the text whose name ends with Law. -/
import Derived.Test.YtalbmjogjolaoaaDoorFr5
import Derived.ProofKit
import Derived.OpenShut
import Derived.LaidMore
import Derived.Lay
import Derived.Stop.Joined
import Derived.Test.YtalbmjogjolaoaaDoorTie
import Derived.Test.YtalbmjogjolaoaaDoorCards
import Derived.SevenTiedAt

section
set_option linter.unusedVariables false
set_option linter.unusedSimpArgs false
set_option maxHeartbeats 0
set_option maxRecDepth 20000
namespace Go.Vi.C1
open Go.Proofs

theorem c_greater : Contract E 50 := by
  refine contract_see hE hgl (show E.P.funcs[50]? = some Tryd.f50 from Tryd.func50) rfl (p := sp_greater) (fun _ _ _ => rfl) ?_
  intro args hv
  unfold sp_greater at hv ⊢
  split at hv
  case h_2 => exact hv.elim
  rename_i a b
  refine ⟨by simp, Nat.le_of_ble_eq_true rfl, ?_⟩
  simp only [givesIf] at hv
  obtain ⟨ha, hb, hla, hlb⟩ := hv
  simp (config := {dsimp := false}) only [↓a_skip, ↓a_exit, ↓a_ret, ↓a_seq, ↓a_cond, ↓a_block, ↓a_loop, ↓a_region, ↓a_draw, ↓a_region', ↓a_draw', ↓then_key, ↓with_key, ↓cond_key, ↓one_key, ↓thenQ_normal, ↓thenQ_exit, ↓thenQ_ret, ↓blockQ_normal, ↓blockQ_exit, ↓blockQ_ret, ↓aops, ↓aopsD, ↓imp_tt, ↓imp_ff, ↓imp_tf, ↓imp_ft, ↓imp_tnt, ↓imp_tnf, ↓imp_fnt, ↓imp_fnf, okD_nil, okD_u, okD_t, thenK_mk, withK_some, condK_bool, oneK_some, look, look_hit, setL, resQ, argSlots, buildSt, buildArr, intsOf, eqB, keepSl, sh_one_one, sh_one_arr, sh_one_st, sh_arr_one, sh_arr_arr, sh_arr_st, sh_st_one, sh_st_arr, sh_st_st, bin_int, bin_str, bin_bool, bin_arr, bin_agg, un_neg, un_xor, un_not, i_add, i_sub, i_mul, i_quo, i_rem, i_and, i_or, i_xor, i_andNot, i_eql, i_neq, i_lss, i_leq, i_gtr, i_geq, s_shl, s_shr, opR, okIf, ok, bad, ev, ofConst, putS, updS, S.upd, dstOk, yieldD, strBin, isShift, cellD, retQ, resD, stripO, convR, conv2R, makeR, indexR, indexAddrR, fieldAddrR, loadR, storeR, allocR, boxR, pickR, buildR, buildSliceR, lenR, nilCheckR, extractR, funcR, sliceR, appendR, callR, S.box, S.tok, TK.sh, known, tsize, destI, ownTok, srcI, isIn, isSl, isSt, appendI, appendL, bnd, aggBin, nilD, isPtr, fieldOf, sized, enumS, seeR, seeL, hasB, flat, flats, nil1_none, nil1_sl, nil1_sl', nil1_sli, nil1_bsl, nilK_cons, nilK_nil, nilK_nil', see_any, isB_any, see_int, isB_int, see_bool, isB_bool, see_str, isB_str, see_raw, isB_raw, see_arr, isB_arr, see_agg, isB_agg, see_tup, isB_tup, see_sli, isB_sli, see_sl, isB_sl, see_bp, isB_bp, see_be, isB_be, see_ip, isB_ip, see_fn, isB_fn, see_bsl, isB_bsl, seen_arr, List.foldl_nil, List.foldl_cons, Option.getD_some, Option.getD_none, if_true, if_false, reduceIte, reduceCtorEq, Nat.reduceEqDiff, Nat.reduceAdd, Nat.reduceMul, Nat.reduceLT, Nat.reduceSub, Nat.reduceLeDiff, true_and, and_true, List.map_cons, List.map_nil, List.size_toArray, List.length_cons, List.length_nil, Option.map_some, Option.map_none, Option.bind_some, true_implies, Bool.false_eq_true, Bool.true_eq_false, false_implies, Bool.not_true, Bool.not_false, List.getElem?_cons_zero, List.getElem?_cons_succ, implies_true, and_self, Bool.and_true, Bool.true_and, BEq.rfl, and_assoc, Option.isSome_some, Option.isSome_none, List.take_succ_cons, List.take_zero, List.set_cons_zero, List.set_cons_succ, List.forall_mem_cons, List.not_mem_nil, forall_const, List.range, List.range.loop, ne_eq, not_false_eq_true, not_true_eq_false, List.cons.injEq, Prod.mk.injEq, List.append_nil, List.nil_append, List.cons_append, false_and, and_false, Bool.false_and, Bool.and_false, Nat.reduceBNe, Nat.reduceBEq, beq_self_eq_true, bne_self_eq_false, Nat.reduceBeqDiff, Bool.or_false, Bool.false_or, Bool.or_true, Bool.true_or, size_any, isOne_any, stor_any, fits_any, strip_any, sub_any, put_any, size_int, isOne_int, stor_int, fits_int, strip_int, sub_int, put_int, size_bool, isOne_bool, stor_bool, fits_bool, strip_bool, sub_bool, put_bool, size_str, isOne_str, stor_str, fits_str, strip_str, sub_str, put_str, size_raw, isOne_raw, fits_raw, strip_raw, sub_raw, put_raw, size_arr, isOne_arr, stor_arr, fits_arr, strip_arr, sub_arr, put_arr, size_agg, isOne_agg, stor_agg, fits_agg, strip_agg, sub_agg, put_agg, isOne_tup, stor_tup, fits_tup, strip_tup, sub_tup, put_tup, size_sli, isOne_sli, stor_sli, fits_sli, strip_sli, sub_sli, put_sli, size_sl, isOne_sl, stor_sl, fits_sl, strip_sl, sub_sl, put_sl, size_bp, isOne_bp, stor_bp, fits_bp, strip_bp, sub_bp, put_bp, size_be, isOne_be, stor_be, fits_be, strip_be, sub_be, put_be, size_bsl, isOne_bsl, stor_bsl, fits_bsl, strip_bsl, sub_bsl, put_bsl, size_ip, isOne_ip, stor_ip, fits_ip, strip_ip, sub_ip, put_ip, size_fn, isOne_fn, stor_fn, fits_fn, strip_fn, sub_fn, put_fn, stor_nil, stor_nilf, stor_nili, sizes_nil, sizes_cons, subs_nil, subs_cons, puts_nil, puts_cons, strips_nil, strips_cons, ty1, ty2, ty3, ty4, ty5, ty9, ty12, ty20, ty21, ty22, ty23, ty24, ty25, ty26, ty27, ty28, ty29, ty30, ty31, ty32, ty33, ty34, ty35, ty36, ty37, ty39, ty40, ty41, ty42, ty43, ty44, ty45, ty46, ty47, ty48, ty49, ty50, ty51, ty52, ty53, ty54, ty55, ty56, ty57, ty58, ty59, ty60, ty61, ty62, ty63, ty64, ty65, ty66, ty67, ty68, ty69, ty70, ty71, ty72, ty73, ty74, ty75, ty76, ty77, ty78, ty79, ty80, ty82, ty83, ty89, ty92, ty95, gl0, Tryd.ntmps50, Tryd.results50, PF.toR, gives, givesIf]
  refine ⟨fun hh => ?_, fun hh => ?_⟩
  · have hh := of_decide_eq_true hh
    rw [show IntKind.wrap .i64 ((b.length : Int) - 1) = (b.length : Int) - 1 from IntWalk.i64_in _ (by omega)]
    refine loopI {m : Nat // m ≤ b.length ∧ ∀ j, m ≤ j → a.getD j 0 = b.getD j 0} (fun m => [(6, .int .i64 ((m.1 : Int) - 1)), (0, .sli .no .i64 a), (1, .sli .no .i64 b)]) (fun _ => ⟨[], [], 56⟩) (fun m => m.1) ⟨b.length, Nat.le_refl _, fun j hj => by rw [getD_ge (by omega), getD_ge (by omega)]⟩ (fun _ => rfl) ⟨⟨wkD_eq rfl, rfl, wkD_eq rfl, rfl, wkD_eq rfl, rfl, trivial⟩, trivial, trivial⟩ ?_
    rintro ⟨m, hm, he⟩
    have da : (if (m : Int) - 1 < (a.length : Int) then a.getD ((m : Int) - 1).toNat 0 else 0) = a.getD (m - 1) 0 := by
      split
      · congr 1; omega
      · rw [getD_ge (by omega)]
    have db : (if (m : Int) - 1 < (b.length : Int) then b.getD ((m : Int) - 1).toNat 0 else 0) = b.getD (m - 1) 0 := by
      split
      · congr 1; omega
      · rw [getD_ge (by omega)]
    simp (config := {dsimp := false}) only [↓a_skip, ↓a_exit, ↓a_ret, ↓a_seq, ↓a_cond, ↓a_block, ↓a_loop, ↓a_region, ↓a_draw, ↓a_region', ↓a_draw', ↓then_key, ↓with_key, ↓cond_key, ↓one_key, ↓thenQ_normal, ↓thenQ_exit, ↓thenQ_ret, ↓blockQ_normal, ↓blockQ_exit, ↓blockQ_ret, ↓aops, ↓aopsD, ↓imp_tt, ↓imp_ff, ↓imp_tf, ↓imp_ft, ↓imp_tnt, ↓imp_tnf, ↓imp_fnt, ↓imp_fnf, okD_nil, okD_u, okD_t, thenK_mk, withK_some, condK_bool, oneK_some, look, look_hit, setL, resQ, argSlots, buildSt, buildArr, intsOf, eqB, keepSl, sh_one_one, sh_one_arr, sh_one_st, sh_arr_one, sh_arr_arr, sh_arr_st, sh_st_one, sh_st_arr, sh_st_st, bin_int, bin_str, bin_bool, bin_arr, bin_agg, un_neg, un_xor, un_not, i_add, i_sub, i_mul, i_quo, i_rem, i_and, i_or, i_xor, i_andNot, i_eql, i_neq, i_lss, i_leq, i_gtr, i_geq, s_shl, s_shr, opR, okIf, ok, bad, ev, ofConst, putS, updS, S.upd, dstOk, yieldD, strBin, isShift, cellD, retQ, resD, stripO, convR, conv2R, makeR, indexR, indexAddrR, fieldAddrR, loadR, storeR, allocR, boxR, pickR, buildR, buildSliceR, lenR, nilCheckR, extractR, funcR, sliceR, appendR, callR, S.box, S.tok, TK.sh, known, tsize, destI, ownTok, srcI, isIn, isSl, isSt, appendI, appendL, bnd, aggBin, nilD, isPtr, fieldOf, sized, enumS, seeR, seeL, hasB, flat, flats, nil1_none, nil1_sl, nil1_sl', nil1_sli, nil1_bsl, nilK_cons, nilK_nil, nilK_nil', see_any, isB_any, see_int, isB_int, see_bool, isB_bool, see_str, isB_str, see_raw, isB_raw, see_arr, isB_arr, see_agg, isB_agg, see_tup, isB_tup, see_sli, isB_sli, see_sl, isB_sl, see_bp, isB_bp, see_be, isB_be, see_ip, isB_ip, see_fn, isB_fn, see_bsl, isB_bsl, seen_arr, List.foldl_nil, List.foldl_cons, Option.getD_some, Option.getD_none, if_true, if_false, reduceIte, reduceCtorEq, Nat.reduceEqDiff, Nat.reduceAdd, Nat.reduceMul, Nat.reduceLT, Nat.reduceSub, Nat.reduceLeDiff, true_and, and_true, List.map_cons, List.map_nil, List.size_toArray, List.length_cons, List.length_nil, Option.map_some, Option.map_none, Option.bind_some, true_implies, Bool.false_eq_true, Bool.true_eq_false, false_implies, Bool.not_true, Bool.not_false, List.getElem?_cons_zero, List.getElem?_cons_succ, implies_true, and_self, Bool.and_true, Bool.true_and, BEq.rfl, and_assoc, Option.isSome_some, Option.isSome_none, List.take_succ_cons, List.take_zero, List.set_cons_zero, List.set_cons_succ, List.forall_mem_cons, List.not_mem_nil, forall_const, List.range, List.range.loop, ne_eq, not_false_eq_true, not_true_eq_false, List.cons.injEq, Prod.mk.injEq, List.append_nil, List.nil_append, List.cons_append, false_and, and_false, Bool.false_and, Bool.and_false, Nat.reduceBNe, Nat.reduceBEq, beq_self_eq_true, bne_self_eq_false, Nat.reduceBeqDiff, Bool.or_false, Bool.false_or, Bool.or_true, Bool.true_or, size_any, isOne_any, stor_any, fits_any, strip_any, sub_any, put_any, size_int, isOne_int, stor_int, fits_int, strip_int, sub_int, put_int, size_bool, isOne_bool, stor_bool, fits_bool, strip_bool, sub_bool, put_bool, size_str, isOne_str, stor_str, fits_str, strip_str, sub_str, put_str, size_raw, isOne_raw, fits_raw, strip_raw, sub_raw, put_raw, size_arr, isOne_arr, stor_arr, fits_arr, strip_arr, sub_arr, put_arr, size_agg, isOne_agg, stor_agg, fits_agg, strip_agg, sub_agg, put_agg, isOne_tup, stor_tup, fits_tup, strip_tup, sub_tup, put_tup, size_sli, isOne_sli, stor_sli, fits_sli, strip_sli, sub_sli, put_sli, size_sl, isOne_sl, stor_sl, fits_sl, strip_sl, sub_sl, put_sl, size_bp, isOne_bp, stor_bp, fits_bp, strip_bp, sub_bp, put_bp, size_be, isOne_be, stor_be, fits_be, strip_be, sub_be, put_be, size_bsl, isOne_bsl, stor_bsl, fits_bsl, strip_bsl, sub_bsl, put_bsl, size_ip, isOne_ip, stor_ip, fits_ip, strip_ip, sub_ip, put_ip, size_fn, isOne_fn, stor_fn, fits_fn, strip_fn, sub_fn, put_fn, stor_nil, stor_nilf, stor_nili, sizes_nil, sizes_cons, subs_nil, subs_cons, puts_nil, puts_cons, strips_nil, strips_cons, ty1, ty2, ty3, ty4, ty5, ty9, ty12, ty20, ty21, ty22, ty23, ty24, ty25, ty26, ty27, ty28, ty29, ty30, ty31, ty32, ty33, ty34, ty35, ty36, ty37, ty39, ty40, ty41, ty42, ty43, ty44, ty45, ty46, ty47, ty48, ty49, ty50, ty51, ty52, ty53, ty54, ty55, ty56, ty57, ty58, ty59, ty60, ty61, ty62, ty63, ty64, ty65, ty66, ty67, ty68, ty69, ty70, ty71, ty72, ty73, ty74, ty75, ty76, ty77, ty78, ty79, ty80, ty82, ty83, ty89, ty92, ty95, gl0, Tryd.ntmps50, Tryd.results50, PF.toR, gives, givesIf, da, db, spec_digit, sp_digit, c_digit, b_digit]
    refine ⟨fun h => ?_, fun h => ?_⟩
    · have h := of_decide_eq_true h
      refine ⟨by omega, by omega, fun h2 => ?_, fun h2 => ?_⟩
      · have hne : b.getD (m - 1) 0 ≠ a.getD (m - 1) 0 := fun e => by rw [e] at h2; simp at h2
        have hc := cmp_of ha hb (m := m - 1) (fun j hj => he j (by omega)) hne
        refine ⟨by omega, by omega, ?_⟩
        change D.bool _ = D.bool _
        rw [decide_eq_decide.2 hc]
      · have heq : a.getD (m - 1) 0 = b.getD (m - 1) 0 := by simpa using h2
        refine ⟨⟨m - 1, by omega, fun j hj => ?_⟩, ⟨⟨wkD_eq ?_, rfl, wkD_eq rfl, rfl, wkD_eq rfl, rfl, trivial⟩, trivial, trivial⟩, by (try simp only); omega⟩
        · by_cases e : j = m - 1
          · subst e; exact heq
          · exact he j (by omega)
        · rw [show IntKind.wrap .i64 ((m : Int) - 1 - 1) = ((m - 1 : Nat) : Int) - 1 by rw [IntWalk.i64_in _ (by omega)]; omega]
          rfl
    · have h := of_decide_eq_false h
      obtain rfl : m = 0 := by omega
      have := val_ext a b fun j => he j (Nat.zero_le _)
      change D.bool _ = D.bool _
      rw [this]
      simp
  · have hh := of_decide_eq_false hh
    rw [show IntKind.wrap .i64 ((a.length : Int) - 1) = (a.length : Int) - 1 from IntWalk.i64_in _ (by omega)]
    refine loopI {m : Nat // m ≤ a.length ∧ ∀ j, m ≤ j → a.getD j 0 = b.getD j 0} (fun m => [(6, .int .i64 ((m.1 : Int) - 1)), (0, .sli .no .i64 a), (1, .sli .no .i64 b)]) (fun _ => ⟨[], [], 44⟩) (fun m => m.1) ⟨a.length, Nat.le_refl _, fun j hj => by rw [getD_ge (by omega), getD_ge (by omega)]⟩ (fun _ => rfl) ⟨⟨wkD_eq rfl, rfl, wkD_eq rfl, rfl, wkD_eq rfl, rfl, trivial⟩, trivial, trivial⟩ ?_
    rintro ⟨m, hm, he⟩
    have da : (if (m : Int) - 1 < (a.length : Int) then a.getD ((m : Int) - 1).toNat 0 else 0) = a.getD (m - 1) 0 := by
      split
      · congr 1; omega
      · rw [getD_ge (by omega)]
    have db : (if (m : Int) - 1 < (b.length : Int) then b.getD ((m : Int) - 1).toNat 0 else 0) = b.getD (m - 1) 0 := by
      split
      · congr 1; omega
      · rw [getD_ge (by omega)]
    simp (config := {dsimp := false}) only [↓a_skip, ↓a_exit, ↓a_ret, ↓a_seq, ↓a_cond, ↓a_block, ↓a_loop, ↓a_region, ↓a_draw, ↓a_region', ↓a_draw', ↓then_key, ↓with_key, ↓cond_key, ↓one_key, ↓thenQ_normal, ↓thenQ_exit, ↓thenQ_ret, ↓blockQ_normal, ↓blockQ_exit, ↓blockQ_ret, ↓aops, ↓aopsD, ↓imp_tt, ↓imp_ff, ↓imp_tf, ↓imp_ft, ↓imp_tnt, ↓imp_tnf, ↓imp_fnt, ↓imp_fnf, okD_nil, okD_u, okD_t, thenK_mk, withK_some, condK_bool, oneK_some, look, look_hit, setL, resQ, argSlots, buildSt, buildArr, intsOf, eqB, keepSl, sh_one_one, sh_one_arr, sh_one_st, sh_arr_one, sh_arr_arr, sh_arr_st, sh_st_one, sh_st_arr, sh_st_st, bin_int, bin_str, bin_bool, bin_arr, bin_agg, un_neg, un_xor, un_not, i_add, i_sub, i_mul, i_quo, i_rem, i_and, i_or, i_xor, i_andNot, i_eql, i_neq, i_lss, i_leq, i_gtr, i_geq, s_shl, s_shr, opR, okIf, ok, bad, ev, ofConst, putS, updS, S.upd, dstOk, yieldD, strBin, isShift, cellD, retQ, resD, stripO, convR, conv2R, makeR, indexR, indexAddrR, fieldAddrR, loadR, storeR, allocR, boxR, pickR, buildR, buildSliceR, lenR, nilCheckR, extractR, funcR, sliceR, appendR, callR, S.box, S.tok, TK.sh, known, tsize, destI, ownTok, srcI, isIn, isSl, isSt, appendI, appendL, bnd, aggBin, nilD, isPtr, fieldOf, sized, enumS, seeR, seeL, hasB, flat, flats, nil1_none, nil1_sl, nil1_sl', nil1_sli, nil1_bsl, nilK_cons, nilK_nil, nilK_nil', see_any, isB_any, see_int, isB_int, see_bool, isB_bool, see_str, isB_str, see_raw, isB_raw, see_arr, isB_arr, see_agg, isB_agg, see_tup, isB_tup, see_sli, isB_sli, see_sl, isB_sl, see_bp, isB_bp, see_be, isB_be, see_ip, isB_ip, see_fn, isB_fn, see_bsl, isB_bsl, seen_arr, List.foldl_nil, List.foldl_cons, Option.getD_some, Option.getD_none, if_true, if_false, reduceIte, reduceCtorEq, Nat.reduceEqDiff, Nat.reduceAdd, Nat.reduceMul, Nat.reduceLT, Nat.reduceSub, Nat.reduceLeDiff, true_and, and_true, List.map_cons, List.map_nil, List.size_toArray, List.length_cons, List.length_nil, Option.map_some, Option.map_none, Option.bind_some, true_implies, Bool.false_eq_true, Bool.true_eq_false, false_implies, Bool.not_true, Bool.not_false, List.getElem?_cons_zero, List.getElem?_cons_succ, implies_true, and_self, Bool.and_true, Bool.true_and, BEq.rfl, and_assoc, Option.isSome_some, Option.isSome_none, List.take_succ_cons, List.take_zero, List.set_cons_zero, List.set_cons_succ, List.forall_mem_cons, List.not_mem_nil, forall_const, List.range, List.range.loop, ne_eq, not_false_eq_true, not_true_eq_false, List.cons.injEq, Prod.mk.injEq, List.append_nil, List.nil_append, List.cons_append, false_and, and_false, Bool.false_and, Bool.and_false, Nat.reduceBNe, Nat.reduceBEq, beq_self_eq_true, bne_self_eq_false, Nat.reduceBeqDiff, Bool.or_false, Bool.false_or, Bool.or_true, Bool.true_or, size_any, isOne_any, stor_any, fits_any, strip_any, sub_any, put_any, size_int, isOne_int, stor_int, fits_int, strip_int, sub_int, put_int, size_bool, isOne_bool, stor_bool, fits_bool, strip_bool, sub_bool, put_bool, size_str, isOne_str, stor_str, fits_str, strip_str, sub_str, put_str, size_raw, isOne_raw, fits_raw, strip_raw, sub_raw, put_raw, size_arr, isOne_arr, stor_arr, fits_arr, strip_arr, sub_arr, put_arr, size_agg, isOne_agg, stor_agg, fits_agg, strip_agg, sub_agg, put_agg, isOne_tup, stor_tup, fits_tup, strip_tup, sub_tup, put_tup, size_sli, isOne_sli, stor_sli, fits_sli, strip_sli, sub_sli, put_sli, size_sl, isOne_sl, stor_sl, fits_sl, strip_sl, sub_sl, put_sl, size_bp, isOne_bp, stor_bp, fits_bp, strip_bp, sub_bp, put_bp, size_be, isOne_be, stor_be, fits_be, strip_be, sub_be, put_be, size_bsl, isOne_bsl, stor_bsl, fits_bsl, strip_bsl, sub_bsl, put_bsl, size_ip, isOne_ip, stor_ip, fits_ip, strip_ip, sub_ip, put_ip, size_fn, isOne_fn, stor_fn, fits_fn, strip_fn, sub_fn, put_fn, stor_nil, stor_nilf, stor_nili, sizes_nil, sizes_cons, subs_nil, subs_cons, puts_nil, puts_cons, strips_nil, strips_cons, ty1, ty2, ty3, ty4, ty5, ty9, ty12, ty20, ty21, ty22, ty23, ty24, ty25, ty26, ty27, ty28, ty29, ty30, ty31, ty32, ty33, ty34, ty35, ty36, ty37, ty39, ty40, ty41, ty42, ty43, ty44, ty45, ty46, ty47, ty48, ty49, ty50, ty51, ty52, ty53, ty54, ty55, ty56, ty57, ty58, ty59, ty60, ty61, ty62, ty63, ty64, ty65, ty66, ty67, ty68, ty69, ty70, ty71, ty72, ty73, ty74, ty75, ty76, ty77, ty78, ty79, ty80, ty82, ty83, ty89, ty92, ty95, gl0, Tryd.ntmps50, Tryd.results50, PF.toR, gives, givesIf, da, db, spec_digit, sp_digit, c_digit, b_digit]
    refine ⟨fun h => ?_, fun h => ?_⟩
    · have h := of_decide_eq_true h
      refine ⟨by omega, by omega, fun h2 => ?_, fun h2 => ?_⟩
      · have hne : b.getD (m - 1) 0 ≠ a.getD (m - 1) 0 := fun e => by rw [e] at h2; simp at h2
        have hc := cmp_of ha hb (m := m - 1) (fun j hj => he j (by omega)) hne
        refine ⟨by omega, by omega, ?_⟩
        change D.bool _ = D.bool _
        rw [decide_eq_decide.2 hc]
      · have heq : a.getD (m - 1) 0 = b.getD (m - 1) 0 := by simpa using h2
        refine ⟨⟨m - 1, by omega, fun j hj => ?_⟩, ⟨⟨wkD_eq ?_, rfl, wkD_eq rfl, rfl, wkD_eq rfl, rfl, trivial⟩, trivial, trivial⟩, by (try simp only); omega⟩
        · by_cases e : j = m - 1
          · subst e; exact heq
          · exact he j (by omega)
        · rw [show IntKind.wrap .i64 ((m : Int) - 1 - 1) = ((m - 1 : Nat) : Int) - 1 by rw [IntWalk.i64_in _ (by omega)]; omega]
          rfl
    · have h := of_decide_eq_false h
      obtain rfl : m = 0 := by omega
      have := val_ext a b fun j => he j (Nat.zero_le _)
      change D.bool _ = D.bool _
      rw [this]
      simp
end Go.Vi.C1
end

section
set_option linter.unusedVariables false
set_option linter.unusedSimpArgs false
set_option maxHeartbeats 0
set_option maxRecDepth 20000
namespace Go.Vi.C1
open Go.Proofs

theorem c_fraction : Contract E 41 := by
  refine contract_see hE hgl (show E.P.funcs[41]? = some Tryd.f41 from Tryd.func41) rfl (p := sp_fraction) (fun _ _ _ => rfl) ?_
  intro args hv
  unfold sp_fraction at hv ⊢
  split at hv
  case h_2 => exact hv.elim
  rename_i p m
  refine ⟨by simp, Nat.le_of_ble_eq_true rfl, ?_⟩
  simp only [givesIf] at hv
  obtain ⟨hp0, hp1, hm0, hm3⟩ := hv
  obtain ⟨p, rfl⟩ : ∃ q : Nat, p = q := ⟨p.toNat, by omega⟩
  obtain ⟨r, rfl⟩ : ∃ q : Nat, m = q := ⟨m.toNat, by omega⟩
  have hpne : (p : Int) ≠ 0 := by omega
  have tp := told_val p
  simp (config := {dsimp := false}) only [↓a_skip, ↓a_exit, ↓a_ret, ↓a_seq, ↓a_cond, ↓a_block, ↓a_loop, ↓a_region, ↓a_draw, ↓a_region', ↓a_draw', ↓then_key, ↓with_key, ↓cond_key, ↓one_key, ↓thenQ_normal, ↓thenQ_exit, ↓thenQ_ret, ↓blockQ_normal, ↓blockQ_exit, ↓blockQ_ret, ↓aops, ↓aopsD, ↓imp_tt, ↓imp_ff, ↓imp_tf, ↓imp_ft, ↓imp_tnt, ↓imp_tnf, ↓imp_fnt, ↓imp_fnf, okD_nil, okD_u, okD_t, thenK_mk, withK_some, condK_bool, oneK_some, look, look_hit, setL, resQ, argSlots, buildSt, buildArr, intsOf, eqB, keepSl, sh_one_one, sh_one_arr, sh_one_st, sh_arr_one, sh_arr_arr, sh_arr_st, sh_st_one, sh_st_arr, sh_st_st, bin_int, bin_str, bin_bool, bin_arr, bin_agg, un_neg, un_xor, un_not, i_add, i_sub, i_mul, i_quo, i_rem, i_and, i_or, i_xor, i_andNot, i_eql, i_neq, i_lss, i_leq, i_gtr, i_geq, s_shl, s_shr, opR, okIf, ok, bad, ev, ofConst, putS, updS, S.upd, dstOk, yieldD, strBin, isShift, cellD, retQ, resD, stripO, convR, conv2R, makeR, indexR, indexAddrR, fieldAddrR, loadR, storeR, allocR, boxR, pickR, buildR, buildSliceR, lenR, nilCheckR, extractR, funcR, sliceR, appendR, callR, S.box, S.tok, TK.sh, known, tsize, destI, ownTok, srcI, isIn, isSl, isSt, appendI, appendL, bnd, aggBin, nilD, isPtr, fieldOf, sized, enumS, seeR, seeL, hasB, flat, flats, nil1_none, nil1_sl, nil1_sl', nil1_sli, nil1_bsl, nilK_cons, nilK_nil, nilK_nil', see_any, isB_any, see_int, isB_int, see_bool, isB_bool, see_str, isB_str, see_raw, isB_raw, see_arr, isB_arr, see_agg, isB_agg, see_tup, isB_tup, see_sli, isB_sli, see_sl, isB_sl, see_bp, isB_bp, see_be, isB_be, see_ip, isB_ip, see_fn, isB_fn, see_bsl, isB_bsl, seen_arr, List.foldl_nil, List.foldl_cons, Option.getD_some, Option.getD_none, if_true, if_false, reduceIte, reduceCtorEq, Nat.reduceEqDiff, Nat.reduceAdd, Nat.reduceMul, Nat.reduceLT, Nat.reduceSub, Nat.reduceLeDiff, true_and, and_true, List.map_cons, List.map_nil, List.size_toArray, List.length_cons, List.length_nil, Option.map_some, Option.map_none, Option.bind_some, true_implies, Bool.false_eq_true, Bool.true_eq_false, false_implies, Bool.not_true, Bool.not_false, List.getElem?_cons_zero, List.getElem?_cons_succ, implies_true, and_self, Bool.and_true, Bool.true_and, BEq.rfl, and_assoc, Option.isSome_some, Option.isSome_none, List.take_succ_cons, List.take_zero, List.set_cons_zero, List.set_cons_succ, List.forall_mem_cons, List.not_mem_nil, forall_const, List.range, List.range.loop, ne_eq, not_false_eq_true, not_true_eq_false, List.cons.injEq, Prod.mk.injEq, List.append_nil, List.nil_append, List.cons_append, false_and, and_false, Bool.false_and, Bool.and_false, Nat.reduceBNe, Nat.reduceBEq, beq_self_eq_true, bne_self_eq_false, Nat.reduceBeqDiff, Bool.or_false, Bool.false_or, Bool.or_true, Bool.true_or, size_any, isOne_any, stor_any, fits_any, strip_any, sub_any, put_any, size_int, isOne_int, stor_int, fits_int, strip_int, sub_int, put_int, size_bool, isOne_bool, stor_bool, fits_bool, strip_bool, sub_bool, put_bool, size_str, isOne_str, stor_str, fits_str, strip_str, sub_str, put_str, size_raw, isOne_raw, fits_raw, strip_raw, sub_raw, put_raw, size_arr, isOne_arr, stor_arr, fits_arr, strip_arr, sub_arr, put_arr, size_agg, isOne_agg, stor_agg, fits_agg, strip_agg, sub_agg, put_agg, isOne_tup, stor_tup, fits_tup, strip_tup, sub_tup, put_tup, size_sli, isOne_sli, stor_sli, fits_sli, strip_sli, sub_sli, put_sli, size_sl, isOne_sl, stor_sl, fits_sl, strip_sl, sub_sl, put_sl, size_bp, isOne_bp, stor_bp, fits_bp, strip_bp, sub_bp, put_bp, size_be, isOne_be, stor_be, fits_be, strip_be, sub_be, put_be, size_bsl, isOne_bsl, stor_bsl, fits_bsl, strip_bsl, sub_bsl, put_bsl, size_ip, isOne_ip, stor_ip, fits_ip, strip_ip, sub_ip, put_ip, size_fn, isOne_fn, stor_fn, fits_fn, strip_fn, sub_fn, put_fn, stor_nil, stor_nilf, stor_nili, sizes_nil, sizes_cons, subs_nil, subs_cons, puts_nil, puts_cons, strips_nil, strips_cons, ty1, ty2, ty3, ty4, ty5, ty9, ty12, ty20, ty21, ty22, ty23, ty24, ty25, ty26, ty27, ty28, ty29, ty30, ty31, ty32, ty33, ty34, ty35, ty36, ty37, ty39, ty40, ty41, ty42, ty43, ty44, ty45, ty46, ty47, ty48, ty49, ty50, ty51, ty52, ty53, ty54, ty55, ty56, ty57, ty58, ty59, ty60, ty61, ty62, ty63, ty64, ty65, ty66, ty67, ty68, ty69, ty70, ty71, ty72, ty73, ty74, ty75, ty76, ty77, ty78, ty79, ty80, ty82, ty83, ty89, ty92, ty95, gl0, Tryd.ntmps41, Tryd.results41, PF.toR, gives, givesIf, spec_told, sp_told, c_told, b_told, Int.toNat_natCast]
  refine ⟨by omega, by omega, by omega, ?_⟩
  have tb := told_val (Int.toNat 4294967296)
  have tbl := tb.2.2 10 (by decide)
  have tbv : val (toldL (Int.toNat 4294967296)) = 4294967296 := tb.2.1
  have tbs := tb.1
  refine loopI {q : Nat × List Int // q.1 ≤ r ∧ small q.2 ∧ val q.2 = (p : Int) * 4294967296 ^ q.1 ∧ q.2.length ≤ 4 + 12 * q.1} (fun q => [(6, .int .i64 (q.1.1 : Int)), (5, .sli .no .i64 q.1.2), (1, .int .i64 (r : Int))]) (fun _ => ⟨[], [], 20⟩) (fun q => r - q.1.1) ⟨(0, toldL p), by simp, tp.1, by simp [tp.2.1], by have := tp.2.2 3 (by omega); simp only; omega⟩ (fun _ => rfl) ⟨⟨wkD_eq rfl, rfl, wkD_eq rfl, rfl, wkD_eq rfl, rfl, trivial⟩, trivial, trivial⟩ ?_
  rintro ⟨⟨i, l⟩, hi, hs, hval, hlen⟩
  simp only at hi hs hval hlen
  simp (config := {dsimp := false}) only [↓a_skip, ↓a_exit, ↓a_ret, ↓a_seq, ↓a_cond, ↓a_block, ↓a_loop, ↓a_region, ↓a_draw, ↓a_region', ↓a_draw', ↓then_key, ↓with_key, ↓cond_key, ↓one_key, ↓thenQ_normal, ↓thenQ_exit, ↓thenQ_ret, ↓blockQ_normal, ↓blockQ_exit, ↓blockQ_ret, ↓aops, ↓aopsD, ↓imp_tt, ↓imp_ff, ↓imp_tf, ↓imp_ft, ↓imp_tnt, ↓imp_tnf, ↓imp_fnt, ↓imp_fnf, okD_nil, okD_u, okD_t, thenK_mk, withK_some, condK_bool, oneK_some, look, look_hit, setL, resQ, argSlots, buildSt, buildArr, intsOf, eqB, keepSl, sh_one_one, sh_one_arr, sh_one_st, sh_arr_one, sh_arr_arr, sh_arr_st, sh_st_one, sh_st_arr, sh_st_st, bin_int, bin_str, bin_bool, bin_arr, bin_agg, un_neg, un_xor, un_not, i_add, i_sub, i_mul, i_quo, i_rem, i_and, i_or, i_xor, i_andNot, i_eql, i_neq, i_lss, i_leq, i_gtr, i_geq, s_shl, s_shr, opR, okIf, ok, bad, ev, ofConst, putS, updS, S.upd, dstOk, yieldD, strBin, isShift, cellD, retQ, resD, stripO, convR, conv2R, makeR, indexR, indexAddrR, fieldAddrR, loadR, storeR, allocR, boxR, pickR, buildR, buildSliceR, lenR, nilCheckR, extractR, funcR, sliceR, appendR, callR, S.box, S.tok, TK.sh, known, tsize, destI, ownTok, srcI, isIn, isSl, isSt, appendI, appendL, bnd, aggBin, nilD, isPtr, fieldOf, sized, enumS, seeR, seeL, hasB, flat, flats, nil1_none, nil1_sl, nil1_sl', nil1_sli, nil1_bsl, nilK_cons, nilK_nil, nilK_nil', see_any, isB_any, see_int, isB_int, see_bool, isB_bool, see_str, isB_str, see_raw, isB_raw, see_arr, isB_arr, see_agg, isB_agg, see_tup, isB_tup, see_sli, isB_sli, see_sl, isB_sl, see_bp, isB_bp, see_be, isB_be, see_ip, isB_ip, see_fn, isB_fn, see_bsl, isB_bsl, seen_arr, List.foldl_nil, List.foldl_cons, Option.getD_some, Option.getD_none, if_true, if_false, reduceIte, reduceCtorEq, Nat.reduceEqDiff, Nat.reduceAdd, Nat.reduceMul, Nat.reduceLT, Nat.reduceSub, Nat.reduceLeDiff, true_and, and_true, List.map_cons, List.map_nil, List.size_toArray, List.length_cons, List.length_nil, Option.map_some, Option.map_none, Option.bind_some, true_implies, Bool.false_eq_true, Bool.true_eq_false, false_implies, Bool.not_true, Bool.not_false, List.getElem?_cons_zero, List.getElem?_cons_succ, implies_true, and_self, Bool.and_true, Bool.true_and, BEq.rfl, and_assoc, Option.isSome_some, Option.isSome_none, List.take_succ_cons, List.take_zero, List.set_cons_zero, List.set_cons_succ, List.forall_mem_cons, List.not_mem_nil, forall_const, List.range, List.range.loop, ne_eq, not_false_eq_true, not_true_eq_false, List.cons.injEq, Prod.mk.injEq, List.append_nil, List.nil_append, List.cons_append, false_and, and_false, Bool.false_and, Bool.and_false, Nat.reduceBNe, Nat.reduceBEq, beq_self_eq_true, bne_self_eq_false, Nat.reduceBeqDiff, Bool.or_false, Bool.false_or, Bool.or_true, Bool.true_or, size_any, isOne_any, stor_any, fits_any, strip_any, sub_any, put_any, size_int, isOne_int, stor_int, fits_int, strip_int, sub_int, put_int, size_bool, isOne_bool, stor_bool, fits_bool, strip_bool, sub_bool, put_bool, size_str, isOne_str, stor_str, fits_str, strip_str, sub_str, put_str, size_raw, isOne_raw, fits_raw, strip_raw, sub_raw, put_raw, size_arr, isOne_arr, stor_arr, fits_arr, strip_arr, sub_arr, put_arr, size_agg, isOne_agg, stor_agg, fits_agg, strip_agg, sub_agg, put_agg, isOne_tup, stor_tup, fits_tup, strip_tup, sub_tup, put_tup, size_sli, isOne_sli, stor_sli, fits_sli, strip_sli, sub_sli, put_sli, size_sl, isOne_sl, stor_sl, fits_sl, strip_sl, sub_sl, put_sl, size_bp, isOne_bp, stor_bp, fits_bp, strip_bp, sub_bp, put_bp, size_be, isOne_be, stor_be, fits_be, strip_be, sub_be, put_be, size_bsl, isOne_bsl, stor_bsl, fits_bsl, strip_bsl, sub_bsl, put_bsl, size_ip, isOne_ip, stor_ip, fits_ip, strip_ip, sub_ip, put_ip, size_fn, isOne_fn, stor_fn, fits_fn, strip_fn, sub_fn, put_fn, stor_nil, stor_nilf, stor_nili, sizes_nil, sizes_cons, subs_nil, subs_cons, puts_nil, puts_cons, strips_nil, strips_cons, ty1, ty2, ty3, ty4, ty5, ty9, ty12, ty20, ty21, ty22, ty23, ty24, ty25, ty26, ty27, ty28, ty29, ty30, ty31, ty32, ty33, ty34, ty35, ty36, ty37, ty39, ty40, ty41, ty42, ty43, ty44, ty45, ty46, ty47, ty48, ty49, ty50, ty51, ty52, ty53, ty54, ty55, ty56, ty57, ty58, ty59, ty60, ty61, ty62, ty63, ty64, ty65, ty66, ty67, ty68, ty69, ty70, ty71, ty72, ty73, ty74, ty75, ty76, ty77, ty78, ty79, ty80, ty82, ty83, ty89, ty92, ty95, gl0, Tryd.ntmps41, Tryd.results41, boxF, reach, getAll, posN, addN, D.ids, D.idsL, D.tks, D.tksL, ownTk, backN, enumS, zipS, BF.toR, D.ren, D.rens, renO, nodupB, List.contains_cons, List.contains_nil, Bool.or_false, Bool.or_true, Bool.false_or, Bool.true_or, List.getElem?_nil, List.append_assoc, List.cons_append, List.elem_cons, List.elem_nil, PF.toR, gives, givesIf, spec_told, sp_told, c_told, b_told, spec_times, sp_times, c_times, b_times, Int.toNat_natCast]
  refine ⟨fun h => ?_, fun h => ?_⟩
  · have h := of_decide_eq_true h
    have tf := times_facts hs tbs
    refine ⟨by decide, by decide, by decide, hs, tbs, by omega, by omega, ⟨(i + 1, digs (val l * val (toldL (Int.toNat 4294967296))).toNat (l.length + (toldL (Int.toNat 4294967296)).length + 1)), by simp only; omega, tf.1, by simp only; rw [tf.2, tbv, hval, Int.mul_assoc, ← Int.pow_succ], by simp only [digs_len]; omega⟩, ⟨⟨wkD_eq ?_, rfl, wkD_eq rfl, rfl, wkD_eq rfl, rfl, trivial⟩, trivial, trivial⟩, by (try simp only); omega⟩
    exact some_i64 (by (try simp only); omega)
  have h := of_decide_eq_false h
  obtain rfl : i = r := by omega
  have hL : val l = (p : Int) * 4294967296 ^ i := hval
  refine loopI {q : Nat × Nat // q.1 ≤ 37 ∧ q.2 + 2 ^ q.1 ≤ 137438953472 ∧ bis (val l) i q.1 q.2 = bis (val l) i 37 0} (fun q => [(7, .int .u64 (q.1.2 : Int)), (8, .int .u64 ((q.1.2 + 2 ^ q.1.1 : Nat) : Int)), (5, .sli .no .i64 l), (1, .int .i64 (i : Int))]) (fun _ => ⟨[], [], 40⟩) (fun q => q.1.1) ⟨(37, 0), by simp, by simp, rfl⟩ (fun _ => rfl) ⟨⟨wkD_eq rfl, rfl, wkD_eq ?_, rfl, wkD_eq rfl, rfl, wkD_eq rfl, rfl, trivial⟩, trivial, trivial⟩ ?_
  · exact congrArg (fun x : Int => some (D.int .u64 x)) (by simp only; omega)
  rintro ⟨⟨k, lo⟩, hk, hhi, hbis⟩
  simp only at hk hhi hbis
  have hpk : 0 < 2 ^ k := Nat.pow_pos (by decide)
  have e1 : IntKind.wrap .u64 (((lo + 2 ^ k : Nat) : Int) - (lo : Int)) = ((2 ^ k : Nat) : Int) := by rw [IntKind.wrap_u64]; omega
  simp (config := {dsimp := false}) only [↓a_skip, ↓a_exit, ↓a_ret, ↓a_seq, ↓a_cond, ↓a_block, ↓a_loop, ↓a_region, ↓a_draw, ↓a_region', ↓a_draw', ↓then_key, ↓with_key, ↓cond_key, ↓one_key, ↓thenQ_normal, ↓thenQ_exit, ↓thenQ_ret, ↓blockQ_normal, ↓blockQ_exit, ↓blockQ_ret, ↓aops, ↓aopsD, ↓imp_tt, ↓imp_ff, ↓imp_tf, ↓imp_ft, ↓imp_tnt, ↓imp_tnf, ↓imp_fnt, ↓imp_fnf, okD_nil, okD_u, okD_t, thenK_mk, withK_some, condK_bool, oneK_some, look, look_hit, setL, resQ, argSlots, buildSt, buildArr, intsOf, eqB, keepSl, sh_one_one, sh_one_arr, sh_one_st, sh_arr_one, sh_arr_arr, sh_arr_st, sh_st_one, sh_st_arr, sh_st_st, bin_int, bin_str, bin_bool, bin_arr, bin_agg, un_neg, un_xor, un_not, i_add, i_sub, i_mul, i_quo, i_rem, i_and, i_or, i_xor, i_andNot, i_eql, i_neq, i_lss, i_leq, i_gtr, i_geq, s_shl, s_shr, opR, okIf, ok, bad, ev, ofConst, putS, updS, S.upd, dstOk, yieldD, strBin, isShift, cellD, retQ, resD, stripO, convR, conv2R, makeR, indexR, indexAddrR, fieldAddrR, loadR, storeR, allocR, boxR, pickR, buildR, buildSliceR, lenR, nilCheckR, extractR, funcR, sliceR, appendR, callR, S.box, S.tok, TK.sh, known, tsize, destI, ownTok, srcI, isIn, isSl, isSt, appendI, appendL, bnd, aggBin, nilD, isPtr, fieldOf, sized, enumS, seeR, seeL, hasB, flat, flats, nil1_none, nil1_sl, nil1_sl', nil1_sli, nil1_bsl, nilK_cons, nilK_nil, nilK_nil', see_any, isB_any, see_int, isB_int, see_bool, isB_bool, see_str, isB_str, see_raw, isB_raw, see_arr, isB_arr, see_agg, isB_agg, see_tup, isB_tup, see_sli, isB_sli, see_sl, isB_sl, see_bp, isB_bp, see_be, isB_be, see_ip, isB_ip, see_fn, isB_fn, see_bsl, isB_bsl, seen_arr, List.foldl_nil, List.foldl_cons, Option.getD_some, Option.getD_none, if_true, if_false, reduceIte, reduceCtorEq, Nat.reduceEqDiff, Nat.reduceAdd, Nat.reduceMul, Nat.reduceLT, Nat.reduceSub, Nat.reduceLeDiff, true_and, and_true, List.map_cons, List.map_nil, List.size_toArray, List.length_cons, List.length_nil, Option.map_some, Option.map_none, Option.bind_some, true_implies, Bool.false_eq_true, Bool.true_eq_false, false_implies, Bool.not_true, Bool.not_false, List.getElem?_cons_zero, List.getElem?_cons_succ, implies_true, and_self, Bool.and_true, Bool.true_and, BEq.rfl, and_assoc, Option.isSome_some, Option.isSome_none, List.take_succ_cons, List.take_zero, List.set_cons_zero, List.set_cons_succ, List.forall_mem_cons, List.not_mem_nil, forall_const, List.range, List.range.loop, ne_eq, not_false_eq_true, not_true_eq_false, List.cons.injEq, Prod.mk.injEq, List.append_nil, List.nil_append, List.cons_append, false_and, and_false, Bool.false_and, Bool.and_false, Nat.reduceBNe, Nat.reduceBEq, beq_self_eq_true, bne_self_eq_false, Nat.reduceBeqDiff, Bool.or_false, Bool.false_or, Bool.or_true, Bool.true_or, size_any, isOne_any, stor_any, fits_any, strip_any, sub_any, put_any, size_int, isOne_int, stor_int, fits_int, strip_int, sub_int, put_int, size_bool, isOne_bool, stor_bool, fits_bool, strip_bool, sub_bool, put_bool, size_str, isOne_str, stor_str, fits_str, strip_str, sub_str, put_str, size_raw, isOne_raw, fits_raw, strip_raw, sub_raw, put_raw, size_arr, isOne_arr, stor_arr, fits_arr, strip_arr, sub_arr, put_arr, size_agg, isOne_agg, stor_agg, fits_agg, strip_agg, sub_agg, put_agg, isOne_tup, stor_tup, fits_tup, strip_tup, sub_tup, put_tup, size_sli, isOne_sli, stor_sli, fits_sli, strip_sli, sub_sli, put_sli, size_sl, isOne_sl, stor_sl, fits_sl, strip_sl, sub_sl, put_sl, size_bp, isOne_bp, stor_bp, fits_bp, strip_bp, sub_bp, put_bp, size_be, isOne_be, stor_be, fits_be, strip_be, sub_be, put_be, size_bsl, isOne_bsl, stor_bsl, fits_bsl, strip_bsl, sub_bsl, put_bsl, size_ip, isOne_ip, stor_ip, fits_ip, strip_ip, sub_ip, put_ip, size_fn, isOne_fn, stor_fn, fits_fn, strip_fn, sub_fn, put_fn, stor_nil, stor_nilf, stor_nili, sizes_nil, sizes_cons, subs_nil, subs_cons, puts_nil, puts_cons, strips_nil, strips_cons, ty1, ty2, ty3, ty4, ty5, ty9, ty12, ty20, ty21, ty22, ty23, ty24, ty25, ty26, ty27, ty28, ty29, ty30, ty31, ty32, ty33, ty34, ty35, ty36, ty37, ty39, ty40, ty41, ty42, ty43, ty44, ty45, ty46, ty47, ty48, ty49, ty50, ty51, ty52, ty53, ty54, ty55, ty56, ty57, ty58, ty59, ty60, ty61, ty62, ty63, ty64, ty65, ty66, ty67, ty68, ty69, ty70, ty71, ty72, ty73, ty74, ty75, ty76, ty77, ty78, ty79, ty80, ty82, ty83, ty89, ty92, ty95, gl0, Tryd.ntmps41, Tryd.results41, e1]
  refine ⟨fun h => ?_, fun h => ?_⟩
  · have h := of_decide_eq_true h
    obtain ⟨k, rfl⟩ : ∃ j, k = j + 1 := by
      cases k with
      | zero => simp at h
      | succ k => exact ⟨k, rfl⟩
    have hp2 : 0 < 2 ^ k := Nat.pow_pos (by decide)
    have hp1 : 2 ^ (k + 1) = 2 ^ k * 2 := Nat.pow_succ ..
    have e2 : IntKind.wrap .u64 ((IntKind.wrap .u64 ((lo : Int) + ((lo + 2 ^ (k + 1) : Nat) : Int))).tdiv 2) = ((lo + 2 ^ k : Nat) : Int) := by
      rw [IntKind.wrap_u64, IntKind.wrap_u64, Int.tdiv_eq_ediv_of_nonneg (by omega)]
      omega
    have t1 := told_val (Int.toNat 1)
    have tm := told_val (lo + 2 ^ k)
    have tml := tm.2.2 12 (by omega)
    have hmne : ((lo + 2 ^ k : Nat) : Int) ≠ 0 := by omega
    simp (config := {dsimp := false}) only [↓a_skip, ↓a_exit, ↓a_ret, ↓a_seq, ↓a_cond, ↓a_block, ↓a_loop, ↓a_region, ↓a_draw, ↓a_region', ↓a_draw', ↓then_key, ↓with_key, ↓cond_key, ↓one_key, ↓thenQ_normal, ↓thenQ_exit, ↓thenQ_ret, ↓blockQ_normal, ↓blockQ_exit, ↓blockQ_ret, ↓aops, ↓aopsD, ↓imp_tt, ↓imp_ff, ↓imp_tf, ↓imp_ft, ↓imp_tnt, ↓imp_tnf, ↓imp_fnt, ↓imp_fnf, okD_nil, okD_u, okD_t, thenK_mk, withK_some, condK_bool, oneK_some, look, look_hit, setL, resQ, argSlots, buildSt, buildArr, intsOf, eqB, keepSl, sh_one_one, sh_one_arr, sh_one_st, sh_arr_one, sh_arr_arr, sh_arr_st, sh_st_one, sh_st_arr, sh_st_st, bin_int, bin_str, bin_bool, bin_arr, bin_agg, un_neg, un_xor, un_not, i_add, i_sub, i_mul, i_quo, i_rem, i_and, i_or, i_xor, i_andNot, i_eql, i_neq, i_lss, i_leq, i_gtr, i_geq, s_shl, s_shr, opR, okIf, ok, bad, ev, ofConst, putS, updS, S.upd, dstOk, yieldD, strBin, isShift, cellD, retQ, resD, stripO, convR, conv2R, makeR, indexR, indexAddrR, fieldAddrR, loadR, storeR, allocR, boxR, pickR, buildR, buildSliceR, lenR, nilCheckR, extractR, funcR, sliceR, appendR, callR, S.box, S.tok, TK.sh, known, tsize, destI, ownTok, srcI, isIn, isSl, isSt, appendI, appendL, bnd, aggBin, nilD, isPtr, fieldOf, sized, enumS, seeR, seeL, hasB, flat, flats, nil1_none, nil1_sl, nil1_sl', nil1_sli, nil1_bsl, nilK_cons, nilK_nil, nilK_nil', see_any, isB_any, see_int, isB_int, see_bool, isB_bool, see_str, isB_str, see_raw, isB_raw, see_arr, isB_arr, see_agg, isB_agg, see_tup, isB_tup, see_sli, isB_sli, see_sl, isB_sl, see_bp, isB_bp, see_be, isB_be, see_ip, isB_ip, see_fn, isB_fn, see_bsl, isB_bsl, seen_arr, List.foldl_nil, List.foldl_cons, Option.getD_some, Option.getD_none, if_true, if_false, reduceIte, reduceCtorEq, Nat.reduceEqDiff, Nat.reduceAdd, Nat.reduceMul, Nat.reduceLT, Nat.reduceSub, Nat.reduceLeDiff, true_and, and_true, List.map_cons, List.map_nil, List.size_toArray, List.length_cons, List.length_nil, Option.map_some, Option.map_none, Option.bind_some, true_implies, Bool.false_eq_true, Bool.true_eq_false, false_implies, Bool.not_true, Bool.not_false, List.getElem?_cons_zero, List.getElem?_cons_succ, implies_true, and_self, Bool.and_true, Bool.true_and, BEq.rfl, and_assoc, Option.isSome_some, Option.isSome_none, List.take_succ_cons, List.take_zero, List.set_cons_zero, List.set_cons_succ, List.forall_mem_cons, List.not_mem_nil, forall_const, List.range, List.range.loop, ne_eq, not_false_eq_true, not_true_eq_false, List.cons.injEq, Prod.mk.injEq, List.append_nil, List.nil_append, List.cons_append, false_and, and_false, Bool.false_and, Bool.and_false, Nat.reduceBNe, Nat.reduceBEq, beq_self_eq_true, bne_self_eq_false, Nat.reduceBeqDiff, Bool.or_false, Bool.false_or, Bool.or_true, Bool.true_or, size_any, isOne_any, stor_any, fits_any, strip_any, sub_any, put_any, size_int, isOne_int, stor_int, fits_int, strip_int, sub_int, put_int, size_bool, isOne_bool, stor_bool, fits_bool, strip_bool, sub_bool, put_bool, size_str, isOne_str, stor_str, fits_str, strip_str, sub_str, put_str, size_raw, isOne_raw, fits_raw, strip_raw, sub_raw, put_raw, size_arr, isOne_arr, stor_arr, fits_arr, strip_arr, sub_arr, put_arr, size_agg, isOne_agg, stor_agg, fits_agg, strip_agg, sub_agg, put_agg, isOne_tup, stor_tup, fits_tup, strip_tup, sub_tup, put_tup, size_sli, isOne_sli, stor_sli, fits_sli, strip_sli, sub_sli, put_sli, size_sl, isOne_sl, stor_sl, fits_sl, strip_sl, sub_sl, put_sl, size_bp, isOne_bp, stor_bp, fits_bp, strip_bp, sub_bp, put_bp, size_be, isOne_be, stor_be, fits_be, strip_be, sub_be, put_be, size_bsl, isOne_bsl, stor_bsl, fits_bsl, strip_bsl, sub_bsl, put_bsl, size_ip, isOne_ip, stor_ip, fits_ip, strip_ip, sub_ip, put_ip, size_fn, isOne_fn, stor_fn, fits_fn, strip_fn, sub_fn, put_fn, stor_nil, stor_nilf, stor_nili, sizes_nil, sizes_cons, subs_nil, subs_cons, puts_nil, puts_cons, strips_nil, strips_cons, ty1, ty2, ty3, ty4, ty5, ty9, ty12, ty20, ty21, ty22, ty23, ty24, ty25, ty26, ty27, ty28, ty29, ty30, ty31, ty32, ty33, ty34, ty35, ty36, ty37, ty39, ty40, ty41, ty42, ty43, ty44, ty45, ty46, ty47, ty48, ty49, ty50, ty51, ty52, ty53, ty54, ty55, ty56, ty57, ty58, ty59, ty60, ty61, ty62, ty63, ty64, ty65, ty66, ty67, ty68, ty69, ty70, ty71, ty72, ty73, ty74, ty75, ty76, ty77, ty78, ty79, ty80, ty82, ty83, ty89, ty92, ty95, gl0, Tryd.ntmps41, Tryd.results41, PF.toR, gives, givesIf, e2, spec_told, sp_told, c_told, b_told, Int.toNat_natCast]
    refine ⟨by decide, by decide, by decide, by decide, ?_⟩
    generalize hmid : lo + 2 ^ k = mid at e2 tm tml hmne
    refine loopI {q : Nat × List Int // q.1 ≤ i ∧ small q.2 ∧ val q.2 = (mid : Int) ^ q.1 ∧ q.2.length ≤ 1 + 14 * q.1} (fun q => [(11, .int .i64 (q.1.1 : Int)), (10, .sli .no .i64 q.1.2), (9, .int .u64 (mid : Int)), (7, .int .u64 (lo : Int)), (8, .int .u64 ((lo + 2 ^ (k + 1) : Nat) : Int)), (5, .sli .no .i64 l), (1, .int .i64 (i : Int))]) (fun _ => ⟨[], [], 88⟩) (fun q => i - q.1.1) ⟨(0, toldL (Int.toNat 1)), by simp, t1.1, by show val (toldL (Int.toNat 1)) = (mid : Int) ^ 0; rw [t1.2.1]; rfl, by have := t1.2.2 1 (by decide); simp only; omega⟩ (fun _ => rfl) ⟨⟨wkD_eq rfl, rfl, wkD_eq rfl, rfl, wkD_eq rfl, rfl, wkD_eq rfl, rfl, wkD_eq rfl, rfl, wkD_eq rfl, rfl, wkD_eq rfl, rfl, trivial⟩, trivial, trivial⟩ ?_
    rintro ⟨⟨j, w⟩, hj, hws, hwv, hwl⟩
    simp only at hj hws hwv hwl
    simp (config := {dsimp := false}) only [↓a_skip, ↓a_exit, ↓a_ret, ↓a_seq, ↓a_cond, ↓a_block, ↓a_loop, ↓a_region, ↓a_draw, ↓a_region', ↓a_draw', ↓then_key, ↓with_key, ↓cond_key, ↓one_key, ↓thenQ_normal, ↓thenQ_exit, ↓thenQ_ret, ↓blockQ_normal, ↓blockQ_exit, ↓blockQ_ret, ↓aops, ↓aopsD, ↓imp_tt, ↓imp_ff, ↓imp_tf, ↓imp_ft, ↓imp_tnt, ↓imp_tnf, ↓imp_fnt, ↓imp_fnf, okD_nil, okD_u, okD_t, thenK_mk, withK_some, condK_bool, oneK_some, look, look_hit, setL, resQ, argSlots, buildSt, buildArr, intsOf, eqB, keepSl, sh_one_one, sh_one_arr, sh_one_st, sh_arr_one, sh_arr_arr, sh_arr_st, sh_st_one, sh_st_arr, sh_st_st, bin_int, bin_str, bin_bool, bin_arr, bin_agg, un_neg, un_xor, un_not, i_add, i_sub, i_mul, i_quo, i_rem, i_and, i_or, i_xor, i_andNot, i_eql, i_neq, i_lss, i_leq, i_gtr, i_geq, s_shl, s_shr, opR, okIf, ok, bad, ev, ofConst, putS, updS, S.upd, dstOk, yieldD, strBin, isShift, cellD, retQ, resD, stripO, convR, conv2R, makeR, indexR, indexAddrR, fieldAddrR, loadR, storeR, allocR, boxR, pickR, buildR, buildSliceR, lenR, nilCheckR, extractR, funcR, sliceR, appendR, callR, S.box, S.tok, TK.sh, known, tsize, destI, ownTok, srcI, isIn, isSl, isSt, appendI, appendL, bnd, aggBin, nilD, isPtr, fieldOf, sized, enumS, seeR, seeL, hasB, flat, flats, nil1_none, nil1_sl, nil1_sl', nil1_sli, nil1_bsl, nilK_cons, nilK_nil, nilK_nil', see_any, isB_any, see_int, isB_int, see_bool, isB_bool, see_str, isB_str, see_raw, isB_raw, see_arr, isB_arr, see_agg, isB_agg, see_tup, isB_tup, see_sli, isB_sli, see_sl, isB_sl, see_bp, isB_bp, see_be, isB_be, see_ip, isB_ip, see_fn, isB_fn, see_bsl, isB_bsl, seen_arr, List.foldl_nil, List.foldl_cons, Option.getD_some, Option.getD_none, if_true, if_false, reduceIte, reduceCtorEq, Nat.reduceEqDiff, Nat.reduceAdd, Nat.reduceMul, Nat.reduceLT, Nat.reduceSub, Nat.reduceLeDiff, true_and, and_true, List.map_cons, List.map_nil, List.size_toArray, List.length_cons, List.length_nil, Option.map_some, Option.map_none, Option.bind_some, true_implies, Bool.false_eq_true, Bool.true_eq_false, false_implies, Bool.not_true, Bool.not_false, List.getElem?_cons_zero, List.getElem?_cons_succ, implies_true, and_self, Bool.and_true, Bool.true_and, BEq.rfl, and_assoc, Option.isSome_some, Option.isSome_none, List.take_succ_cons, List.take_zero, List.set_cons_zero, List.set_cons_succ, List.forall_mem_cons, List.not_mem_nil, forall_const, List.range, List.range.loop, ne_eq, not_false_eq_true, not_true_eq_false, List.cons.injEq, Prod.mk.injEq, List.append_nil, List.nil_append, List.cons_append, false_and, and_false, Bool.false_and, Bool.and_false, Nat.reduceBNe, Nat.reduceBEq, beq_self_eq_true, bne_self_eq_false, Nat.reduceBeqDiff, Bool.or_false, Bool.false_or, Bool.or_true, Bool.true_or, size_any, isOne_any, stor_any, fits_any, strip_any, sub_any, put_any, size_int, isOne_int, stor_int, fits_int, strip_int, sub_int, put_int, size_bool, isOne_bool, stor_bool, fits_bool, strip_bool, sub_bool, put_bool, size_str, isOne_str, stor_str, fits_str, strip_str, sub_str, put_str, size_raw, isOne_raw, fits_raw, strip_raw, sub_raw, put_raw, size_arr, isOne_arr, stor_arr, fits_arr, strip_arr, sub_arr, put_arr, size_agg, isOne_agg, stor_agg, fits_agg, strip_agg, sub_agg, put_agg, isOne_tup, stor_tup, fits_tup, strip_tup, sub_tup, put_tup, size_sli, isOne_sli, stor_sli, fits_sli, strip_sli, sub_sli, put_sli, size_sl, isOne_sl, stor_sl, fits_sl, strip_sl, sub_sl, put_sl, size_bp, isOne_bp, stor_bp, fits_bp, strip_bp, sub_bp, put_bp, size_be, isOne_be, stor_be, fits_be, strip_be, sub_be, put_be, size_bsl, isOne_bsl, stor_bsl, fits_bsl, strip_bsl, sub_bsl, put_bsl, size_ip, isOne_ip, stor_ip, fits_ip, strip_ip, sub_ip, put_ip, size_fn, isOne_fn, stor_fn, fits_fn, strip_fn, sub_fn, put_fn, stor_nil, stor_nilf, stor_nili, sizes_nil, sizes_cons, subs_nil, subs_cons, puts_nil, puts_cons, strips_nil, strips_cons, ty1, ty2, ty3, ty4, ty5, ty9, ty12, ty20, ty21, ty22, ty23, ty24, ty25, ty26, ty27, ty28, ty29, ty30, ty31, ty32, ty33, ty34, ty35, ty36, ty37, ty39, ty40, ty41, ty42, ty43, ty44, ty45, ty46, ty47, ty48, ty49, ty50, ty51, ty52, ty53, ty54, ty55, ty56, ty57, ty58, ty59, ty60, ty61, ty62, ty63, ty64, ty65, ty66, ty67, ty68, ty69, ty70, ty71, ty72, ty73, ty74, ty75, ty76, ty77, ty78, ty79, ty80, ty82, ty83, ty89, ty92, ty95, gl0, Tryd.ntmps41, Tryd.results41, boxF, reach, getAll, posN, addN, D.ids, D.idsL, D.tks, D.tksL, ownTk, backN, enumS, zipS, BF.toR, D.ren, D.rens, renO, nodupB, List.contains_cons, List.contains_nil, Bool.or_false, Bool.or_true, Bool.false_or, Bool.true_or, List.getElem?_nil, List.append_assoc, List.cons_append, List.elem_cons, List.elem_nil, PF.toR, gives, givesIf, hmne, spec_told, sp_told, c_told, b_told, spec_times, sp_times, c_times, b_times, Int.toNat_natCast]
    refine ⟨fun h => ?_, fun h => ?_⟩
    · have h := of_decide_eq_true h
      have tf := times_facts hws tm.1
      refine ⟨by omega, by omega, hws, tm.1, by omega, by omega, ⟨(j + 1, digs (val w * val (toldL mid)).toNat (w.length + (toldL mid).length + 1)), by simp only; omega, tf.1, by simp only; rw [tf.2, tm.2.1, hwv, ← Int.pow_succ], by simp only [digs_len]; omega⟩, ⟨⟨wkD_eq ?_, rfl, wkD_eq rfl, rfl, wkD_eq rfl, rfl, wkD_eq rfl, rfl, wkD_eq rfl, rfl, wkD_eq rfl, rfl, wkD_eq rfl, rfl, trivial⟩, trivial, trivial⟩, by (try simp only); omega⟩
      exact some_i64 (by (try simp only); omega)
    · have h := of_decide_eq_false h
      obtain rfl : j = i := by omega
      simp (config := {dsimp := false}) only [↓a_skip, ↓a_exit, ↓a_ret, ↓a_seq, ↓a_cond, ↓a_block, ↓a_loop, ↓a_region, ↓a_draw, ↓a_region', ↓a_draw', ↓then_key, ↓with_key, ↓cond_key, ↓one_key, ↓thenQ_normal, ↓thenQ_exit, ↓thenQ_ret, ↓blockQ_normal, ↓blockQ_exit, ↓blockQ_ret, ↓aops, ↓aopsD, ↓imp_tt, ↓imp_ff, ↓imp_tf, ↓imp_ft, ↓imp_tnt, ↓imp_tnf, ↓imp_fnt, ↓imp_fnf, okD_nil, okD_u, okD_t, thenK_mk, withK_some, condK_bool, oneK_some, look, look_hit, setL, resQ, argSlots, buildSt, buildArr, intsOf, eqB, keepSl, sh_one_one, sh_one_arr, sh_one_st, sh_arr_one, sh_arr_arr, sh_arr_st, sh_st_one, sh_st_arr, sh_st_st, bin_int, bin_str, bin_bool, bin_arr, bin_agg, un_neg, un_xor, un_not, i_add, i_sub, i_mul, i_quo, i_rem, i_and, i_or, i_xor, i_andNot, i_eql, i_neq, i_lss, i_leq, i_gtr, i_geq, s_shl, s_shr, opR, okIf, ok, bad, ev, ofConst, putS, updS, S.upd, dstOk, yieldD, strBin, isShift, cellD, retQ, resD, stripO, convR, conv2R, makeR, indexR, indexAddrR, fieldAddrR, loadR, storeR, allocR, boxR, pickR, buildR, buildSliceR, lenR, nilCheckR, extractR, funcR, sliceR, appendR, callR, S.box, S.tok, TK.sh, known, tsize, destI, ownTok, srcI, isIn, isSl, isSt, appendI, appendL, bnd, aggBin, nilD, isPtr, fieldOf, sized, enumS, seeR, seeL, hasB, flat, flats, nil1_none, nil1_sl, nil1_sl', nil1_sli, nil1_bsl, nilK_cons, nilK_nil, nilK_nil', see_any, isB_any, see_int, isB_int, see_bool, isB_bool, see_str, isB_str, see_raw, isB_raw, see_arr, isB_arr, see_agg, isB_agg, see_tup, isB_tup, see_sli, isB_sli, see_sl, isB_sl, see_bp, isB_bp, see_be, isB_be, see_ip, isB_ip, see_fn, isB_fn, see_bsl, isB_bsl, seen_arr, List.foldl_nil, List.foldl_cons, Option.getD_some, Option.getD_none, if_true, if_false, reduceIte, reduceCtorEq, Nat.reduceEqDiff, Nat.reduceAdd, Nat.reduceMul, Nat.reduceLT, Nat.reduceSub, Nat.reduceLeDiff, true_and, and_true, List.map_cons, List.map_nil, List.size_toArray, List.length_cons, List.length_nil, Option.map_some, Option.map_none, Option.bind_some, true_implies, Bool.false_eq_true, Bool.true_eq_false, false_implies, Bool.not_true, Bool.not_false, List.getElem?_cons_zero, List.getElem?_cons_succ, implies_true, and_self, Bool.and_true, Bool.true_and, BEq.rfl, and_assoc, Option.isSome_some, Option.isSome_none, List.take_succ_cons, List.take_zero, List.set_cons_zero, List.set_cons_succ, List.forall_mem_cons, List.not_mem_nil, forall_const, List.range, List.range.loop, ne_eq, not_false_eq_true, not_true_eq_false, List.cons.injEq, Prod.mk.injEq, List.append_nil, List.nil_append, List.cons_append, false_and, and_false, Bool.false_and, Bool.and_false, Nat.reduceBNe, Nat.reduceBEq, beq_self_eq_true, bne_self_eq_false, Nat.reduceBeqDiff, Bool.or_false, Bool.false_or, Bool.or_true, Bool.true_or, size_any, isOne_any, stor_any, fits_any, strip_any, sub_any, put_any, size_int, isOne_int, stor_int, fits_int, strip_int, sub_int, put_int, size_bool, isOne_bool, stor_bool, fits_bool, strip_bool, sub_bool, put_bool, size_str, isOne_str, stor_str, fits_str, strip_str, sub_str, put_str, size_raw, isOne_raw, fits_raw, strip_raw, sub_raw, put_raw, size_arr, isOne_arr, stor_arr, fits_arr, strip_arr, sub_arr, put_arr, size_agg, isOne_agg, stor_agg, fits_agg, strip_agg, sub_agg, put_agg, isOne_tup, stor_tup, fits_tup, strip_tup, sub_tup, put_tup, size_sli, isOne_sli, stor_sli, fits_sli, strip_sli, sub_sli, put_sli, size_sl, isOne_sl, stor_sl, fits_sl, strip_sl, sub_sl, put_sl, size_bp, isOne_bp, stor_bp, fits_bp, strip_bp, sub_bp, put_bp, size_be, isOne_be, stor_be, fits_be, strip_be, sub_be, put_be, size_bsl, isOne_bsl, stor_bsl, fits_bsl, strip_bsl, sub_bsl, put_bsl, size_ip, isOne_ip, stor_ip, fits_ip, strip_ip, sub_ip, put_ip, size_fn, isOne_fn, stor_fn, fits_fn, strip_fn, sub_fn, put_fn, stor_nil, stor_nilf, stor_nili, sizes_nil, sizes_cons, subs_nil, subs_cons, puts_nil, puts_cons, strips_nil, strips_cons, ty1, ty2, ty3, ty4, ty5, ty9, ty12, ty20, ty21, ty22, ty23, ty24, ty25, ty26, ty27, ty28, ty29, ty30, ty31, ty32, ty33, ty34, ty35, ty36, ty37, ty39, ty40, ty41, ty42, ty43, ty44, ty45, ty46, ty47, ty48, ty49, ty50, ty51, ty52, ty53, ty54, ty55, ty56, ty57, ty58, ty59, ty60, ty61, ty62, ty63, ty64, ty65, ty66, ty67, ty68, ty69, ty70, ty71, ty72, ty73, ty74, ty75, ty76, ty77, ty78, ty79, ty80, ty82, ty83, ty89, ty92, ty95, gl0, Tryd.ntmps41, Tryd.results41, PF.toR, gives, givesIf, spec_greater, sp_greater, c_greater, b_greater]
      refine ⟨hws, hs, by omega, by omega, fun h => ?_, fun h => ?_⟩
      · have h := of_decide_eq_true h
        refine ⟨⟨(k, lo), by simp only; omega, by simp only; omega, ?_⟩, ⟨⟨wkD_eq rfl, rfl, wkD_eq ?_, rfl, wkD_eq rfl, rfl, wkD_eq rfl, rfl, trivial⟩, trivial, trivial⟩, by (try simp only); omega⟩
        · simp only
          rw [← hbis, bis, if_pos (by rw [hmid, ← hwv]; exact h)]
        · rw [hmid]
          rfl
      · have h := of_decide_eq_false h
        refine ⟨⟨(k, mid), by simp only; omega, by simp only; omega, ?_⟩, ⟨⟨wkD_eq rfl, rfl, wkD_eq ?_, rfl, wkD_eq rfl, rfl, wkD_eq rfl, rfl, trivial⟩, trivial, trivial⟩, by (try simp only); omega⟩
        · simp only
          rw [← hbis, bis, if_neg (by rw [hmid, ← hwv]; exact h), hmid]
        · exact congrArg (fun x : Int => some (D.int .u64 x)) (by simp only; omega)
  · have h := of_decide_eq_false h
    obtain rfl : k = 0 := by
      cases k with
      | zero => rfl
      | succ k => exfalso; have : 0 < 2 ^ k := Nat.pow_pos (by decide); rw [Nat.pow_succ] at h; omega
    refine ⟨by decide, ?_⟩
    rw [bis] at hbis
    change D.int _ _ = D.int _ (fracP p i)
    unfold fracP
    rw [← hL, ← hbis, Int.tmod_eq_emod_of_nonneg (by omega), IntKind.wrap_u32]
    congr 1
    omega
end Go.Vi.C1
end

section
set_option linter.unusedVariables false
set_option linter.unusedSimpArgs false
set_option maxHeartbeats 0
set_option maxRecDepth 20000
namespace Go.Vi.C1
open Go.Proofs

theorem frac_cases {many roots : Int} (h : (many = 8 ∧ roots = 2) ∨ (many = 64 ∧ roots = 3)) : ∃ n r P : Nat, many = n ∧ roots = r ∧ (r ≤ 3 ∧ 2 ≤ P ∧ P ≤ 312 ∧ n ≤ 64 ∧ 1 ≤ n) ∧ (∀ q, q < P → (primes q).length < n) ∧ (primes P).length = n ∧ fracs r P = if many = 8 then h0 else kList := by
  rcases h with ⟨rfl, rfl⟩ | ⟨rfl, rfl⟩
  · refine ⟨8, 2, 20, rfl, rfl, by decide, fun q hq => of_decide_eq_true (List.all_eq_true.1 count8 q (List.mem_range.2 hq)), ?_, fracs8⟩
    have := congrArg List.length fracs8
    simpa [fracs, h0] using this
  · refine ⟨64, 3, 312, rfl, rfl, by decide, fun q hq => of_decide_eq_true (List.all_eq_true.1 count64 q (List.mem_range.2 hq)), ?_, fracs64⟩
    have := congrArg List.length fracs64
    rw [fracs, List.length_map] at this
    exact this
theorem fracs_len (r p : Nat) : (fracs r p).length = (primes p).length := by simp [fracs]
theorem fracs_step (r p : Nat) (h : 2 ≤ p) : fracs r (p + 1) = if prB p p = true then fracs r p ++ [fracP p r] else fracs r p := by
  unfold fracs
  rw [primes]
  by_cases hp : prB p p = true
  · rw [if_pos ⟨h, hp⟩, if_pos hp]; simp
  · rw [if_neg (fun e => hp e.2), if_neg hp]
theorem c_fractions : Contract E 31 := by
  refine contract_see hE hgl (show E.P.funcs[31]? = some Tryd.f31 from Tryd.func31) rfl (p := sp_fractions) (fun _ _ _ => rfl) ?_
  intro args hv
  unfold sp_fractions at hv ⊢
  split at hv
  case h_2 => exact hv.elim
  rename_i many roots
  refine ⟨by simp, Nat.le_of_ble_eq_true rfl, ?_⟩
  simp only [givesIf] at hv
  obtain ⟨n, r, P, rfl, rfl, ⟨hr3, hP2, hP3, hn64, hn1⟩, hbelow, hlenP, hres⟩ := frac_cases hv
  have hval : (sp_fractions [D.int .i64 n, D.int .i64 r]).val = .sli .no .u32 (fracs r P) := by rw [hres]; rfl
  change awp _ _ _ (retQ _ _ (sp_fractions [D.int .i64 n, D.int .i64 r]).val) _ _
  rw [hval]
  simp (config := {dsimp := false}) only [↓a_skip, ↓a_exit, ↓a_ret, ↓a_seq, ↓a_cond, ↓a_block, ↓a_loop, ↓a_region, ↓a_draw, ↓a_region', ↓a_draw', ↓then_key, ↓with_key, ↓cond_key, ↓one_key, ↓thenQ_normal, ↓thenQ_exit, ↓thenQ_ret, ↓blockQ_normal, ↓blockQ_exit, ↓blockQ_ret, ↓aops, ↓aopsD, ↓imp_tt, ↓imp_ff, ↓imp_tf, ↓imp_ft, ↓imp_tnt, ↓imp_tnf, ↓imp_fnt, ↓imp_fnf, okD_nil, okD_u, okD_t, thenK_mk, withK_some, condK_bool, oneK_some, look, look_hit, setL, resQ, argSlots, buildSt, buildArr, intsOf, eqB, keepSl, sh_one_one, sh_one_arr, sh_one_st, sh_arr_one, sh_arr_arr, sh_arr_st, sh_st_one, sh_st_arr, sh_st_st, bin_int, bin_str, bin_bool, bin_arr, bin_agg, un_neg, un_xor, un_not, i_add, i_sub, i_mul, i_quo, i_rem, i_and, i_or, i_xor, i_andNot, i_eql, i_neq, i_lss, i_leq, i_gtr, i_geq, s_shl, s_shr, opR, okIf, ok, bad, ev, ofConst, putS, updS, S.upd, dstOk, yieldD, strBin, isShift, cellD, retQ, resD, stripO, convR, conv2R, makeR, indexR, indexAddrR, fieldAddrR, loadR, storeR, allocR, boxR, pickR, buildR, buildSliceR, lenR, nilCheckR, extractR, funcR, sliceR, appendR, callR, S.box, S.tok, TK.sh, known, tsize, destI, ownTok, srcI, isIn, isSl, isSt, appendI, appendL, bnd, aggBin, nilD, isPtr, fieldOf, sized, enumS, seeR, seeL, hasB, flat, flats, nil1_none, nil1_sl, nil1_sl', nil1_sli, nil1_bsl, nilK_cons, nilK_nil, nilK_nil', see_any, isB_any, see_int, isB_int, see_bool, isB_bool, see_str, isB_str, see_raw, isB_raw, see_arr, isB_arr, see_agg, isB_agg, see_tup, isB_tup, see_sli, isB_sli, see_sl, isB_sl, see_bp, isB_bp, see_be, isB_be, see_ip, isB_ip, see_fn, isB_fn, see_bsl, isB_bsl, seen_arr, List.foldl_nil, List.foldl_cons, Option.getD_some, Option.getD_none, if_true, if_false, reduceIte, reduceCtorEq, Nat.reduceEqDiff, Nat.reduceAdd, Nat.reduceMul, Nat.reduceLT, Nat.reduceSub, Nat.reduceLeDiff, true_and, and_true, List.map_cons, List.map_nil, List.size_toArray, List.length_cons, List.length_nil, Option.map_some, Option.map_none, Option.bind_some, true_implies, Bool.false_eq_true, Bool.true_eq_false, false_implies, Bool.not_true, Bool.not_false, List.getElem?_cons_zero, List.getElem?_cons_succ, implies_true, and_self, Bool.and_true, Bool.true_and, BEq.rfl, and_assoc, Option.isSome_some, Option.isSome_none, List.take_succ_cons, List.take_zero, List.set_cons_zero, List.set_cons_succ, List.forall_mem_cons, List.not_mem_nil, forall_const, List.range, List.range.loop, ne_eq, not_false_eq_true, not_true_eq_false, List.cons.injEq, Prod.mk.injEq, List.append_nil, List.nil_append, List.cons_append, false_and, and_false, Bool.false_and, Bool.and_false, Nat.reduceBNe, Nat.reduceBEq, beq_self_eq_true, bne_self_eq_false, Nat.reduceBeqDiff, Bool.or_false, Bool.false_or, Bool.or_true, Bool.true_or, size_any, isOne_any, stor_any, fits_any, strip_any, sub_any, put_any, size_int, isOne_int, stor_int, fits_int, strip_int, sub_int, put_int, size_bool, isOne_bool, stor_bool, fits_bool, strip_bool, sub_bool, put_bool, size_str, isOne_str, stor_str, fits_str, strip_str, sub_str, put_str, size_raw, isOne_raw, fits_raw, strip_raw, sub_raw, put_raw, size_arr, isOne_arr, stor_arr, fits_arr, strip_arr, sub_arr, put_arr, size_agg, isOne_agg, stor_agg, fits_agg, strip_agg, sub_agg, put_agg, isOne_tup, stor_tup, fits_tup, strip_tup, sub_tup, put_tup, size_sli, isOne_sli, stor_sli, fits_sli, strip_sli, sub_sli, put_sli, size_sl, isOne_sl, stor_sl, fits_sl, strip_sl, sub_sl, put_sl, size_bp, isOne_bp, stor_bp, fits_bp, strip_bp, sub_bp, put_bp, size_be, isOne_be, stor_be, fits_be, strip_be, sub_be, put_be, size_bsl, isOne_bsl, stor_bsl, fits_bsl, strip_bsl, sub_bsl, put_bsl, size_ip, isOne_ip, stor_ip, fits_ip, strip_ip, sub_ip, put_ip, size_fn, isOne_fn, stor_fn, fits_fn, strip_fn, sub_fn, put_fn, stor_nil, stor_nilf, stor_nili, sizes_nil, sizes_cons, subs_nil, subs_cons, puts_nil, puts_cons, strips_nil, strips_cons, ty1, ty2, ty3, ty4, ty5, ty9, ty12, ty20, ty21, ty22, ty23, ty24, ty25, ty26, ty27, ty28, ty29, ty30, ty31, ty32, ty33, ty34, ty35, ty36, ty37, ty39, ty40, ty41, ty42, ty43, ty44, ty45, ty46, ty47, ty48, ty49, ty50, ty51, ty52, ty53, ty54, ty55, ty56, ty57, ty58, ty59, ty60, ty61, ty62, ty63, ty64, ty65, ty66, ty67, ty68, ty69, ty70, ty71, ty72, ty73, ty74, ty75, ty76, ty77, ty78, ty79, ty80, ty82, ty83, ty89, ty92, ty95, gl0, Tryd.ntmps31, Tryd.results31, PF.toR, gives, givesIf]
  refine loopA [(5, some .u32)] ?_
  simp only [adopt, look, reduceIte, Nat.reduceEqDiff, if_false, setL, Nat.reduceAdd]
  have f2 : fracs r 2 = [] := rfl
  refine ⟨{p : Nat // 2 ≤ p ∧ p ≤ P}, fun p => [(5, .sli (.tok 12) .u32 (fracs r p.1)), (6, .int .u64 (p.1 : Int)), (0, .int .i64 (n : Int)), (1, .int .i64 (r : Int))], fun p => ⟨[], [(12, ((fracs r p.1).length, 1))], 16⟩, fun p => P - p.1, ⟨2, by decide, hP2⟩, fun _ => rfl, ⟨⟨wkD_eq rfl, rfl, wkD_eq rfl, rfl, wkD_eq rfl, rfl, wkD_eq rfl, rfl, trivial⟩, trivial, ⟨rfl, Nat.le_of_ble_eq_true rfl, trivial⟩⟩, ?_⟩
  rintro ⟨p, hp2, hpP⟩
  simp (config := {dsimp := false}) only [↓a_skip, ↓a_exit, ↓a_ret, ↓a_seq, ↓a_cond, ↓a_block, ↓a_loop, ↓a_region, ↓a_draw, ↓a_region', ↓a_draw', ↓then_key, ↓with_key, ↓cond_key, ↓one_key, ↓thenQ_normal, ↓thenQ_exit, ↓thenQ_ret, ↓blockQ_normal, ↓blockQ_exit, ↓blockQ_ret, ↓aops, ↓aopsD, ↓imp_tt, ↓imp_ff, ↓imp_tf, ↓imp_ft, ↓imp_tnt, ↓imp_tnf, ↓imp_fnt, ↓imp_fnf, okD_nil, okD_u, okD_t, thenK_mk, withK_some, condK_bool, oneK_some, look, look_hit, setL, resQ, argSlots, buildSt, buildArr, intsOf, eqB, keepSl, sh_one_one, sh_one_arr, sh_one_st, sh_arr_one, sh_arr_arr, sh_arr_st, sh_st_one, sh_st_arr, sh_st_st, bin_int, bin_str, bin_bool, bin_arr, bin_agg, un_neg, un_xor, un_not, i_add, i_sub, i_mul, i_quo, i_rem, i_and, i_or, i_xor, i_andNot, i_eql, i_neq, i_lss, i_leq, i_gtr, i_geq, s_shl, s_shr, opR, okIf, ok, bad, ev, ofConst, putS, updS, S.upd, dstOk, yieldD, strBin, isShift, cellD, retQ, resD, stripO, convR, conv2R, makeR, indexR, indexAddrR, fieldAddrR, loadR, storeR, allocR, boxR, pickR, buildR, buildSliceR, lenR, nilCheckR, extractR, funcR, sliceR, appendR, callR, S.box, S.tok, TK.sh, known, tsize, destI, ownTok, srcI, isIn, isSl, isSt, appendI, appendL, bnd, aggBin, nilD, isPtr, fieldOf, sized, enumS, seeR, seeL, hasB, flat, flats, nil1_none, nil1_sl, nil1_sl', nil1_sli, nil1_bsl, nilK_cons, nilK_nil, nilK_nil', see_any, isB_any, see_int, isB_int, see_bool, isB_bool, see_str, isB_str, see_raw, isB_raw, see_arr, isB_arr, see_agg, isB_agg, see_tup, isB_tup, see_sli, isB_sli, see_sl, isB_sl, see_bp, isB_bp, see_be, isB_be, see_ip, isB_ip, see_fn, isB_fn, see_bsl, isB_bsl, seen_arr, List.foldl_nil, List.foldl_cons, Option.getD_some, Option.getD_none, if_true, if_false, reduceIte, reduceCtorEq, Nat.reduceEqDiff, Nat.reduceAdd, Nat.reduceMul, Nat.reduceLT, Nat.reduceSub, Nat.reduceLeDiff, true_and, and_true, List.map_cons, List.map_nil, List.size_toArray, List.length_cons, List.length_nil, Option.map_some, Option.map_none, Option.bind_some, true_implies, Bool.false_eq_true, Bool.true_eq_false, false_implies, Bool.not_true, Bool.not_false, List.getElem?_cons_zero, List.getElem?_cons_succ, implies_true, and_self, Bool.and_true, Bool.true_and, BEq.rfl, and_assoc, Option.isSome_some, Option.isSome_none, List.take_succ_cons, List.take_zero, List.set_cons_zero, List.set_cons_succ, List.forall_mem_cons, List.not_mem_nil, forall_const, List.range, List.range.loop, ne_eq, not_false_eq_true, not_true_eq_false, List.cons.injEq, Prod.mk.injEq, List.append_nil, List.nil_append, List.cons_append, false_and, and_false, Bool.false_and, Bool.and_false, Nat.reduceBNe, Nat.reduceBEq, beq_self_eq_true, bne_self_eq_false, Nat.reduceBeqDiff, Bool.or_false, Bool.false_or, Bool.or_true, Bool.true_or, size_any, isOne_any, stor_any, fits_any, strip_any, sub_any, put_any, size_int, isOne_int, stor_int, fits_int, strip_int, sub_int, put_int, size_bool, isOne_bool, stor_bool, fits_bool, strip_bool, sub_bool, put_bool, size_str, isOne_str, stor_str, fits_str, strip_str, sub_str, put_str, size_raw, isOne_raw, fits_raw, strip_raw, sub_raw, put_raw, size_arr, isOne_arr, stor_arr, fits_arr, strip_arr, sub_arr, put_arr, size_agg, isOne_agg, stor_agg, fits_agg, strip_agg, sub_agg, put_agg, isOne_tup, stor_tup, fits_tup, strip_tup, sub_tup, put_tup, size_sli, isOne_sli, stor_sli, fits_sli, strip_sli, sub_sli, put_sli, size_sl, isOne_sl, stor_sl, fits_sl, strip_sl, sub_sl, put_sl, size_bp, isOne_bp, stor_bp, fits_bp, strip_bp, sub_bp, put_bp, size_be, isOne_be, stor_be, fits_be, strip_be, sub_be, put_be, size_bsl, isOne_bsl, stor_bsl, fits_bsl, strip_bsl, sub_bsl, put_bsl, size_ip, isOne_ip, stor_ip, fits_ip, strip_ip, sub_ip, put_ip, size_fn, isOne_fn, stor_fn, fits_fn, strip_fn, sub_fn, put_fn, stor_nil, stor_nilf, stor_nili, sizes_nil, sizes_cons, subs_nil, subs_cons, puts_nil, puts_cons, strips_nil, strips_cons, ty1, ty2, ty3, ty4, ty5, ty9, ty12, ty20, ty21, ty22, ty23, ty24, ty25, ty26, ty27, ty28, ty29, ty30, ty31, ty32, ty33, ty34, ty35, ty36, ty37, ty39, ty40, ty41, ty42, ty43, ty44, ty45, ty46, ty47, ty48, ty49, ty50, ty51, ty52, ty53, ty54, ty55, ty56, ty57, ty58, ty59, ty60, ty61, ty62, ty63, ty64, ty65, ty66, ty67, ty68, ty69, ty70, ty71, ty72, ty73, ty74, ty75, ty76, ty77, ty78, ty79, ty80, ty82, ty83, ty89, ty92, ty95, gl0, Tryd.ntmps31, Tryd.results31, PF.toR, gives, givesIf]
  refine ⟨fun h => ?_, fun h => ?_⟩
  · have h := of_decide_eq_true h
    have hlt : p < P := by
      rcases Nat.lt_or_ge p P with h1 | h1
      · exact h1
      · exfalso
        have e : p = P := by omega
        rw [e, fracs_len, hlenP] at h
        omega
    refine loopI {d : Nat // 2 ≤ d ∧ d ≤ p} (fun d => [(7, .bool (prB p d.1)), (8, .int .u64 (d.1 : Int)), (5, .sli (.tok 12) .u32 (fracs r p)), (6, .int .u64 (p : Int)), (0, .int .i64 (n : Int)), (1, .int .i64 (r : Int))]) (fun _ => ⟨[], [(12, ((fracs r p).length, 1))], 40⟩) (fun d => p - d.1) ⟨2, by decide, hp2⟩ (fun _ => rfl) ⟨⟨wkD_eq rfl, rfl, wkD_eq rfl, rfl, wkD_eq rfl, rfl, wkD_eq rfl, rfl, wkD_eq rfl, rfl, wkD_eq rfl, rfl, trivial⟩, trivial, ⟨rfl, Nat.le_of_ble_eq_true rfl, trivial⟩⟩ ?_
    rintro ⟨d, hd2, hdp⟩
    simp (config := {dsimp := false}) only [↓a_skip, ↓a_exit, ↓a_ret, ↓a_seq, ↓a_cond, ↓a_block, ↓a_loop, ↓a_region, ↓a_draw, ↓a_region', ↓a_draw', ↓then_key, ↓with_key, ↓cond_key, ↓one_key, ↓thenQ_normal, ↓thenQ_exit, ↓thenQ_ret, ↓blockQ_normal, ↓blockQ_exit, ↓blockQ_ret, ↓aops, ↓aopsD, ↓imp_tt, ↓imp_ff, ↓imp_tf, ↓imp_ft, ↓imp_tnt, ↓imp_tnf, ↓imp_fnt, ↓imp_fnf, okD_nil, okD_u, okD_t, thenK_mk, withK_some, condK_bool, oneK_some, look, look_hit, setL, resQ, argSlots, buildSt, buildArr, intsOf, eqB, keepSl, sh_one_one, sh_one_arr, sh_one_st, sh_arr_one, sh_arr_arr, sh_arr_st, sh_st_one, sh_st_arr, sh_st_st, bin_int, bin_str, bin_bool, bin_arr, bin_agg, un_neg, un_xor, un_not, i_add, i_sub, i_mul, i_quo, i_rem, i_and, i_or, i_xor, i_andNot, i_eql, i_neq, i_lss, i_leq, i_gtr, i_geq, s_shl, s_shr, opR, okIf, ok, bad, ev, ofConst, putS, updS, S.upd, dstOk, yieldD, strBin, isShift, cellD, retQ, resD, stripO, convR, conv2R, makeR, indexR, indexAddrR, fieldAddrR, loadR, storeR, allocR, boxR, pickR, buildR, buildSliceR, lenR, nilCheckR, extractR, funcR, sliceR, appendR, callR, S.box, S.tok, TK.sh, known, tsize, destI, ownTok, srcI, isIn, isSl, isSt, appendI, appendL, bnd, aggBin, nilD, isPtr, fieldOf, sized, enumS, seeR, seeL, hasB, flat, flats, nil1_none, nil1_sl, nil1_sl', nil1_sli, nil1_bsl, nilK_cons, nilK_nil, nilK_nil', see_any, isB_any, see_int, isB_int, see_bool, isB_bool, see_str, isB_str, see_raw, isB_raw, see_arr, isB_arr, see_agg, isB_agg, see_tup, isB_tup, see_sli, isB_sli, see_sl, isB_sl, see_bp, isB_bp, see_be, isB_be, see_ip, isB_ip, see_fn, isB_fn, see_bsl, isB_bsl, seen_arr, List.foldl_nil, List.foldl_cons, Option.getD_some, Option.getD_none, if_true, if_false, reduceIte, reduceCtorEq, Nat.reduceEqDiff, Nat.reduceAdd, Nat.reduceMul, Nat.reduceLT, Nat.reduceSub, Nat.reduceLeDiff, true_and, and_true, List.map_cons, List.map_nil, List.size_toArray, List.length_cons, List.length_nil, Option.map_some, Option.map_none, Option.bind_some, true_implies, Bool.false_eq_true, Bool.true_eq_false, false_implies, Bool.not_true, Bool.not_false, List.getElem?_cons_zero, List.getElem?_cons_succ, implies_true, and_self, Bool.and_true, Bool.true_and, BEq.rfl, and_assoc, Option.isSome_some, Option.isSome_none, List.take_succ_cons, List.take_zero, List.set_cons_zero, List.set_cons_succ, List.forall_mem_cons, List.not_mem_nil, forall_const, List.range, List.range.loop, ne_eq, not_false_eq_true, not_true_eq_false, List.cons.injEq, Prod.mk.injEq, List.append_nil, List.nil_append, List.cons_append, false_and, and_false, Bool.false_and, Bool.and_false, Nat.reduceBNe, Nat.reduceBEq, beq_self_eq_true, bne_self_eq_false, Nat.reduceBeqDiff, Bool.or_false, Bool.false_or, Bool.or_true, Bool.true_or, size_any, isOne_any, stor_any, fits_any, strip_any, sub_any, put_any, size_int, isOne_int, stor_int, fits_int, strip_int, sub_int, put_int, size_bool, isOne_bool, stor_bool, fits_bool, strip_bool, sub_bool, put_bool, size_str, isOne_str, stor_str, fits_str, strip_str, sub_str, put_str, size_raw, isOne_raw, fits_raw, strip_raw, sub_raw, put_raw, size_arr, isOne_arr, stor_arr, fits_arr, strip_arr, sub_arr, put_arr, size_agg, isOne_agg, stor_agg, fits_agg, strip_agg, sub_agg, put_agg, isOne_tup, stor_tup, fits_tup, strip_tup, sub_tup, put_tup, size_sli, isOne_sli, stor_sli, fits_sli, strip_sli, sub_sli, put_sli, size_sl, isOne_sl, stor_sl, fits_sl, strip_sl, sub_sl, put_sl, size_bp, isOne_bp, stor_bp, fits_bp, strip_bp, sub_bp, put_bp, size_be, isOne_be, stor_be, fits_be, strip_be, sub_be, put_be, size_bsl, isOne_bsl, stor_bsl, fits_bsl, strip_bsl, sub_bsl, put_bsl, size_ip, isOne_ip, stor_ip, fits_ip, strip_ip, sub_ip, put_ip, size_fn, isOne_fn, stor_fn, fits_fn, strip_fn, sub_fn, put_fn, stor_nil, stor_nilf, stor_nili, sizes_nil, sizes_cons, subs_nil, subs_cons, puts_nil, puts_cons, strips_nil, strips_cons, ty1, ty2, ty3, ty4, ty5, ty9, ty12, ty20, ty21, ty22, ty23, ty24, ty25, ty26, ty27, ty28, ty29, ty30, ty31, ty32, ty33, ty34, ty35, ty36, ty37, ty39, ty40, ty41, ty42, ty43, ty44, ty45, ty46, ty47, ty48, ty49, ty50, ty51, ty52, ty53, ty54, ty55, ty56, ty57, ty58, ty59, ty60, ty61, ty62, ty63, ty64, ty65, ty66, ty67, ty68, ty69, ty70, ty71, ty72, ty73, ty74, ty75, ty76, ty77, ty78, ty79, ty80, ty82, ty83, ty89, ty92, ty95, gl0, Tryd.ntmps31, Tryd.results31, PF.toR, gives, givesIf]
    refine ⟨fun h => ?_, fun h => ?_⟩
    · have h := of_decide_eq_true h
      have hdd : decide (d < 2) = false := decide_eq_false (by omega)
      refine ⟨fun hb => ⟨by omega, ⟨d + 1, by omega, by omega⟩, ⟨⟨wkD_eq ?_, rfl, wkD_eq ?_, rfl, wkD_eq rfl, rfl, wkD_eq rfl, rfl, wkD_eq rfl, rfl, wkD_eq rfl, rfl, trivial⟩, trivial, ⟨rfl, Nat.le_of_ble_eq_true rfl, trivial⟩⟩, by (try simp only); omega⟩, fun hb => ⟨⟨d + 1, by omega, by omega⟩, ⟨⟨wkD_eq ?_, rfl, wkD_eq ?_, rfl, wkD_eq rfl, rfl, wkD_eq rfl, rfl, wkD_eq rfl, rfl, wkD_eq rfl, rfl, trivial⟩, trivial, ⟨rfl, Nat.le_of_ble_eq_true rfl, trivial⟩⟩, by (try simp only); omega⟩⟩
      · simp only [prB, hb, hdd, Bool.true_and, Bool.false_or]
        refine congrArg (fun x => some (D.bool x)) ?_
        have e : ((p : Int).tmod (d : Int)) = ((p % d : Nat) : Int) := by rw [Int.tmod_eq_emod_of_nonneg (by omega)]; rfl
        rw [e]
        by_cases hz : p % d = 0 <;> simp [hz]
        omega
      · exact some_u64 (by (try simp only); omega)
      · simp only [prB, hb, Bool.false_and]
        rfl
      · exact some_u64 (by (try simp only); omega)
    · have h := of_decide_eq_false h
      obtain rfl : d = p := by omega
      have hst := fracs_step r d hp2
      simp (config := {dsimp := false}) only [↓a_skip, ↓a_exit, ↓a_ret, ↓a_seq, ↓a_cond, ↓a_block, ↓a_loop, ↓a_region, ↓a_draw, ↓a_region', ↓a_draw', ↓then_key, ↓with_key, ↓cond_key, ↓one_key, ↓thenQ_normal, ↓thenQ_exit, ↓thenQ_ret, ↓blockQ_normal, ↓blockQ_exit, ↓blockQ_ret, ↓aops, ↓aopsD, ↓imp_tt, ↓imp_ff, ↓imp_tf, ↓imp_ft, ↓imp_tnt, ↓imp_tnf, ↓imp_fnt, ↓imp_fnf, okD_nil, okD_u, okD_t, thenK_mk, withK_some, condK_bool, oneK_some, look, look_hit, setL, resQ, argSlots, buildSt, buildArr, intsOf, eqB, keepSl, sh_one_one, sh_one_arr, sh_one_st, sh_arr_one, sh_arr_arr, sh_arr_st, sh_st_one, sh_st_arr, sh_st_st, bin_int, bin_str, bin_bool, bin_arr, bin_agg, un_neg, un_xor, un_not, i_add, i_sub, i_mul, i_quo, i_rem, i_and, i_or, i_xor, i_andNot, i_eql, i_neq, i_lss, i_leq, i_gtr, i_geq, s_shl, s_shr, opR, okIf, ok, bad, ev, ofConst, putS, updS, S.upd, dstOk, yieldD, strBin, isShift, cellD, retQ, resD, stripO, convR, conv2R, makeR, indexR, indexAddrR, fieldAddrR, loadR, storeR, allocR, boxR, pickR, buildR, buildSliceR, lenR, nilCheckR, extractR, funcR, sliceR, appendR, callR, S.box, S.tok, TK.sh, known, tsize, destI, ownTok, srcI, isIn, isSl, isSt, appendI, appendL, bnd, aggBin, nilD, isPtr, fieldOf, sized, enumS, seeR, seeL, hasB, flat, flats, nil1_none, nil1_sl, nil1_sl', nil1_sli, nil1_bsl, nilK_cons, nilK_nil, nilK_nil', see_any, isB_any, see_int, isB_int, see_bool, isB_bool, see_str, isB_str, see_raw, isB_raw, see_arr, isB_arr, see_agg, isB_agg, see_tup, isB_tup, see_sli, isB_sli, see_sl, isB_sl, see_bp, isB_bp, see_be, isB_be, see_ip, isB_ip, see_fn, isB_fn, see_bsl, isB_bsl, seen_arr, List.foldl_nil, List.foldl_cons, Option.getD_some, Option.getD_none, if_true, if_false, reduceIte, reduceCtorEq, Nat.reduceEqDiff, Nat.reduceAdd, Nat.reduceMul, Nat.reduceLT, Nat.reduceSub, Nat.reduceLeDiff, true_and, and_true, List.map_cons, List.map_nil, List.size_toArray, List.length_cons, List.length_nil, Option.map_some, Option.map_none, Option.bind_some, true_implies, Bool.false_eq_true, Bool.true_eq_false, false_implies, Bool.not_true, Bool.not_false, List.getElem?_cons_zero, List.getElem?_cons_succ, implies_true, and_self, Bool.and_true, Bool.true_and, BEq.rfl, and_assoc, Option.isSome_some, Option.isSome_none, List.take_succ_cons, List.take_zero, List.set_cons_zero, List.set_cons_succ, List.forall_mem_cons, List.not_mem_nil, forall_const, List.range, List.range.loop, ne_eq, not_false_eq_true, not_true_eq_false, List.cons.injEq, Prod.mk.injEq, List.append_nil, List.nil_append, List.cons_append, false_and, and_false, Bool.false_and, Bool.and_false, Nat.reduceBNe, Nat.reduceBEq, beq_self_eq_true, bne_self_eq_false, Nat.reduceBeqDiff, Bool.or_false, Bool.false_or, Bool.or_true, Bool.true_or, size_any, isOne_any, stor_any, fits_any, strip_any, sub_any, put_any, size_int, isOne_int, stor_int, fits_int, strip_int, sub_int, put_int, size_bool, isOne_bool, stor_bool, fits_bool, strip_bool, sub_bool, put_bool, size_str, isOne_str, stor_str, fits_str, strip_str, sub_str, put_str, size_raw, isOne_raw, fits_raw, strip_raw, sub_raw, put_raw, size_arr, isOne_arr, stor_arr, fits_arr, strip_arr, sub_arr, put_arr, size_agg, isOne_agg, stor_agg, fits_agg, strip_agg, sub_agg, put_agg, isOne_tup, stor_tup, fits_tup, strip_tup, sub_tup, put_tup, size_sli, isOne_sli, stor_sli, fits_sli, strip_sli, sub_sli, put_sli, size_sl, isOne_sl, stor_sl, fits_sl, strip_sl, sub_sl, put_sl, size_bp, isOne_bp, stor_bp, fits_bp, strip_bp, sub_bp, put_bp, size_be, isOne_be, stor_be, fits_be, strip_be, sub_be, put_be, size_bsl, isOne_bsl, stor_bsl, fits_bsl, strip_bsl, sub_bsl, put_bsl, size_ip, isOne_ip, stor_ip, fits_ip, strip_ip, sub_ip, put_ip, size_fn, isOne_fn, stor_fn, fits_fn, strip_fn, sub_fn, put_fn, stor_nil, stor_nilf, stor_nili, sizes_nil, sizes_cons, subs_nil, subs_cons, puts_nil, puts_cons, strips_nil, strips_cons, ty1, ty2, ty3, ty4, ty5, ty9, ty12, ty20, ty21, ty22, ty23, ty24, ty25, ty26, ty27, ty28, ty29, ty30, ty31, ty32, ty33, ty34, ty35, ty36, ty37, ty39, ty40, ty41, ty42, ty43, ty44, ty45, ty46, ty47, ty48, ty49, ty50, ty51, ty52, ty53, ty54, ty55, ty56, ty57, ty58, ty59, ty60, ty61, ty62, ty63, ty64, ty65, ty66, ty67, ty68, ty69, ty70, ty71, ty72, ty73, ty74, ty75, ty76, ty77, ty78, ty79, ty80, ty82, ty83, ty89, ty92, ty95, gl0, Tryd.ntmps31, Tryd.results31, PF.toR, gives, givesIf, spec_fraction, sp_fraction, c_fraction, b_fraction, Int.toNat_natCast]
      refine ⟨fun hb => ?_, fun hb => ?_⟩
      · rw [if_pos hb] at hst
        refine ⟨by omega, by omega, by omega, by omega, by omega, ⟨d + 1, by omega, by omega⟩, ⟨⟨wkD_eq ?_, rfl, wkD_eq ?_, rfl, wkD_eq rfl, rfl, wkD_eq rfl, rfl, trivial⟩, trivial, ⟨?_, Nat.le_of_ble_eq_true rfl, trivial⟩⟩, by (try simp only); omega⟩
        · simp only [hst]; rfl
        · exact some_u64 (by (try simp only); omega)
        · simp only [hst, List.length_append]; rfl
      · rw [if_neg (by simp [hb])] at hst
        refine ⟨⟨d + 1, by omega, by omega⟩, ⟨⟨wkD_eq ?_, rfl, wkD_eq ?_, rfl, wkD_eq rfl, rfl, wkD_eq rfl, rfl, trivial⟩, trivial, ⟨?_, Nat.le_of_ble_eq_true rfl, trivial⟩⟩, by (try simp only); omega⟩
        · simp only [hst]; rfl
        · exact some_u64 (by (try simp only); omega)
        · simp only [hst]; rfl
  · have h := of_decide_eq_false h
    have hp : p = P := by
      rcases Nat.lt_or_ge p P with h1 | h1
      · exfalso
        have := hbelow p h1
        rw [fracs_len] at h
        omega
      · omega
    rw [hp]
theorem c_fractionsRight : Contract E 16 := by
  refine contract_see hE hgl (show E.P.funcs[16]? = some Tryd.f16 from Tryd.func16) rfl (p := sp_fractionsRight) (fun _ _ _ => rfl) ?_
  intro args hv
  unfold sp_fractionsRight at hv ⊢
  split at hv
  case h_2 => exact hv.elim
  refine ⟨by simp, Nat.le_of_ble_eq_true rfl, ?_⟩
  have hv : (gives (D.bool true)).val = D.bool true := rfl
  simp (config := {dsimp := false}) only [↓a_skip, ↓a_exit, ↓a_ret, ↓a_seq, ↓a_cond, ↓a_block, ↓a_loop, ↓a_region, ↓a_draw, ↓a_region', ↓a_draw', ↓then_key, ↓with_key, ↓cond_key, ↓one_key, ↓thenQ_normal, ↓thenQ_exit, ↓thenQ_ret, ↓blockQ_normal, ↓blockQ_exit, ↓blockQ_ret, ↓aops, ↓aopsD, ↓imp_tt, ↓imp_ff, ↓imp_tf, ↓imp_ft, ↓imp_tnt, ↓imp_tnf, ↓imp_fnt, ↓imp_fnf, okD_nil, okD_u, okD_t, thenK_mk, withK_some, condK_bool, oneK_some, look, look_hit, setL, resQ, argSlots, buildSt, buildArr, intsOf, eqB, keepSl, sh_one_one, sh_one_arr, sh_one_st, sh_arr_one, sh_arr_arr, sh_arr_st, sh_st_one, sh_st_arr, sh_st_st, bin_int, bin_str, bin_bool, bin_arr, bin_agg, un_neg, un_xor, un_not, i_add, i_sub, i_mul, i_quo, i_rem, i_and, i_or, i_xor, i_andNot, i_eql, i_neq, i_lss, i_leq, i_gtr, i_geq, s_shl, s_shr, opR, okIf, ok, bad, ev, ofConst, putS, updS, S.upd, dstOk, yieldD, strBin, isShift, cellD, retQ, resD, stripO, convR, conv2R, makeR, indexR, indexAddrR, fieldAddrR, loadR, storeR, allocR, boxR, pickR, buildR, buildSliceR, lenR, nilCheckR, extractR, funcR, sliceR, appendR, callR, S.box, S.tok, TK.sh, known, tsize, destI, ownTok, srcI, isIn, isSl, isSt, appendI, appendL, bnd, aggBin, nilD, isPtr, fieldOf, sized, enumS, seeR, seeL, hasB, flat, flats, nil1_none, nil1_sl, nil1_sl', nil1_sli, nil1_bsl, nilK_cons, nilK_nil, nilK_nil', see_any, isB_any, see_int, isB_int, see_bool, isB_bool, see_str, isB_str, see_raw, isB_raw, see_arr, isB_arr, see_agg, isB_agg, see_tup, isB_tup, see_sli, isB_sli, see_sl, isB_sl, see_bp, isB_bp, see_be, isB_be, see_ip, isB_ip, see_fn, isB_fn, see_bsl, isB_bsl, seen_arr, List.foldl_nil, List.foldl_cons, Option.getD_some, Option.getD_none, if_true, if_false, reduceIte, reduceCtorEq, Nat.reduceEqDiff, Nat.reduceAdd, Nat.reduceMul, Nat.reduceLT, Nat.reduceSub, Nat.reduceLeDiff, true_and, and_true, List.map_cons, List.map_nil, List.size_toArray, List.length_cons, List.length_nil, Option.map_some, Option.map_none, Option.bind_some, true_implies, Bool.false_eq_true, Bool.true_eq_false, false_implies, Bool.not_true, Bool.not_false, List.getElem?_cons_zero, List.getElem?_cons_succ, implies_true, and_self, Bool.and_true, Bool.true_and, BEq.rfl, and_assoc, Option.isSome_some, Option.isSome_none, List.take_succ_cons, List.take_zero, List.set_cons_zero, List.set_cons_succ, List.forall_mem_cons, List.not_mem_nil, forall_const, List.range, List.range.loop, ne_eq, not_false_eq_true, not_true_eq_false, List.cons.injEq, Prod.mk.injEq, List.append_nil, List.nil_append, List.cons_append, false_and, and_false, Bool.false_and, Bool.and_false, Nat.reduceBNe, Nat.reduceBEq, beq_self_eq_true, bne_self_eq_false, Nat.reduceBeqDiff, Bool.or_false, Bool.false_or, Bool.or_true, Bool.true_or, size_any, isOne_any, stor_any, fits_any, strip_any, sub_any, put_any, size_int, isOne_int, stor_int, fits_int, strip_int, sub_int, put_int, size_bool, isOne_bool, stor_bool, fits_bool, strip_bool, sub_bool, put_bool, size_str, isOne_str, stor_str, fits_str, strip_str, sub_str, put_str, size_raw, isOne_raw, fits_raw, strip_raw, sub_raw, put_raw, size_arr, isOne_arr, stor_arr, fits_arr, strip_arr, sub_arr, put_arr, size_agg, isOne_agg, stor_agg, fits_agg, strip_agg, sub_agg, put_agg, isOne_tup, stor_tup, fits_tup, strip_tup, sub_tup, put_tup, size_sli, isOne_sli, stor_sli, fits_sli, strip_sli, sub_sli, put_sli, size_sl, isOne_sl, stor_sl, fits_sl, strip_sl, sub_sl, put_sl, size_bp, isOne_bp, stor_bp, fits_bp, strip_bp, sub_bp, put_bp, size_be, isOne_be, stor_be, fits_be, strip_be, sub_be, put_be, size_bsl, isOne_bsl, stor_bsl, fits_bsl, strip_bsl, sub_bsl, put_bsl, size_ip, isOne_ip, stor_ip, fits_ip, strip_ip, sub_ip, put_ip, size_fn, isOne_fn, stor_fn, fits_fn, strip_fn, sub_fn, put_fn, stor_nil, stor_nilf, stor_nili, sizes_nil, sizes_cons, subs_nil, subs_cons, puts_nil, puts_cons, strips_nil, strips_cons, ty1, ty2, ty3, ty4, ty5, ty9, ty12, ty20, ty21, ty22, ty23, ty24, ty25, ty26, ty27, ty28, ty29, ty30, ty31, ty32, ty33, ty34, ty35, ty36, ty37, ty39, ty40, ty41, ty42, ty43, ty44, ty45, ty46, ty47, ty48, ty49, ty50, ty51, ty52, ty53, ty54, ty55, ty56, ty57, ty58, ty59, ty60, ty61, ty62, ty63, ty64, ty65, ty66, ty67, ty68, ty69, ty70, ty71, ty72, ty73, ty74, ty75, ty76, ty77, ty78, ty79, ty80, ty82, ty83, ty89, ty92, ty95, gl0, Tryd.ntmps16, Tryd.results16, PF.toR, gives, givesIf, spec_fractions, sp_fractions, c_fractions, b_fractions]
  have q8 : ((64 : Int) = 8) = False := by simp
  simp only [q8, if_false]
  refine ⟨by simp, by simp, ?_⟩
  refine loopI (Fin 65) (fun i => [(3, .int .i64 (i.1 : Int)), (2, .sli .no .u32 kList), (1, .sli .no .u32 h0)]) (fun _ => ⟨[], [], 24⟩) (fun i => 64 - i.1) 0 (fun _ => rfl) ⟨⟨wkD_eq rfl, rfl, wkD_eq rfl, rfl, wkD_eq rfl, rfl, trivial⟩, trivial, trivial⟩ ?_
  rintro ⟨i, hi⟩
  have kl : kList.length = 64 := rfl
  have hl : h0.length = 8 := rfl
  simp (config := {dsimp := false}) only [↓a_skip, ↓a_exit, ↓a_ret, ↓a_seq, ↓a_cond, ↓a_block, ↓a_loop, ↓a_region, ↓a_draw, ↓a_region', ↓a_draw', ↓then_key, ↓with_key, ↓cond_key, ↓one_key, ↓thenQ_normal, ↓thenQ_exit, ↓thenQ_ret, ↓blockQ_normal, ↓blockQ_exit, ↓blockQ_ret, ↓aops, ↓aopsD, ↓imp_tt, ↓imp_ff, ↓imp_tf, ↓imp_ft, ↓imp_tnt, ↓imp_tnf, ↓imp_fnt, ↓imp_fnf, okD_nil, okD_u, okD_t, thenK_mk, withK_some, condK_bool, oneK_some, look, look_hit, setL, resQ, argSlots, buildSt, buildArr, intsOf, eqB, keepSl, sh_one_one, sh_one_arr, sh_one_st, sh_arr_one, sh_arr_arr, sh_arr_st, sh_st_one, sh_st_arr, sh_st_st, bin_int, bin_str, bin_bool, bin_arr, bin_agg, un_neg, un_xor, un_not, i_add, i_sub, i_mul, i_quo, i_rem, i_and, i_or, i_xor, i_andNot, i_eql, i_neq, i_lss, i_leq, i_gtr, i_geq, s_shl, s_shr, opR, okIf, ok, bad, ev, ofConst, putS, updS, S.upd, dstOk, yieldD, strBin, isShift, cellD, retQ, resD, stripO, convR, conv2R, makeR, indexR, indexAddrR, fieldAddrR, loadR, storeR, allocR, boxR, pickR, buildR, buildSliceR, lenR, nilCheckR, extractR, funcR, sliceR, appendR, callR, S.box, S.tok, TK.sh, known, tsize, destI, ownTok, srcI, isIn, isSl, isSt, appendI, appendL, bnd, aggBin, nilD, isPtr, fieldOf, sized, enumS, seeR, seeL, hasB, flat, flats, nil1_none, nil1_sl, nil1_sl', nil1_sli, nil1_bsl, nilK_cons, nilK_nil, nilK_nil', see_any, isB_any, see_int, isB_int, see_bool, isB_bool, see_str, isB_str, see_raw, isB_raw, see_arr, isB_arr, see_agg, isB_agg, see_tup, isB_tup, see_sli, isB_sli, see_sl, isB_sl, see_bp, isB_bp, see_be, isB_be, see_ip, isB_ip, see_fn, isB_fn, see_bsl, isB_bsl, seen_arr, List.foldl_nil, List.foldl_cons, Option.getD_some, Option.getD_none, if_true, if_false, reduceIte, reduceCtorEq, Nat.reduceEqDiff, Nat.reduceAdd, Nat.reduceMul, Nat.reduceLT, Nat.reduceSub, Nat.reduceLeDiff, true_and, and_true, List.map_cons, List.map_nil, List.size_toArray, List.length_cons, List.length_nil, Option.map_some, Option.map_none, Option.bind_some, true_implies, Bool.false_eq_true, Bool.true_eq_false, false_implies, Bool.not_true, Bool.not_false, List.getElem?_cons_zero, List.getElem?_cons_succ, implies_true, and_self, Bool.and_true, Bool.true_and, BEq.rfl, and_assoc, Option.isSome_some, Option.isSome_none, List.take_succ_cons, List.take_zero, List.set_cons_zero, List.set_cons_succ, List.forall_mem_cons, List.not_mem_nil, forall_const, List.range, List.range.loop, ne_eq, not_false_eq_true, not_true_eq_false, List.cons.injEq, Prod.mk.injEq, List.append_nil, List.nil_append, List.cons_append, false_and, and_false, Bool.false_and, Bool.and_false, Nat.reduceBNe, Nat.reduceBEq, beq_self_eq_true, bne_self_eq_false, Nat.reduceBeqDiff, Bool.or_false, Bool.false_or, Bool.or_true, Bool.true_or, size_any, isOne_any, stor_any, fits_any, strip_any, sub_any, put_any, size_int, isOne_int, stor_int, fits_int, strip_int, sub_int, put_int, size_bool, isOne_bool, stor_bool, fits_bool, strip_bool, sub_bool, put_bool, size_str, isOne_str, stor_str, fits_str, strip_str, sub_str, put_str, size_raw, isOne_raw, fits_raw, strip_raw, sub_raw, put_raw, size_arr, isOne_arr, stor_arr, fits_arr, strip_arr, sub_arr, put_arr, size_agg, isOne_agg, stor_agg, fits_agg, strip_agg, sub_agg, put_agg, isOne_tup, stor_tup, fits_tup, strip_tup, sub_tup, put_tup, size_sli, isOne_sli, stor_sli, fits_sli, strip_sli, sub_sli, put_sli, size_sl, isOne_sl, stor_sl, fits_sl, strip_sl, sub_sl, put_sl, size_bp, isOne_bp, stor_bp, fits_bp, strip_bp, sub_bp, put_bp, size_be, isOne_be, stor_be, fits_be, strip_be, sub_be, put_be, size_bsl, isOne_bsl, stor_bsl, fits_bsl, strip_bsl, sub_bsl, put_bsl, size_ip, isOne_ip, stor_ip, fits_ip, strip_ip, sub_ip, put_ip, size_fn, isOne_fn, stor_fn, fits_fn, strip_fn, sub_fn, put_fn, stor_nil, stor_nilf, stor_nili, sizes_nil, sizes_cons, subs_nil, subs_cons, puts_nil, puts_cons, strips_nil, strips_cons, ty1, ty2, ty3, ty4, ty5, ty9, ty12, ty20, ty21, ty22, ty23, ty24, ty25, ty26, ty27, ty28, ty29, ty30, ty31, ty32, ty33, ty34, ty35, ty36, ty37, ty39, ty40, ty41, ty42, ty43, ty44, ty45, ty46, ty47, ty48, ty49, ty50, ty51, ty52, ty53, ty54, ty55, ty56, ty57, ty58, ty59, ty60, ty61, ty62, ty63, ty64, ty65, ty66, ty67, ty68, ty69, ty70, ty71, ty72, ty73, ty74, ty75, ty76, ty77, ty78, ty79, ty80, ty82, ty83, ty89, ty92, ty95, gl0, Tryd.ntmps16, Tryd.results16]
  refine ⟨fun h => ?_, fun h => rfl⟩
  have h := of_decide_eq_true h
  by_cases h8 : (i : Int) < 8
  · have d8 : decide ((i : Int) < 8) = true := decide_eq_true h8
    refine drawI [3, 2, 1] (by kernel_rfl) ?_
    simp (config := {dsimp := false}) only [↓a_skip, ↓a_exit, ↓a_ret, ↓a_seq, ↓a_cond, ↓a_block, ↓a_loop, ↓a_region, ↓a_draw, ↓a_region', ↓a_draw', ↓then_key, ↓with_key, ↓cond_key, ↓one_key, ↓thenQ_normal, ↓thenQ_exit, ↓thenQ_ret, ↓blockQ_normal, ↓blockQ_exit, ↓blockQ_ret, ↓aops, ↓aopsD, ↓imp_tt, ↓imp_ff, ↓imp_tf, ↓imp_ft, ↓imp_tnt, ↓imp_tnf, ↓imp_fnt, ↓imp_fnf, okD_nil, okD_u, okD_t, thenK_mk, withK_some, condK_bool, oneK_some, look, look_hit, setL, resQ, argSlots, buildSt, buildArr, intsOf, eqB, keepSl, sh_one_one, sh_one_arr, sh_one_st, sh_arr_one, sh_arr_arr, sh_arr_st, sh_st_one, sh_st_arr, sh_st_st, bin_int, bin_str, bin_bool, bin_arr, bin_agg, un_neg, un_xor, un_not, i_add, i_sub, i_mul, i_quo, i_rem, i_and, i_or, i_xor, i_andNot, i_eql, i_neq, i_lss, i_leq, i_gtr, i_geq, s_shl, s_shr, opR, okIf, ok, bad, ev, ofConst, putS, updS, S.upd, dstOk, yieldD, strBin, isShift, cellD, retQ, resD, stripO, convR, conv2R, makeR, indexR, indexAddrR, fieldAddrR, loadR, storeR, allocR, boxR, pickR, buildR, buildSliceR, lenR, nilCheckR, extractR, funcR, sliceR, appendR, callR, S.box, S.tok, TK.sh, known, tsize, destI, ownTok, srcI, isIn, isSl, isSt, appendI, appendL, bnd, aggBin, nilD, isPtr, fieldOf, sized, enumS, seeR, seeL, hasB, flat, flats, nil1_none, nil1_sl, nil1_sl', nil1_sli, nil1_bsl, nilK_cons, nilK_nil, nilK_nil', see_any, isB_any, see_int, isB_int, see_bool, isB_bool, see_str, isB_str, see_raw, isB_raw, see_arr, isB_arr, see_agg, isB_agg, see_tup, isB_tup, see_sli, isB_sli, see_sl, isB_sl, see_bp, isB_bp, see_be, isB_be, see_ip, isB_ip, see_fn, isB_fn, see_bsl, isB_bsl, seen_arr, List.foldl_nil, List.foldl_cons, Option.getD_some, Option.getD_none, if_true, if_false, reduceIte, reduceCtorEq, Nat.reduceEqDiff, Nat.reduceAdd, Nat.reduceMul, Nat.reduceLT, Nat.reduceSub, Nat.reduceLeDiff, true_and, and_true, List.map_cons, List.map_nil, List.size_toArray, List.length_cons, List.length_nil, Option.map_some, Option.map_none, Option.bind_some, true_implies, Bool.false_eq_true, Bool.true_eq_false, false_implies, Bool.not_true, Bool.not_false, List.getElem?_cons_zero, List.getElem?_cons_succ, implies_true, and_self, Bool.and_true, Bool.true_and, BEq.rfl, and_assoc, Option.isSome_some, Option.isSome_none, List.take_succ_cons, List.take_zero, List.set_cons_zero, List.set_cons_succ, List.forall_mem_cons, List.not_mem_nil, forall_const, List.range, List.range.loop, ne_eq, not_false_eq_true, not_true_eq_false, List.cons.injEq, Prod.mk.injEq, List.append_nil, List.nil_append, List.cons_append, false_and, and_false, Bool.false_and, Bool.and_false, Nat.reduceBNe, Nat.reduceBEq, beq_self_eq_true, bne_self_eq_false, Nat.reduceBeqDiff, Bool.or_false, Bool.false_or, Bool.or_true, Bool.true_or, size_any, isOne_any, stor_any, fits_any, strip_any, sub_any, put_any, size_int, isOne_int, stor_int, fits_int, strip_int, sub_int, put_int, size_bool, isOne_bool, stor_bool, fits_bool, strip_bool, sub_bool, put_bool, size_str, isOne_str, stor_str, fits_str, strip_str, sub_str, put_str, size_raw, isOne_raw, fits_raw, strip_raw, sub_raw, put_raw, size_arr, isOne_arr, stor_arr, fits_arr, strip_arr, sub_arr, put_arr, size_agg, isOne_agg, stor_agg, fits_agg, strip_agg, sub_agg, put_agg, isOne_tup, stor_tup, fits_tup, strip_tup, sub_tup, put_tup, size_sli, isOne_sli, stor_sli, fits_sli, strip_sli, sub_sli, put_sli, size_sl, isOne_sl, stor_sl, fits_sl, strip_sl, sub_sl, put_sl, size_bp, isOne_bp, stor_bp, fits_bp, strip_bp, sub_bp, put_bp, size_be, isOne_be, stor_be, fits_be, strip_be, sub_be, put_be, size_bsl, isOne_bsl, stor_bsl, fits_bsl, strip_bsl, sub_bsl, put_bsl, size_ip, isOne_ip, stor_ip, fits_ip, strip_ip, sub_ip, put_ip, size_fn, isOne_fn, stor_fn, fits_fn, strip_fn, sub_fn, put_fn, stor_nil, stor_nilf, stor_nili, sizes_nil, sizes_cons, subs_nil, subs_cons, puts_nil, puts_cons, strips_nil, strips_cons, ty1, ty2, ty3, ty4, ty5, ty9, ty12, ty20, ty21, ty22, ty23, ty24, ty25, ty26, ty27, ty28, ty29, ty30, ty31, ty32, ty33, ty34, ty35, ty36, ty37, ty39, ty40, ty41, ty42, ty43, ty44, ty45, ty46, ty47, ty48, ty49, ty50, ty51, ty52, ty53, ty54, ty55, ty56, ty57, ty58, ty59, ty60, ty61, ty62, ty63, ty64, ty65, ty66, ty67, ty68, ty69, ty70, ty71, ty72, ty73, ty74, ty75, ty76, ty77, ty78, ty79, ty80, ty82, ty83, ty89, ty92, ty95, gl0, Tryd.ntmps16, Tryd.results16, PF.toR, gives, givesIf, d8, eq_self, decide_true, spec_refRoundNumbers, sp_refRoundNumbers, c_refRoundNumbers, b_refRoundNumbers, spec_refFirst, sp_refFirst, c_refFirst, b_refFirst]
    refine ⟨by omega, by omega, by omega, by omega, by omega, by omega, by omega, by omega, ⟨i + 1, by omega⟩, ⟨⟨wkD_eq ?_, rfl, wkD_eq rfl, rfl, wkD_eq rfl, rfl, trivial⟩, trivial, trivial⟩, by (try simp only); omega⟩
    exact some_i64 (by (try simp only); omega)
  · have d8 : decide ((i : Int) < 8) = false := decide_eq_false h8
    refine drawI [3, 2, 1] (by kernel_rfl) ?_
    simp (config := {dsimp := false}) only [↓a_skip, ↓a_exit, ↓a_ret, ↓a_seq, ↓a_cond, ↓a_block, ↓a_loop, ↓a_region, ↓a_draw, ↓a_region', ↓a_draw', ↓then_key, ↓with_key, ↓cond_key, ↓one_key, ↓thenQ_normal, ↓thenQ_exit, ↓thenQ_ret, ↓blockQ_normal, ↓blockQ_exit, ↓blockQ_ret, ↓aops, ↓aopsD, ↓imp_tt, ↓imp_ff, ↓imp_tf, ↓imp_ft, ↓imp_tnt, ↓imp_tnf, ↓imp_fnt, ↓imp_fnf, okD_nil, okD_u, okD_t, thenK_mk, withK_some, condK_bool, oneK_some, look, look_hit, setL, resQ, argSlots, buildSt, buildArr, intsOf, eqB, keepSl, sh_one_one, sh_one_arr, sh_one_st, sh_arr_one, sh_arr_arr, sh_arr_st, sh_st_one, sh_st_arr, sh_st_st, bin_int, bin_str, bin_bool, bin_arr, bin_agg, un_neg, un_xor, un_not, i_add, i_sub, i_mul, i_quo, i_rem, i_and, i_or, i_xor, i_andNot, i_eql, i_neq, i_lss, i_leq, i_gtr, i_geq, s_shl, s_shr, opR, okIf, ok, bad, ev, ofConst, putS, updS, S.upd, dstOk, yieldD, strBin, isShift, cellD, retQ, resD, stripO, convR, conv2R, makeR, indexR, indexAddrR, fieldAddrR, loadR, storeR, allocR, boxR, pickR, buildR, buildSliceR, lenR, nilCheckR, extractR, funcR, sliceR, appendR, callR, S.box, S.tok, TK.sh, known, tsize, destI, ownTok, srcI, isIn, isSl, isSt, appendI, appendL, bnd, aggBin, nilD, isPtr, fieldOf, sized, enumS, seeR, seeL, hasB, flat, flats, nil1_none, nil1_sl, nil1_sl', nil1_sli, nil1_bsl, nilK_cons, nilK_nil, nilK_nil', see_any, isB_any, see_int, isB_int, see_bool, isB_bool, see_str, isB_str, see_raw, isB_raw, see_arr, isB_arr, see_agg, isB_agg, see_tup, isB_tup, see_sli, isB_sli, see_sl, isB_sl, see_bp, isB_bp, see_be, isB_be, see_ip, isB_ip, see_fn, isB_fn, see_bsl, isB_bsl, seen_arr, List.foldl_nil, List.foldl_cons, Option.getD_some, Option.getD_none, if_true, if_false, reduceIte, reduceCtorEq, Nat.reduceEqDiff, Nat.reduceAdd, Nat.reduceMul, Nat.reduceLT, Nat.reduceSub, Nat.reduceLeDiff, true_and, and_true, List.map_cons, List.map_nil, List.size_toArray, List.length_cons, List.length_nil, Option.map_some, Option.map_none, Option.bind_some, true_implies, Bool.false_eq_true, Bool.true_eq_false, false_implies, Bool.not_true, Bool.not_false, List.getElem?_cons_zero, List.getElem?_cons_succ, implies_true, and_self, Bool.and_true, Bool.true_and, BEq.rfl, and_assoc, Option.isSome_some, Option.isSome_none, List.take_succ_cons, List.take_zero, List.set_cons_zero, List.set_cons_succ, List.forall_mem_cons, List.not_mem_nil, forall_const, List.range, List.range.loop, ne_eq, not_false_eq_true, not_true_eq_false, List.cons.injEq, Prod.mk.injEq, List.append_nil, List.nil_append, List.cons_append, false_and, and_false, Bool.false_and, Bool.and_false, Nat.reduceBNe, Nat.reduceBEq, beq_self_eq_true, bne_self_eq_false, Nat.reduceBeqDiff, Bool.or_false, Bool.false_or, Bool.or_true, Bool.true_or, size_any, isOne_any, stor_any, fits_any, strip_any, sub_any, put_any, size_int, isOne_int, stor_int, fits_int, strip_int, sub_int, put_int, size_bool, isOne_bool, stor_bool, fits_bool, strip_bool, sub_bool, put_bool, size_str, isOne_str, stor_str, fits_str, strip_str, sub_str, put_str, size_raw, isOne_raw, fits_raw, strip_raw, sub_raw, put_raw, size_arr, isOne_arr, stor_arr, fits_arr, strip_arr, sub_arr, put_arr, size_agg, isOne_agg, stor_agg, fits_agg, strip_agg, sub_agg, put_agg, isOne_tup, stor_tup, fits_tup, strip_tup, sub_tup, put_tup, size_sli, isOne_sli, stor_sli, fits_sli, strip_sli, sub_sli, put_sli, size_sl, isOne_sl, stor_sl, fits_sl, strip_sl, sub_sl, put_sl, size_bp, isOne_bp, stor_bp, fits_bp, strip_bp, sub_bp, put_bp, size_be, isOne_be, stor_be, fits_be, strip_be, sub_be, put_be, size_bsl, isOne_bsl, stor_bsl, fits_bsl, strip_bsl, sub_bsl, put_bsl, size_ip, isOne_ip, stor_ip, fits_ip, strip_ip, sub_ip, put_ip, size_fn, isOne_fn, stor_fn, fits_fn, strip_fn, sub_fn, put_fn, stor_nil, stor_nilf, stor_nili, sizes_nil, sizes_cons, subs_nil, subs_cons, puts_nil, puts_cons, strips_nil, strips_cons, ty1, ty2, ty3, ty4, ty5, ty9, ty12, ty20, ty21, ty22, ty23, ty24, ty25, ty26, ty27, ty28, ty29, ty30, ty31, ty32, ty33, ty34, ty35, ty36, ty37, ty39, ty40, ty41, ty42, ty43, ty44, ty45, ty46, ty47, ty48, ty49, ty50, ty51, ty52, ty53, ty54, ty55, ty56, ty57, ty58, ty59, ty60, ty61, ty62, ty63, ty64, ty65, ty66, ty67, ty68, ty69, ty70, ty71, ty72, ty73, ty74, ty75, ty76, ty77, ty78, ty79, ty80, ty82, ty83, ty89, ty92, ty95, gl0, Tryd.ntmps16, Tryd.results16, PF.toR, gives, givesIf, d8, eq_self, decide_true, spec_refRoundNumbers, sp_refRoundNumbers, c_refRoundNumbers, b_refRoundNumbers, spec_refFirst, sp_refFirst, c_refFirst, b_refFirst]
    refine ⟨by omega, by omega, by omega, by omega, ⟨i + 1, by omega⟩, ⟨⟨wkD_eq ?_, rfl, wkD_eq rfl, rfl, wkD_eq rfl, rfl, trivial⟩, trivial, trivial⟩, by (try simp only); omega⟩
    exact some_i64 (by (try simp only); omega)
theorem c_lawFractions : Contract E 4 := by
  refine contract_see hE hgl (show E.P.funcs[4]? = some Tryd.f4 from Tryd.func4) rfl (p := sp_lawFractions) (fun _ _ _ => rfl) ?_
  intro args hv
  unfold sp_lawFractions at hv ⊢
  split at hv
  case h_2 => exact hv.elim
  refine ⟨by simp, Nat.le_of_ble_eq_true rfl, ?_⟩
  simp (config := {dsimp := false}) only [↓a_skip, ↓a_exit, ↓a_ret, ↓a_seq, ↓a_cond, ↓a_block, ↓a_loop, ↓a_region, ↓a_draw, ↓a_region', ↓a_draw', ↓then_key, ↓with_key, ↓cond_key, ↓one_key, ↓thenQ_normal, ↓thenQ_exit, ↓thenQ_ret, ↓blockQ_normal, ↓blockQ_exit, ↓blockQ_ret, ↓aops, ↓aopsD, ↓imp_tt, ↓imp_ff, ↓imp_tf, ↓imp_ft, ↓imp_tnt, ↓imp_tnf, ↓imp_fnt, ↓imp_fnf, okD_nil, okD_u, okD_t, thenK_mk, withK_some, condK_bool, oneK_some, look, look_hit, setL, resQ, argSlots, buildSt, buildArr, intsOf, eqB, keepSl, sh_one_one, sh_one_arr, sh_one_st, sh_arr_one, sh_arr_arr, sh_arr_st, sh_st_one, sh_st_arr, sh_st_st, bin_int, bin_str, bin_bool, bin_arr, bin_agg, un_neg, un_xor, un_not, i_add, i_sub, i_mul, i_quo, i_rem, i_and, i_or, i_xor, i_andNot, i_eql, i_neq, i_lss, i_leq, i_gtr, i_geq, s_shl, s_shr, opR, okIf, ok, bad, ev, ofConst, putS, updS, S.upd, dstOk, yieldD, strBin, isShift, cellD, retQ, resD, stripO, convR, conv2R, makeR, indexR, indexAddrR, fieldAddrR, loadR, storeR, allocR, boxR, pickR, buildR, buildSliceR, lenR, nilCheckR, extractR, funcR, sliceR, appendR, callR, S.box, S.tok, TK.sh, known, tsize, destI, ownTok, srcI, isIn, isSl, isSt, appendI, appendL, bnd, aggBin, nilD, isPtr, fieldOf, sized, enumS, seeR, seeL, hasB, flat, flats, nil1_none, nil1_sl, nil1_sl', nil1_sli, nil1_bsl, nilK_cons, nilK_nil, nilK_nil', see_any, isB_any, see_int, isB_int, see_bool, isB_bool, see_str, isB_str, see_raw, isB_raw, see_arr, isB_arr, see_agg, isB_agg, see_tup, isB_tup, see_sli, isB_sli, see_sl, isB_sl, see_bp, isB_bp, see_be, isB_be, see_ip, isB_ip, see_fn, isB_fn, see_bsl, isB_bsl, seen_arr, List.foldl_nil, List.foldl_cons, Option.getD_some, Option.getD_none, if_true, if_false, reduceIte, reduceCtorEq, Nat.reduceEqDiff, Nat.reduceAdd, Nat.reduceMul, Nat.reduceLT, Nat.reduceSub, Nat.reduceLeDiff, true_and, and_true, List.map_cons, List.map_nil, List.size_toArray, List.length_cons, List.length_nil, Option.map_some, Option.map_none, Option.bind_some, true_implies, Bool.false_eq_true, Bool.true_eq_false, false_implies, Bool.not_true, Bool.not_false, List.getElem?_cons_zero, List.getElem?_cons_succ, implies_true, and_self, Bool.and_true, Bool.true_and, BEq.rfl, and_assoc, Option.isSome_some, Option.isSome_none, List.take_succ_cons, List.take_zero, List.set_cons_zero, List.set_cons_succ, List.forall_mem_cons, List.not_mem_nil, forall_const, List.range, List.range.loop, ne_eq, not_false_eq_true, not_true_eq_false, List.cons.injEq, Prod.mk.injEq, List.append_nil, List.nil_append, List.cons_append, false_and, and_false, Bool.false_and, Bool.and_false, Nat.reduceBNe, Nat.reduceBEq, beq_self_eq_true, bne_self_eq_false, Nat.reduceBeqDiff, Bool.or_false, Bool.false_or, Bool.or_true, Bool.true_or, size_any, isOne_any, stor_any, fits_any, strip_any, sub_any, put_any, size_int, isOne_int, stor_int, fits_int, strip_int, sub_int, put_int, size_bool, isOne_bool, stor_bool, fits_bool, strip_bool, sub_bool, put_bool, size_str, isOne_str, stor_str, fits_str, strip_str, sub_str, put_str, size_raw, isOne_raw, fits_raw, strip_raw, sub_raw, put_raw, size_arr, isOne_arr, stor_arr, fits_arr, strip_arr, sub_arr, put_arr, size_agg, isOne_agg, stor_agg, fits_agg, strip_agg, sub_agg, put_agg, isOne_tup, stor_tup, fits_tup, strip_tup, sub_tup, put_tup, size_sli, isOne_sli, stor_sli, fits_sli, strip_sli, sub_sli, put_sli, size_sl, isOne_sl, stor_sl, fits_sl, strip_sl, sub_sl, put_sl, size_bp, isOne_bp, stor_bp, fits_bp, strip_bp, sub_bp, put_bp, size_be, isOne_be, stor_be, fits_be, strip_be, sub_be, put_be, size_bsl, isOne_bsl, stor_bsl, fits_bsl, strip_bsl, sub_bsl, put_bsl, size_ip, isOne_ip, stor_ip, fits_ip, strip_ip, sub_ip, put_ip, size_fn, isOne_fn, stor_fn, fits_fn, strip_fn, sub_fn, put_fn, stor_nil, stor_nilf, stor_nili, sizes_nil, sizes_cons, subs_nil, subs_cons, puts_nil, puts_cons, strips_nil, strips_cons, ty1, ty2, ty3, ty4, ty5, ty9, ty12, ty20, ty21, ty22, ty23, ty24, ty25, ty26, ty27, ty28, ty29, ty30, ty31, ty32, ty33, ty34, ty35, ty36, ty37, ty39, ty40, ty41, ty42, ty43, ty44, ty45, ty46, ty47, ty48, ty49, ty50, ty51, ty52, ty53, ty54, ty55, ty56, ty57, ty58, ty59, ty60, ty61, ty62, ty63, ty64, ty65, ty66, ty67, ty68, ty69, ty70, ty71, ty72, ty73, ty74, ty75, ty76, ty77, ty78, ty79, ty80, ty82, ty83, ty89, ty92, ty95, gl0, Tryd.ntmps4, Tryd.results4, PF.toR, gives, givesIf, spec_fractionsRight, sp_fractionsRight, c_fractionsRight, b_fractionsRight, spec_awake, sp_awake, c_awake, b_awake]
end Go.Vi.C1
end

section
/-
  FROM A CONTRACT TO A ROW: what a reading of the arguments gives, and the row's last step.
-/
set_option linter.unusedVariables false
set_option linter.unusedSimpArgs false
namespace Go.Vi
open Go.RowKit Go.WideShapes Go.ChangeShapes

/-- The world as it is handed to the law: nothing is owned, and each block's cells stand. -/
def g0 (W : World) : Gh := ⟨fun _ => none, fun _ => none, fun _ => none, rowSize W⟩
def s0 : S := ⟨[], [], 0⟩

theorem rowSize_none {W : World} {b : Nat} (h : W.heap.size ≤ b) : rowSize W b = 0 := by
  unfold rowSize
  rw [Array.getElem?_eq_none h]
theorem inv_g0 (W : World) : Inv (g0 W) s0 W (fun _ => True) where
  box := fun id d h => by simp [s0, S.box, look] at h
  tok := fun t n sz h => by simp [s0, S.tok, look] at h
  fresh := fun _ _ => ⟨rfl, rfl⟩
  lim := fun b h => rowSize_none h
  own := fun _ _ => rfl

theorem cell_lt {W : World} {b off : Nat} {v : Value} (h : W.cell? ⟨b, off, none⟩ = some v) : off < rowSize W b := by
  unfold World.cell? at h
  unfold rowSize
  split at h
  · rename_i c _ _ hb
    simp only [hb]
    simp at h
    exact (Array.getElem?_eq_some_iff.1 h).1
  · cases h

theorem spot_none {W : World} {a : Addr} {v : Value} (h : W.cell? a = some v) : a = ⟨a.block, a.off, none⟩ := by
  unfold World.cell? at h
  split at h
  · obtain ⟨b, o, s⟩ := a
    cases s with
    | none => rfl
    | some s => simp at h
  · cases h

theorem row_of {W : World} {a : Addr} {cs : List Value} (h : ∀ i v, cs[i]? = some v → W.cell? (a.add i) = some v) : Row (g0 W) W (some a) cs := by
  intro hne
  have h0 : a = ⟨a.block, a.off, none⟩ := by
    match cs, hne, h with
    | c :: r, _, h => exact spot_none (v := c) (by simpa [Addr.add] using h 0 c rfl)
  have hadd : ∀ i, a.add i = ⟨a.block, a.off + i, none⟩ := by
    intro i
    unfold Addr.add
    split
    · rename_i hi
      subst hi
      exact h0
    · rfl
  refine ⟨a.block, a.off, by rw [← h0], ?_, fun i v hv => by rw [← hadd]; exact h i v hv⟩
  have hl : cs.length - 1 < cs.length := by
    have := List.length_pos_iff.2 hne
    omega
  have := cell_lt (by rw [← hadd]; exact h (cs.length - 1) cs[cs.length - 1] (List.getElem?_eq_getElem hl))
  show a.off + cs.length ≤ rowSize W a.block
  omega

section
variable {H : Type} {enc : TypeId × Value → H} {P : Program} {W : World} {base : Nat}

theorem rep_int {r : Reach} {b0 : Nat} {t : TypeId} {k : IntKind} {v : Value} {d : DataW H} {ps : List MemPlace} (ht : P.underlying t = some (.int k)) (hval : Value.okWide P W r b0 t v) (hd : DataW.Trod enc P W base (fun _ => true) true t v d ps) (g : Gh) :
    ∃ n, Rep1 g W (.int k n) v ∧ (Lit.int k n).wf = true := by
  obtain ⟨n, rfl, _, _, hw⟩ := open_int ht hval hd
  exact ⟨n, by simp [Rep1, RepC], hw⟩
theorem rep_bool {r : Reach} {b0 : Nat} {t : TypeId} {v : Value} {d : DataW H} {ps : List MemPlace} (ht : P.underlying t = some .bool) (hval : Value.okWide P W r b0 t v) (hd : DataW.Trod enc P W base (fun _ => true) true t v d ps) (g : Gh) :
    ∃ b, Rep1 g W (.bool b) v := by
  obtain ⟨n, rfl, _, _⟩ := open_bool ht hval hd
  exact ⟨n, by simp [Rep1, RepC]⟩
theorem rep_str {r : Reach} {b0 : Nat} {t : TypeId} {v : Value} {d : DataW H} {ps : List MemPlace} (ht : P.underlying t = some .string) (hval : Value.okWide P W r b0 t v) (hd : DataW.Trod enc P W base (fun _ => true) true t v d ps) (g : Gh) :
    ∃ s : ByteArray, Rep1 g W (.str s) v := by
  obtain ⟨s, rfl, _, _, _⟩ := ChangeMaps.open_string ht hval hd
  exact ⟨s, by simp [Rep1, RepC]⟩

theorem cells_one {v : Value} {p : Option Addr} {n m : Nat} (h : ∃ a l c, v = .slice a l c) (he : v.cells.toList = [.slice p n m]) : v = .slice p n m := by
  obtain ⟨a, l, c, rfl⟩ := h
  simpa [Value.cells] using he

theorem repc_ints {t e : TypeId} {k : IntKind} {fuel : Nat} {cs : List Value} {x : DataW H × List MemPlace} (ht : P.underlying t = some (.slice e)) (he : P.underlying e = some (.int k)) (hc : P.cellsOf e = 1)
    (hf : DataW.trod enc P W base (fun _ => true) true fuel t cs = some x) :
    ∃ xs, RepC (g0 W) W (.sli .no k xs) cs ∧ (∀ x ∈ xs, (Lit.int k x).wf = true) ∧ xs.length ≤ maxLen := by
  rcases open_ints ht he hc hf with ⟨h, _⟩ | ⟨a, len, cap, zs, h, hb, hl, hm, hzl, _, hcell, hwf⟩
  · refine ⟨[], ?_, ⟨fun x hx => absurd hx (List.not_mem_nil), Nat.zero_le _⟩⟩
    rw [h]
    exact ⟨none, 0, rfl, Nat.le_refl _, fun h => (h rfl).elim, trivial⟩
  · rw [h]
    simp only [if_true] at hzl
    have hlen : (zs.take len).length = len := by rw [List.length_take]; omega
    refine ⟨zs.take len, ⟨some a, cap, by rw [hlen], by omega, row_of ?_, trivial⟩, fun x hx => hwf x (List.mem_of_mem_take hx), by omega⟩
    intro i v hi
    simp only [ints, List.getElem?_map, Option.map_eq_some_iff] at hi
    obtain ⟨z, hz, rfl⟩ := hi
    have hil : i < len := by
      have := (List.getElem?_eq_some_iff.1 hz).1
      omega
    have := hcell i (by omega)
    rw [this]
    have hz' : zs[i]? = some z := by
      rw [List.getElem?_take] at hz
      simpa [hil] using hz
    rw [List.getD_eq_getElem?_getD, hz']
    rfl
theorem rep_ints {r : Reach} {b0 : Nat} {t e : TypeId} {k : IntKind} {v : Value} {d : DataW H} {ps : List MemPlace} (ht : P.underlying t = some (.slice e)) (he : P.underlying e = some (.int k)) (hc : P.cellsOf e = 1)
    (hval : Value.okWide P W r b0 t v) (hd : DataW.Trod enc P W base (fun _ => true) true t v d ps) :
    ∃ xs, Rep1 (g0 W) W (.sli .no k xs) v ∧ (∀ x ∈ xs, (Lit.int k x).wf = true) ∧ xs.length ≤ maxLen := by
  obtain ⟨fuel, hf⟩ := hd
  obtain ⟨a, l, c, rfl⟩ := okWide_slice ht hval
  exact repc_ints ht he hc hf

theorem repEs_snoc {g : Gh} {w : World} {sz : Nat} {d : D} {cs : List Value} (hl : cs.length = sz) (h : RepC g w d cs) : ∀ {ds : List D} {vs : List Value}, RepEs g w sz ds vs → RepEs g w sz (ds ++ [d]) (vs ++ cs)
  | [], vs, h' => by
    simp only [RepEs] at h'
    subst h'
    exact ⟨cs, [], by simp, hl, h, rfl⟩
  | e :: ds, vs, ⟨c1, c2, e1, h1, h2, h3⟩ => by
    subst e1
    exact ⟨c1, c2 ++ cs, by simp, h1, h2, repEs_snoc hl h h3⟩
theorem add_add (a : Addr) (m n : Nat) : (a.add m).add n = a.add (m + n) := by
  unfold Addr.add
  by_cases h : n = 0
  · subst h; simp
  · by_cases h' : m = 0
    · subst h'; simp
    · simp [h, h', Nat.add_assoc]

/-- A slice of anything that is read. -/
theorem repc_slice {t e : TypeId} {sz fuel : Nat} {cs : List Value} {x : DataW H × List MemPlace} (Q : D → Prop) (ht : P.underlying t = some (.slice e)) (hc : P.cellsOf e = sz)
    (each : ∀ (n : Nat) (cs : List Value) (y : DataW H × List MemPlace), DataW.trod enc P W base (fun _ => true) true n e cs = some y → ∃ d, RepC (g0 W) W d cs ∧ Q d)
    (hf : DataW.trod enc P W base (fun _ => true) true fuel t cs = some x) : ∃ es, RepC (g0 W) W (.sl .no sz es) cs ∧ (∀ d ∈ es, Q d) ∧ es.length ≤ maxLen := by
  rcases DataW.trod_slice ht hf with ⟨rfl, _⟩ | ⟨a, len, cap, elems, rest, n, _, rfl, _, hb, hl, hm, hlen, hel, _, _⟩
  · exact ⟨[], ⟨none, 0, [], rfl, Nat.le_refl _, rfl, fun h => (h rfl).elim, trivial⟩, fun d hd => absurd hd List.not_mem_nil, Nat.zero_le _⟩
  have build : ∀ m, m ≤ len → ∃ (es : List D) (vs : List Value), es.length = m ∧ vs.length = m * sz ∧ RepEs (g0 W) W sz es vs ∧ (∀ k v, vs[k]? = some v → W.cell? (a.add k) = some v) ∧ ∀ d ∈ es, Q d := by
    intro m
    induction m with
    | zero => intro _; exact ⟨[], [], rfl, by simp, rfl, fun k v h => by simp at h, fun d hd => absurd hd List.not_mem_nil⟩
    | succ m ih =>
      intro hm'
      obtain ⟨es, vs, h1, h2, h3, h4, h5⟩ := ih (by omega)
      have he := hel m (by omega)
      rw [List.getElem?_eq_getElem (by omega), Option.bind_eq_some_iff] at he
      obtain ⟨cs', hcs, hy⟩ := he
      obtain ⟨d, hd, hq⟩ := each _ _ _ hy
      obtain ⟨_, hl', hcell⟩ := World.cells?_some hcs
      rw [hc] at hl' hcell
      refine ⟨es ++ [d], vs ++ cs', by simp [h1], by rw [List.length_append, h2, hl', Nat.succ_mul], repEs_snoc hl' hd h3, ?_, ?_⟩
      · intro k v hk
        by_cases hkl : k < vs.length
        · rw [List.getElem?_append_left hkl] at hk
          exact h4 k v hk
        · rw [List.getElem?_append_right (by omega)] at hk
          have hk' : k - vs.length < sz := by
            have := (List.getElem?_eq_some_iff.1 hk).1
            omega
          have := hcell (k - vs.length) hk'
          rw [add_add, h2] at this
          rw [h2] at hk
          rw [show m * sz + (k - m * sz) = k by omega] at this
          rw [this, hk]
      · intro d' hd'
        rcases List.mem_append.1 hd' with h | h
        · exact h5 d' h
        · rw [List.mem_singleton.1 h]; exact hq
  obtain ⟨es, vs, h1, h2, h3, h4, h5⟩ := build len (Nat.le_refl _)
  refine ⟨es, ⟨some a, cap, vs, by rw [h1], by omega, h3, row_of h4, trivial⟩, h5, by omega⟩

theorem map_of {es : List D} {f : List Int → D} {p : List Int → Prop} (h : ∀ d ∈ es, ∃ xs, d = f xs ∧ p xs) : ∃ bs : List (List Int), es = bs.map f ∧ ∀ b ∈ bs, p b := by
  induction es with
  | nil => exact ⟨[], rfl, fun b hb => absurd hb List.not_mem_nil⟩
  | cons d es ih =>
    obtain ⟨xs, rfl, hp⟩ := h d (List.mem_cons_self ..)
    obtain ⟨bs, rfl, hb⟩ := ih fun d hd => h d (List.mem_cons_of_mem _ hd)
    exact ⟨xs :: bs, rfl, fun b hb' => by
      rcases List.mem_cons.1 hb' with rfl | h
      · exact hp
      · exact hb b h⟩
theorem strips_slis (keep : Bool) (k : IntKind) : ∀ bs : List (List Int), D.strips keep (bs.map (D.sli .no k)) = bs.map (D.sli .no k)
  | [] => rfl
  | b :: bs => by
    simp only [List.map_cons, D.strips, strips_slis keep k bs]
    rfl
theorem rep_intss {r : Reach} {b0 : Nat} {t u e : TypeId} {k : IntKind} {v : Value} {d : DataW H} {ps : List MemPlace} (ht : P.underlying t = some (.slice u)) (hu : P.underlying u = some (.slice e)) (he : P.underlying e = some (.int k)) (hc : P.cellsOf e = 1) (hcu : P.cellsOf u = 1)
    (hval : Value.okWide P W r b0 t v) (hd : DataW.Trod enc P W base (fun _ => true) true t v d ps) :
    ∃ bs : List (List Int), Rep1 (g0 W) W (.sl .no 1 (bs.map (D.sli .no k))) v ∧ ∀ b ∈ bs, ∀ x ∈ b, (Lit.int k x).wf = true := by
  obtain ⟨fuel, hf⟩ := hd
  obtain ⟨a, l, c, rfl⟩ := okWide_slice ht hval
  obtain ⟨es, h1, h2, _⟩ := repc_slice (fun d => ∃ xs, d = D.sli .no k xs ∧ ∀ x ∈ xs, (Lit.int k x).wf = true) ht hcu (fun n cs y hy => by
    obtain ⟨xs, e1, e2, _⟩ := repc_ints hu he hc hy
    exact ⟨_, e1, xs, rfl, e2⟩) hf
  obtain ⟨bs, rfl, hb⟩ := map_of h2
  exact ⟨bs, h1, hb⟩

theorem rep_arr {r : Reach} {b0 : Nat} {t e : TypeId} {n : Nat} {k : IntKind} {v : Value} {d : DataW H} {ps : List MemPlace} (ht : P.underlying t = some (.array n e)) (he : P.underlying e = some (.int k)) (hc : P.cellsOf e = 1) (hn : P.cellsOf t = n)
    (hval : Value.okWide P W r b0 t v) (hd : DataW.Trod enc P W base (fun _ => true) true t v d ps) (g : Gh) :
    ∃ xs, Rep1 g W (.arr k n xs) v ∧ (∀ x ∈ xs, (Lit.int k x).wf = true) ∧ xs.length = n := by
  obtain ⟨fuel, hf⟩ := hd
  simp only [Value.okWide, ht] at hval
  obtain ⟨cs, rfl, hcs, _⟩ := hval
  obtain ⟨xs, m, _, _, hl, hx, hel⟩ := DataW.trod_array ht hf
  have hcs' : (Value.agg cs).cells.toList = cs.toList := rfl
  rw [hcs'] at hel hl
  have hcn : cs.size = n := by rw [hcs, hn]
  have each : ∀ i, i < n → ∃ z, cs[i]? = some (.int k z) ∧ (Lit.int k z).wf = true := by
    intro i hi
    have h1 := hel i hi
    rw [hc, Nat.mul_one, List.getElem?_eq_getElem (by omega)] at h1
    obtain ⟨z, e1, _, hw⟩ := DataW.trod_int he h1
    refine ⟨z, ?_, hw⟩
    have h0 : ((cs.toList.drop i).take 1)[0]? = some (.int k z) := by rw [e1]; rfl
    simpa using h0
  refine ⟨cs.toList.map fun v => match v with | .int _ z => z | _ => 0, ⟨by simpa using hcn, ?_⟩, ?_, by simpa using hcn⟩
  · congr 1
    apply Array.ext'
    apply List.ext_getElem?
    intro i
    simp only [ints, List.getElem?_map]
    by_cases hi : i < n
    · obtain ⟨z, hz, _⟩ := each i hi
      simp [hz]
    · have : cs[i]? = none := by simp; omega
      simp [this]
  · intro x hx
    obtain ⟨v, hv, rfl⟩ := List.mem_map.1 hx
    obtain ⟨i, hi⟩ := List.getElem?_of_mem hv
    have hi' : i < n := by
      have := (List.getElem?_eq_some_iff.1 hi).1
      simp at this
      omega
    obtain ⟨z, hz, hw⟩ := each i hi'
    have : v = .int k z := by
      have : cs[i]? = some v := by simpa using hi
      rw [hz] at this
      exact (Option.some.inj this).symm
    subst this
    exact hw
end

/-- What the law gives, and what it leaves alone. -/
theorem law_calls {E : Env} {f : FuncId} (hc : Contract E f) {W : World} {args : List D} {vs : List Value} (hv : (E.T f args s0 0).vc) (hr : (E.T f args s0 0).val = .bool true) (hg : Globs E (g0 W) W) (hrep : RepL (g0 W) W args vs) :
    Calls E.P f vs.toArray W fun e W' => e = .returned (.bool true) ∧ Below W.heap.size W W' := by
  refine (hc.2 args s0 0 (g0 W) W (fun _ => True) vs hv hg (inv_g0 W) (fun _ _ _ => trivial) hrep).mono ?_
  rintro e W' ⟨v, g', rfl, h1, h2, h3⟩
  rw [hr] at h1
  simp [Rep, Rep1, RepC] at h1
  subst h1
  exact ⟨rfl, ⟨h3.os, h3.tape, h3.output, h3.size, fun b hb => h3.block b hb rfl⟩⟩

section
variable {H : Type} {enc : TypeId × Value → H} {P : Program}
theorem trodAll_stays (hl : laidOutB P = true) {W W' : World} (hb : Below W.heap.size W W') : ∀ {ts : List TypeId} {vs : List Value} {ds : List (DataW H)} {ps : List MemPlace}, (ts.all fun t => P.readableRec t && decide (t < P.types.size)) = true →
    DataW.TrodAll enc P W 0 (fun _ => true) true ts vs ds ps → (∀ x ∈ ps, x.block < W.heap.size) → DataW.TrodAll enc P W' 0 (fun b => decide (b < W.heap.size)) true ts vs ds ps
  | [], [], [], _, _, h, _ => h
  | t :: ts, _ :: _, _ :: _, _, hr, ⟨p, q, h1, h2, e⟩, hlt => by
    subst e
    simp only [List.all_cons, Bool.and_eq_true, decide_eq_true_eq] at hr
    exact ⟨p, q, Below.trod hl hr.1.1 hr.1.2 h1 hb (fun x hx => hlt x (List.mem_append_left _ hx)), trodAll_stays hl hb hr.2 h2 (fun x hx => hlt x (List.mem_append_right _ hx)), rfl⟩

theorem trodAll_full (hl : laidOutB P = true) {W W' : World} (hb : Below W.heap.size W W') : ∀ {ts : List TypeId} {vs : List Value} {ds : List (DataW H)} {ps : List MemPlace}, (ts.all fun t => P.readableRec t && decide (t < P.types.size)) = true →
    DataW.TrodAll enc P W 0 (fun _ => true) true ts vs ds ps → (∀ x ∈ ps, x.block < W.heap.size) → ∀ sp : Nat → Bool, (∀ x ∈ ps, sp x.block = true) → DataW.TrodAll enc P W' 0 sp true ts vs ds ps
  | [], [], [], _, _, h, _, _, _ => h
  | t :: ts, _ :: _, _ :: _, _, hr, ⟨p, q, h1, h2, e⟩, hlt, sp, hsp => by
    subst e
    simp only [List.all_cons, Bool.and_eq_true, decide_eq_true_eq] at hr
    exact ⟨p, q, WideElems.Trod_stays hl hr.1.1 hr.1.2 h1 (fun x hx => hb.same (hlt x (List.mem_append_left _ hx))) (fun x hx => hsp x (List.mem_append_left _ hx)),
      trodAll_full hl hb hr.2 h2 (fun x hx => hlt x (List.mem_append_right _ hx)) sp (fun x hx => hsp x (List.mem_append_right _ hx)), rfl⟩

theorem law_post {f : Func} {s : ChangeSpec} {apart fresh handsOn again : Bool} {W W' : World} {args : Array Value} {ds gs : List (DataW H)} {before : List MemPlace} {tb : TypeId}
    (hW : DataW.Whole enc P f.params.toList s.vars apart W args.toList ds gs before) (hsv : s.vars = []) (hl : laidOutB P = true) (hrd : (f.params.toList.all fun t => P.readableRec t && decide (t < P.types.size)) = true)
    (hrt : f.resultTypes = #[tb]) (hbt : P.underlying tb = some .bool) (hfn : s.fn H (ds ++ gs) = { results := [.lit (.bool true)], args := ds })
    (hb : Below W.heap.size W W') : s.post enc P f apart fresh handsOn again W args (.bool true) W' := by
  have hlt : ∀ p ∈ before, p.block < W.heap.size := fun p hp => hW.lt p hp
  have hold : ∀ p ∈ before, (fun b => decide (b < W.heap.size)) p.block = true := fun p hp => by simpa using hlt p hp
  have hW' := hW
  obtain ⟨pa, pv, hA, hV, hps, hz, hn⟩ := hW
  rw [hsv] at hV
  obtain ⟨rfl, rfl⟩ := trodVars_none hV
  rw [List.append_nil] at hps
  subst hps
  have hargs : ∀ sp : Nat → Bool, (∀ x ∈ before, sp x.block = true) → DataW.TrodAll enc P W' 0 sp true f.params.toList args.toList (s.fn H (ds ++ [])).args before := by
    intro sp h
    rw [hfn]
    exact trodAll_full hl hb hrd hA hlt sp h
  have hres : ∀ (b : Nat) (sp : Nat → Bool) (hd : Bool), DataW.TrodAll enc P W' b sp hd f.resultTypes.toList ((Value.bool true).resultList f.resultTypes.size) (s.fn H (ds ++ [])).results [] := by
    intro b sp hd
    rw [hfn, hrt]
    exact trodAll_mk1 (shut_bool hbt true)
  have hvars : ∀ sp : Nat → Bool, DataW.TrodVars enc P W' sp s.vars (s.fn H (ds ++ [])).vars [] := by
    intro sp
    rw [hfn, hsv]
    rfl
  refine ⟨ds, [], before, [], before, [], hW', hres _ _ _, hargs _ hold, hvars _, World.keptBut_mono (fun p hp => ⟨hp, by simpa using hp⟩) (hb.frame (· ∈ before)), fun _ => ?_⟩
  · refine ⟨ok_one hrt rfl (okWide_bool_mk hbt true), _, _, ([] ++ before) ++ [], ⟨[] ++ before, [], trodAll_append (hargs _ (fun _ _ => rfl)) (hres _ _ _), hvars _, rfl, ?_, ?_⟩, ?_⟩
    · intro b off hp
      have hin : MemPlace.cell b off ∈ before := by simpa using hp
      rw [hb.frozen (hlt _ hin)]
      exact hz b off hin
    · intro ha
      simpa using hn ha
    · intro p hp _
      simpa using hp
end
end Go.Vi
end

section
set_option linter.unusedVariables false
set_option linter.unusedSimpArgs false
namespace Go.Proofs.YtalbmjogjolaoaaDoor
open Go.ChangeShapes Go.WideShapes Go.RowKit Go.Vi Go.Vi.C1

theorem Tryd.own : ownKnob Tryd.prog.godebug = none := by kernel_rfl
theorem Tryd.laidOut : laidOutB Tryd.prog = true := by kernel_rfl

theorem globs_of_laid {W : World} (h : laidMetH Tryd.prog [("spinney/sha.roundNumbers", Rows.laid_spinney_sha_roundNumbers)] W) : Globs Go.Vi.C1.E (g0 W) W := by
  rw [MakeChecks.laidMetH_plain _ _ _ (by kernel_rfl)] at h
  obtain ⟨ps, ⟨g, t, cs, fuel, p, q, hg, ht, hv, hd, _, _⟩, _, _⟩ := h
  obtain rfl := Option.some.inj ((show Tryd.prog.globalNamed "spinney/sha.roundNumbers" = some 0 by kernel_rfl).symm.trans hg)
  obtain rfl := Option.some.inj ((show (Tryd.prog.globals[0]?).map (·.type) = some 71 by kernel_rfl).symm.trans ht)
  obtain ⟨xs, m, _, ex, hcl, hl, hel⟩ := DataW.trod_array Tryd.underlying71 hd
  have c5 : Tryd.prog.cellsOf 29 = 1 := by kernel_rfl
  have hlen : kList.length = 64 := by decide
  have e3 : (xs.map (·.1)) = kList.map fun n => .lit (.int .u32 n) :=
    (DataW.agg.inj (Prod.mk.inj ex).1).symm
  have cell : ∀ r, r < 64 → cs.toList[r]? = some (.int .u32 (kList.getD r 0)) := by
    intro r hr
    have hE := hel r hr
    rw [c5, Nat.mul_one, List.getElem?_eq_getElem (by omega)] at hE
    obtain ⟨z, e1, e2, _⟩ := DataW.trod_int Tryd.underlying29 hE
    have e4 : (xs.map (·.1))[r]? = (kList.map fun n => (DataW.lit (.int .u32 n) : DataW Unit))[r]? := by rw [e3]
    rw [List.getElem?_map, List.getElem?_map, List.getElem?_eq_getElem (by omega : r < xs.length), List.getElem?_eq_getElem (by omega : r < kList.length), e2] at e4
    have hz : z = kList.getD r 0 := by
      simp only [Option.map_some, Option.some.injEq, DataW.lit.injEq, Lit.int.injEq, true_and] at e4
      rw [e4, List.getD, List.getElem?_eq_getElem (by omega : r < kList.length)]; rfl
    rw [← hz]
    have h0 : ((cs.toList.drop r).take 1)[0]? = some (.int .u32 z) := by rw [e1]; rfl
    simpa using h0
  have at0 : At W 0 0 (ints .u32 kList) := by
    intro i v hi
    simp only [ints, List.getElem?_map, Option.map_eq_some_iff] at hi
    obtain ⟨z, hz, rfl⟩ := hi
    have hil : i < 64 := by
      have := (List.getElem?_eq_some_iff.1 hz).1
      omega
    have := cell i hil
    rw [List.getD_eq_getElem?_getD, hz] at this
    rw [Nat.zero_add, World.var?_cell hg hv i]
    simpa using this
  intro i d hi
  change glC i = some d at hi
  unfold glC at hi
  split at hi <;> cases hi
  refine ⟨0, 0, ints .u32 kList, rfl, ⟨hlen, rfl⟩, ?_, at0⟩
  have := at0 63 _ (by rw [ints, List.getElem?_map, List.getElem?_eq_getElem (by omega : 63 < kList.length)]; rfl)
  have := cell_lt this
  show 0 + (ints .u32 kList).length ≤ rowSize W 0
  simp only [ints, List.length_map, hlen]
  omega

theorem bytes_of {xs : List Int} (h : ∀ x ∈ xs, (Lit.int .u8 x).wf = true) : Go.Vi.bytes xs := by
  intro x hx
  have := h x hx
  simp only [Lit.wf, Bool.and_eq_true, decide_eq_true_eq, show IntKind.u8.min = 0 from rfl, show IntKind.u8.max = 255 from rfl] at this
  omega

end Go.Proofs.YtalbmjogjolaoaaDoor
end
