/- Lemmas for the law proved in the text whose name ends with Law. -/
import Derived.Test.YtneickpgbhckmaaGreatDoorK53
import Derived.Test.YtneickpgbhckmaaGreatDoorProg

section
/-
  THE REWRITINGS, in larger packs.
-/
set_option maxRecDepth 10000
namespace Go.Vi
theorem vp0 : (type_of% @a_range) ∧ (type_of% @roundQ_normal) ∧ (type_of% @roundQ_ret) ∧ (type_of% @roundQ_exit) ∧ (type_of% @roundA_normal) ∧ (type_of% @roundA_ret) ∧ (type_of% @roundA_exit) ∧ (type_of% @a_skip) ∧ (type_of% @a_exit) ∧ (type_of% @a_ret) ∧ (type_of% @a_seq) ∧ (type_of% @a_cond) ∧ (type_of% @a_block) ∧ (type_of% @a_loop) ∧ (type_of% @a_region) ∧ (type_of% @a_draw) ∧ (type_of% @a_region') ∧ (type_of% @a_draw') ∧ (type_of% @then_key) ∧ (type_of% @with_key) ∧ (type_of% @withY_key) ∧ (type_of% @cond_key) ∧ (type_of% @one_key) ∧ (type_of% @thenQ_normal) ∧ (type_of% @thenQ_exit) ∧ (type_of% @thenQ_ret) ∧ (type_of% @blockQ_normal) ∧ (type_of% @blockQ_exit) ∧ (type_of% @blockQ_ret) ∧ (type_of% @imp_tt) ∧ (type_of% @imp_ff) ∧ (type_of% @imp_tf) ∧ (type_of% @imp_ft) ∧ (type_of% @imp_tnt) ∧ (type_of% @imp_tnf) ∧ (type_of% @imp_fnt) ∧ (type_of% @imp_fnf) ∧ (type_of% @aops.eq_1) ∧ (type_of% @aops.eq_2) ∧ (type_of% @aopsD.eq_1) ∧ (type_of% @aopsD.eq_2) :=
  ⟨@a_range, @roundQ_normal, @roundQ_ret, @roundQ_exit, @roundA_normal, @roundA_ret, @roundA_exit, @a_skip, @a_exit, @a_ret, @a_seq, @a_cond, @a_block, @a_loop, @a_region, @a_draw, @a_region', @a_draw', @then_key, @with_key, @withY_key, @cond_key, @one_key, @thenQ_normal, @thenQ_exit, @thenQ_ret, @blockQ_normal, @blockQ_exit, @blockQ_ret, @imp_tt, @imp_ff, @imp_tf, @imp_ft, @imp_tnt, @imp_tnf, @imp_fnt, @imp_fnf, @aops.eq_1, @aops.eq_2, @aopsD.eq_1, @aopsD.eq_2⟩
theorem vc0 : (type_of% @List.foldl_nil.{0, 0}) ∧ (type_of% @List.foldl_cons.{0, 0}) ∧ (type_of% @Option.getD_some.{0}) ∧ (type_of% @Option.getD_none.{0}) ∧ (type_of% @true_and) ∧ (type_of% @and_true) ∧ (type_of% @List.map_cons.{0, 0}) ∧ (type_of% @List.map_nil.{0, 0}) ∧ (type_of% @List.size_toArray.{0}) ∧ (type_of% @List.length_cons.{0}) ∧ (type_of% @List.length_nil.{0}) ∧ (type_of% @Option.map_some.{0, 0}) ∧ (type_of% @Option.map_none.{0, 0}) ∧ (type_of% @Option.bind_some.{0, 0}) ∧ (type_of% @true_implies) ∧ (type_of% @Bool.false_eq_true) ∧ (type_of% @Bool.true_eq_false) ∧ (type_of% @false_implies) ∧ (type_of% @Bool.not_true) ∧ (type_of% @Bool.not_false) ∧ (type_of% @List.getElem?_cons_zero.{0}) ∧ (type_of% @List.getElem?_cons_succ.{0}) ∧ (type_of% @and_self) ∧ (type_of% @Bool.and_true) ∧ (type_of% @Bool.true_and) ∧ (type_of% @BEq.rfl.{0}) ∧ (type_of% @and_assoc) ∧ (type_of% @Option.isSome_some.{0}) ∧ (type_of% @Option.isSome_none.{0}) ∧ (type_of% @List.take_succ_cons.{0}) ∧ (type_of% @List.take_zero.{0}) ∧ (type_of% @List.set_cons_zero.{0}) ∧ (type_of% @List.set_cons_succ.{0}) ∧ (type_of% @List.forall_mem_cons.{0}) ∧ (type_of% @List.not_mem_nil.{0}) ∧ (type_of% @not_false_eq_true) ∧ (type_of% @not_true_eq_false) ∧ (type_of% @List.cons.injEq.{0}) ∧ (type_of% @Prod.mk.injEq.{0, 0}) ∧ (type_of% @List.append_nil.{0}) :=
  ⟨@List.foldl_nil.{0, 0}, @List.foldl_cons.{0, 0}, @Option.getD_some.{0}, @Option.getD_none.{0}, @true_and, @and_true, @List.map_cons.{0, 0}, @List.map_nil.{0, 0}, @List.size_toArray.{0}, @List.length_cons.{0}, @List.length_nil.{0}, @Option.map_some.{0, 0}, @Option.map_none.{0, 0}, @Option.bind_some.{0, 0}, @true_implies, @Bool.false_eq_true, @Bool.true_eq_false, @false_implies, @Bool.not_true, @Bool.not_false, @List.getElem?_cons_zero.{0}, @List.getElem?_cons_succ.{0}, @and_self, @Bool.and_true, @Bool.true_and, @BEq.rfl.{0}, @and_assoc, @Option.isSome_some.{0}, @Option.isSome_none.{0}, @List.take_succ_cons.{0}, @List.take_zero.{0}, @List.set_cons_zero.{0}, @List.set_cons_succ.{0}, @List.forall_mem_cons.{0}, @List.not_mem_nil.{0}, @not_false_eq_true, @not_true_eq_false, @List.cons.injEq.{0}, @Prod.mk.injEq.{0, 0}, @List.append_nil.{0}⟩
theorem vc1 : (type_of% @List.nil_append.{0}) ∧ (type_of% @List.cons_append.{0}) ∧ (type_of% @false_and) ∧ (type_of% @and_false) ∧ (type_of% @Bool.false_and) ∧ (type_of% @Bool.and_false) ∧ (type_of% @beq_self_eq_true.{0}) ∧ (type_of% @bne_self_eq_false.{0}) ∧ (type_of% @Bool.or_false) ∧ (type_of% @Bool.false_or) ∧ (type_of% @Bool.or_true) ∧ (type_of% @Bool.true_or) :=
  ⟨@List.nil_append.{0}, @List.cons_append.{0}, @false_and, @and_false, @Bool.false_and, @Bool.and_false, @beq_self_eq_true.{0}, @bne_self_eq_false.{0}, @Bool.or_false, @Bool.false_or, @Bool.or_true, @Bool.true_or⟩
theorem ve0 : (type_of% @look.eq_1) ∧ (type_of% @look.eq_2) ∧ (type_of% @setL.eq_1) ∧ (type_of% @setL.eq_2) ∧ (type_of% @resQ.eq_1) ∧ (type_of% @resQ.eq_2) ∧ (type_of% @resQ.eq_3) ∧ (type_of% @argSlots.eq_1) ∧ (type_of% @argSlots.eq_2) ∧ (type_of% @buildSt.eq_1) ∧ (type_of% @buildSt.eq_2) ∧ (type_of% @buildArr.eq_1) ∧ (type_of% @buildArr.eq_2) ∧ (type_of% @buildArr.eq_3) ∧ (type_of% @intsOf.eq_1) ∧ (type_of% @intsOf.eq_2) ∧ (type_of% @intsOf.eq_3) ∧ (type_of% @eqB.eq_1) ∧ (type_of% @eqB.eq_2) ∧ (type_of% @keepSl.eq_1) ∧ (type_of% @keepSl.eq_2) ∧ (type_of% @bindM.eq_1) ∧ (type_of% @bindM.eq_2) ∧ (type_of% @bindP.eq_1) ∧ (type_of% @bindP.eq_2) ∧ (type_of% @opR.eq_1) ∧ (type_of% @opR.eq_2) ∧ (type_of% @opR.eq_3) ∧ (type_of% @opR.eq_4) ∧ (type_of% @opR.eq_5) ∧ (type_of% @opR.eq_6) ∧ (type_of% @opR.eq_7) ∧ (type_of% @opR.eq_8) ∧ (type_of% @opR.eq_9) ∧ (type_of% @opR.eq_10) ∧ (type_of% @opR.eq_11) ∧ (type_of% @opR.eq_12) ∧ (type_of% @opR.eq_13) ∧ (type_of% @opR.eq_14) ∧ (type_of% @opR.eq_15) :=
  ⟨@look.eq_1, @look.eq_2, @setL.eq_1, @setL.eq_2, @resQ.eq_1, @resQ.eq_2, @resQ.eq_3, @argSlots.eq_1, @argSlots.eq_2, @buildSt.eq_1, @buildSt.eq_2, @buildArr.eq_1, @buildArr.eq_2, @buildArr.eq_3, @intsOf.eq_1, @intsOf.eq_2, @intsOf.eq_3, @eqB.eq_1, @eqB.eq_2, @keepSl.eq_1, @keepSl.eq_2, @bindM.eq_1, @bindM.eq_2, @bindP.eq_1, @bindP.eq_2, @opR.eq_1, @opR.eq_2, @opR.eq_3, @opR.eq_4, @opR.eq_5, @opR.eq_6, @opR.eq_7, @opR.eq_8, @opR.eq_9, @opR.eq_10, @opR.eq_11, @opR.eq_12, @opR.eq_13, @opR.eq_14, @opR.eq_15⟩
theorem ve1 : (type_of% @opR.eq_16) ∧ (type_of% @opR.eq_17) ∧ (type_of% @opR.eq_18) ∧ (type_of% @opR.eq_19) ∧ (type_of% @opR.eq_20) ∧ (type_of% @opR.eq_21) ∧ (type_of% @opR.eq_22) ∧ (type_of% @opR.eq_23) ∧ (type_of% @okIf.eq_1) ∧ (type_of% @ok.eq_1) ∧ (type_of% @bad.eq_1) ∧ (type_of% @ev.eq_1) ∧ (type_of% @ev.eq_2) ∧ (type_of% @ev.eq_3) ∧ (type_of% @ev.eq_4) ∧ (type_of% @ofConst.eq_1) ∧ (type_of% @ofConst.eq_2) ∧ (type_of% @ofConst.eq_3) ∧ (type_of% @ofConst.eq_4) ∧ (type_of% @ofConst.eq_5) ∧ (type_of% @ofConst.eq_6) ∧ (type_of% @ofConst.eq_7) ∧ (type_of% @ofConst.eq_8) ∧ (type_of% @putS.eq_1) ∧ (type_of% @putS.eq_2) ∧ (type_of% @updS.eq_1) ∧ (type_of% @S.upd.eq_1) ∧ (type_of% @dstOk.eq_1) ∧ (type_of% @dstOk.eq_2) ∧ (type_of% @yieldD.eq_1) ∧ (type_of% @yieldY.eq_1) ∧ (type_of% @strBin.eq_1) ∧ (type_of% @strBin.eq_2) ∧ (type_of% @strBin.eq_3) ∧ (type_of% @strBin.eq_4) ∧ (type_of% @isShift.eq_1) ∧ (type_of% @isShift.eq_2) ∧ (type_of% @isShift.eq_3) ∧ (type_of% @retQ.eq_1) ∧ (type_of% @retQ.eq_2) :=
  ⟨@opR.eq_16, @opR.eq_17, @opR.eq_18, @opR.eq_19, @opR.eq_20, @opR.eq_21, @opR.eq_22, @opR.eq_23, @okIf.eq_1, @ok.eq_1, @bad.eq_1, @ev.eq_1, @ev.eq_2, @ev.eq_3, @ev.eq_4, @ofConst.eq_1, @ofConst.eq_2, @ofConst.eq_3, @ofConst.eq_4, @ofConst.eq_5, @ofConst.eq_6, @ofConst.eq_7, @ofConst.eq_8, @putS.eq_1, @putS.eq_2, @updS.eq_1, @S.upd.eq_1, @dstOk.eq_1, @dstOk.eq_2, @yieldD.eq_1, @yieldY.eq_1, @strBin.eq_1, @strBin.eq_2, @strBin.eq_3, @strBin.eq_4, @isShift.eq_1, @isShift.eq_2, @isShift.eq_3, @retQ.eq_1, @retQ.eq_2⟩
theorem ve2 : (type_of% @retQ.eq_3) ∧ (type_of% @resD.eq_1) ∧ (type_of% @resD.eq_2) ∧ (type_of% @stripO.eq_1) ∧ (type_of% @stripO.eq_2) ∧ (type_of% @stripO.eq_3) ∧ (type_of% @convR.eq_1) ∧ (type_of% @conv2R.eq_1) ∧ (type_of% @conv2R.eq_2) ∧ (type_of% @conv2R.eq_3) ∧ (type_of% @makeR.eq_1) ∧ (type_of% @indexR.eq_1) ∧ (type_of% @indexAddrR.eq_1) ∧ (type_of% @fieldAddrR.eq_1) ∧ (type_of% @loadR.eq_1) ∧ (type_of% @storeR.eq_1) ∧ (type_of% @allocR.eq_1) ∧ (type_of% @boxR.eq_1) ∧ (type_of% @pickR.eq_1) ∧ (type_of% @pickR.eq_2) ∧ (type_of% @pickR.eq_3) ∧ (type_of% @buildR.eq_1) ∧ (type_of% @buildSliceR.eq_1) ∧ (type_of% @lenR.eq_1) ∧ (type_of% @nilCheckR.eq_1) ∧ (type_of% @nilCheckR.eq_2) ∧ (type_of% @nilCheckR.eq_3) ∧ (type_of% @nilCheckR.eq_4) ∧ (type_of% @extractR.eq_1) ∧ (type_of% @extractR.eq_2) ∧ (type_of% @funcR.eq_1) ∧ (type_of% @funcR.eq_2) ∧ (type_of% @ipSlice.eq_1) ∧ (type_of% @ipSlice.eq_2) ∧ (type_of% @sliceR.eq_1) ∧ (type_of% @appendR.eq_1) ∧ (type_of% @callR.eq_1) ∧ (type_of% @callR.eq_2) ∧ (type_of% @minR.eq_1) ∧ (type_of% @minR.eq_2) :=
  ⟨@retQ.eq_3, @resD.eq_1, @resD.eq_2, @stripO.eq_1, @stripO.eq_2, @stripO.eq_3, @convR.eq_1, @conv2R.eq_1, @conv2R.eq_2, @conv2R.eq_3, @makeR.eq_1, @indexR.eq_1, @indexAddrR.eq_1, @fieldAddrR.eq_1, @loadR.eq_1, @storeR.eq_1, @allocR.eq_1, @boxR.eq_1, @pickR.eq_1, @pickR.eq_2, @pickR.eq_3, @buildR.eq_1, @buildSliceR.eq_1, @lenR.eq_1, @nilCheckR.eq_1, @nilCheckR.eq_2, @nilCheckR.eq_3, @nilCheckR.eq_4, @extractR.eq_1, @extractR.eq_2, @funcR.eq_1, @funcR.eq_2, @ipSlice.eq_1, @ipSlice.eq_2, @sliceR.eq_1, @appendR.eq_1, @callR.eq_1, @callR.eq_2, @minR.eq_1, @minR.eq_2⟩
theorem ve3 : (type_of% @maxR.eq_1) ∧ (type_of% @maxR.eq_2) ∧ (type_of% @S.box.eq_1) ∧ (type_of% @S.tok.eq_1) ∧ (type_of% @TK.sh.eq_1) ∧ (type_of% @TK.sh.eq_2) ∧ (type_of% @TK.sh.eq_3) ∧ (type_of% @known.eq_1) ∧ (type_of% @tsize.eq_1) ∧ (type_of% @destI.eq_1) ∧ (type_of% @destI.eq_2) ∧ (type_of% @destI.eq_3) ∧ (type_of% @ownTok.eq_1) ∧ (type_of% @ownTok.eq_2) ∧ (type_of% @ownTok.eq_3) ∧ (type_of% @ownTok.eq_4) ∧ (type_of% @srcI.eq_1) ∧ (type_of% @srcI.eq_2) ∧ (type_of% @srcI.eq_3) ∧ (type_of% @srcI.eq_4) ∧ (type_of% @srcI.eq_5) ∧ (type_of% @isIn.eq_1) ∧ (type_of% @isSl.eq_1) ∧ (type_of% @isSt.eq_1) ∧ (type_of% @appendI.eq_1) ∧ (type_of% @appendI.eq_2) ∧ (type_of% @appendL.eq_1) ∧ (type_of% @appendL.eq_2) ∧ (type_of% @bnd.eq_1) ∧ (type_of% @bnd.eq_2) ∧ (type_of% @bnd.eq_3) ∧ (type_of% @aggBin.eq_1) ∧ (type_of% @aggBin.eq_2) ∧ (type_of% @aggBin.eq_3) ∧ (type_of% @nilD.eq_1) ∧ (type_of% @nilD.eq_2) ∧ (type_of% @nilD.eq_3) ∧ (type_of% @nilD.eq_4) ∧ (type_of% @isPtr.eq_1) ∧ (type_of% @fieldOf.eq_1) :=
  ⟨@maxR.eq_1, @maxR.eq_2, @S.box.eq_1, @S.tok.eq_1, @TK.sh.eq_1, @TK.sh.eq_2, @TK.sh.eq_3, @known.eq_1, @tsize.eq_1, @destI.eq_1, @destI.eq_2, @destI.eq_3, @ownTok.eq_1, @ownTok.eq_2, @ownTok.eq_3, @ownTok.eq_4, @srcI.eq_1, @srcI.eq_2, @srcI.eq_3, @srcI.eq_4, @srcI.eq_5, @isIn.eq_1, @isSl.eq_1, @isSt.eq_1, @appendI.eq_1, @appendI.eq_2, @appendL.eq_1, @appendL.eq_2, @bnd.eq_1, @bnd.eq_2, @bnd.eq_3, @aggBin.eq_1, @aggBin.eq_2, @aggBin.eq_3, @nilD.eq_1, @nilD.eq_2, @nilD.eq_3, @nilD.eq_4, @isPtr.eq_1, @fieldOf.eq_1⟩
theorem ve4 : (type_of% @sized.eq_1) ∧ (type_of% @enumS.eq_1) ∧ (type_of% @enumS.eq_2) ∧ (type_of% @seeR.eq_1) ∧ (type_of% @seeL.eq_1) ∧ (type_of% @seeL.eq_2) ∧ (type_of% @hasB.eq_1) ∧ (type_of% @hasB.eq_2) ∧ (type_of% @flat.eq_1) ∧ (type_of% @flat.eq_2) ∧ (type_of% @flat.eq_3) ∧ (type_of% @flat.eq_4) ∧ (type_of% @flat.eq_5) ∧ (type_of% @flat.eq_6) ∧ (type_of% @flat.eq_7) ∧ (type_of% @flat.eq_8) ∧ (type_of% @flat.eq_9) ∧ (type_of% @flats.eq_1) ∧ (type_of% @flats.eq_2) ∧ (type_of% @bin2R.eq_1) ∧ (type_of% @isNilC.eq_1) ∧ (type_of% @isNilC.eq_2) ∧ (type_of% @isNilC.eq_3) ∧ (type_of% @isNilC.eq_4) ∧ (type_of% @isNilV.eq_1) ∧ (type_of% @isNilV.eq_2) ∧ (type_of% @nilS.eq_1) ∧ (type_of% @nilS.eq_2) ∧ (type_of% @nilS.eq_3) ∧ (type_of% @nilS.eq_4) ∧ (type_of% @nilS.eq_5) ∧ (type_of% @nilS.eq_6) ∧ (type_of% @nilS.eq_7) ∧ (type_of% @nilS.eq_8) ∧ (type_of% @nilS.eq_9) ∧ (type_of% @nilSR.eq_1) ∧ (type_of% @arrPR.eq_1) :=
  ⟨@sized.eq_1, @enumS.eq_1, @enumS.eq_2, @seeR.eq_1, @seeL.eq_1, @seeL.eq_2, @hasB.eq_1, @hasB.eq_2, @flat.eq_1, @flat.eq_2, @flat.eq_3, @flat.eq_4, @flat.eq_5, @flat.eq_6, @flat.eq_7, @flat.eq_8, @flat.eq_9, @flats.eq_1, @flats.eq_2, @bin2R.eq_1, @isNilC.eq_1, @isNilC.eq_2, @isNilC.eq_3, @isNilC.eq_4, @isNilV.eq_1, @isNilV.eq_2, @nilS.eq_1, @nilS.eq_2, @nilS.eq_3, @nilS.eq_4, @nilS.eq_5, @nilS.eq_6, @nilS.eq_7, @nilS.eq_8, @nilS.eq_9, @nilSR.eq_1, @arrPR.eq_1⟩
theorem vb0 : (type_of% @retB.eq_1) ∧ (type_of% @retB.eq_2) ∧ (type_of% @retB.eq_3) ∧ (type_of% @boxF.eq_1) ∧ (type_of% @reach.eq_1) ∧ (type_of% @reach.eq_2) ∧ (type_of% @getAll.eq_1) ∧ (type_of% @getAll.eq_2) ∧ (type_of% @posN.eq_1) ∧ (type_of% @posN.eq_2) ∧ (type_of% @addN.eq_1) ∧ (type_of% @D.ids.eq_1) ∧ (type_of% @D.ids.eq_2) ∧ (type_of% @D.ids.eq_3) ∧ (type_of% @D.ids.eq_4) ∧ (type_of% @D.ids.eq_5) ∧ (type_of% @D.ids.eq_6) ∧ (type_of% @D.ids.eq_7) ∧ (type_of% @D.idsL.eq_1) ∧ (type_of% @D.idsL.eq_2) ∧ (type_of% @D.tks.eq_1) ∧ (type_of% @D.tks.eq_2) ∧ (type_of% @D.tks.eq_3) ∧ (type_of% @D.tks.eq_4) ∧ (type_of% @D.tks.eq_5) ∧ (type_of% @D.tks.eq_6) ∧ (type_of% @D.tksL.eq_1) ∧ (type_of% @D.tksL.eq_2) ∧ (type_of% @ownTk.eq_1) ∧ (type_of% @ownTk.eq_2) ∧ (type_of% @backN.eq_1) ∧ (type_of% @zipS.eq_1) ∧ (type_of% @zipS.eq_2) ∧ (type_of% @BF.toR.eq_1) ∧ (type_of% @D.ren.eq_1) ∧ (type_of% @D.ren.eq_2) ∧ (type_of% @D.ren.eq_3) ∧ (type_of% @D.ren.eq_4) ∧ (type_of% @D.ren.eq_5) ∧ (type_of% @D.ren.eq_6) :=
  ⟨@retB.eq_1, @retB.eq_2, @retB.eq_3, @boxF.eq_1, @reach.eq_1, @reach.eq_2, @getAll.eq_1, @getAll.eq_2, @posN.eq_1, @posN.eq_2, @addN.eq_1, @D.ids.eq_1, @D.ids.eq_2, @D.ids.eq_3, @D.ids.eq_4, @D.ids.eq_5, @D.ids.eq_6, @D.ids.eq_7, @D.idsL.eq_1, @D.idsL.eq_2, @D.tks.eq_1, @D.tks.eq_2, @D.tks.eq_3, @D.tks.eq_4, @D.tks.eq_5, @D.tks.eq_6, @D.tksL.eq_1, @D.tksL.eq_2, @ownTk.eq_1, @ownTk.eq_2, @backN.eq_1, @zipS.eq_1, @zipS.eq_2, @BF.toR.eq_1, @D.ren.eq_1, @D.ren.eq_2, @D.ren.eq_3, @D.ren.eq_4, @D.ren.eq_5, @D.ren.eq_6⟩
theorem vb1 : (type_of% @D.ren.eq_7) ∧ (type_of% @D.ren.eq_8) ∧ (type_of% @D.ren.eq_9) ∧ (type_of% @D.ren.eq_10) ∧ (type_of% @D.rens.eq_1) ∧ (type_of% @D.rens.eq_2) ∧ (type_of% @renO.eq_1) ∧ (type_of% @renO.eq_2) ∧ (type_of% @renO.eq_3) ∧ (type_of% @renO.eq_4) ∧ (type_of% @nodupB.eq_1) ∧ (type_of% @nodupB.eq_2) ∧ (type_of% @List.contains_cons.{0}) ∧ (type_of% @List.contains_nil.{0}) ∧ (type_of% @List.getElem?_nil.{0}) ∧ (type_of% @List.append_assoc.{0}) ∧ (type_of% @List.elem_cons.{0}) ∧ (type_of% @List.elem_nil.{0}) :=
  ⟨@D.ren.eq_7, @D.ren.eq_8, @D.ren.eq_9, @D.ren.eq_10, @D.rens.eq_1, @D.rens.eq_2, @renO.eq_1, @renO.eq_2, @renO.eq_3, @renO.eq_4, @nodupB.eq_1, @nodupB.eq_2, @List.contains_cons.{0}, @List.contains_nil.{0}, @List.getElem?_nil.{0}, @List.append_assoc.{0}, @List.elem_cons.{0}, @List.elem_nil.{0}⟩
theorem vx0 : (type_of% @stateAt.eq_1) ∧ (type_of% @stateAt.eq_2) ∧ (type_of% @S.drop.eq_1) ∧ (type_of% @dropK.eq_1) ∧ (type_of% @wildIds.eq_1) ∧ (type_of% @finalS.eq_1) ∧ (type_of% @finalS.eq_2) ∧ (type_of% @okX_nil) ∧ (type_of% @okX_u) ∧ (type_of% @okX_t) ∧ (type_of% @List.filter_cons.{0}) ∧ (type_of% @List.filter_nil.{0}) ∧ (type_of% @List.flatMap_cons.{0, 0}) ∧ (type_of% @List.flatMap_nil.{0, 0}) :=
  ⟨@stateAt.eq_1, @stateAt.eq_2, @S.drop.eq_1, @dropK.eq_1, @wildIds.eq_1, @finalS.eq_1, @finalS.eq_2, @okX_nil, @okX_u, @okX_t, @List.filter_cons.{0}, @List.filter_nil.{0}, @List.flatMap_cons.{0, 0}, @List.flatMap_nil.{0, 0}⟩
theorem vy0 : (type_of% @aopsX.eq_1) ∧ (type_of% @aopsX.eq_2) :=
  ⟨@aopsX.eq_1, @aopsX.eq_2⟩
theorem vz : (type_of% @vs0) ∧ (type_of% @vs1) ∧ (type_of% @vs2) ∧ (type_of% @vs3) ∧ (type_of% @vs4) ∧ (type_of% @vc0) ∧ (type_of% @vc1) ∧ (type_of% @ve0) ∧ (type_of% @ve1) ∧ (type_of% @ve2) ∧ (type_of% @ve3) ∧ (type_of% @ve4) := ⟨vs0, vs1, vs2, vs3, vs4, vc0, vc1, ve0, ve1, ve2, ve3, ve4⟩
theorem vb : (type_of% @vb0) ∧ (type_of% @vb1) := ⟨vb0, vb1⟩
end Go.Vi
end

section
/-
  THE REWRITINGS of evened arguments and of rows that moved.
-/
set_option maxRecDepth 10000
namespace Go.Vi
theorem vn : (type_of% @normD.eq_1) ∧ (type_of% @normD.eq_2) ∧ (type_of% @normD.eq_3) ∧ (type_of% @normD.eq_4) ∧ (type_of% @normI.eq_1) ∧ (type_of% @normI.eq_2) ∧ (type_of% @normS.eq_2) ∧ (type_of% @normA.eq_1) ∧ (type_of% @normA.eq_2) ∧ (type_of% @normP.eq_1) ∧ (type_of% @normP.eq_2) ∧ (type_of% @normL.eq_1) ∧ (type_of% @normL.eq_2) ∧ (type_of% @normS_nil) ∧ (type_of% @normS_cons) ∧ (type_of% @norm_slid) ∧ (type_of% @norm_slis) :=
  ⟨@normD.eq_1, @normD.eq_2, @normD.eq_3, @normD.eq_4, @normI.eq_1, @normI.eq_2, @normS.eq_2, @normA.eq_1, @normA.eq_2, @normP.eq_1, @normP.eq_2, @normL.eq_1, @normL.eq_2, @normS_nil, @normS_cons, @norm_slid, @norm_slis⟩
end Go.Vi
end

section
/-
  A FUNCTION WALKED IN THE KIT's OWN WAY, its arguments made even.
-/
set_option linter.unusedVariables false
namespace Go.Vi
open Go.RowKit

theorem contract_callsT {E : Env} {f : FuncId} {p : List D → PF} {ts : List NT} (hT : ∀ args s nm, E.T f args s nm = seeR p (normL ts args) s)
    (hc : ∀ xs, (p xs).vc → ∀ g w vs, (∀ b, w.heap.size ≤ b → g.lim b = 0) → RepL g w xs vs → Calls E.P f vs.toArray w fun e w' => ∃ v, e = .returned v ∧ Rep (g.newer w w') w' (p xs).val v ∧ Below w.heap.size w w') : Contract E f := by
  refine ⟨fun args s s' nm h hv => ?_, fun args s nm g w F vs hv hg hi hF hr => ?_⟩
  · simp only [hT, seeR] at hv ⊢
    cases h1 : seeL s (normL ts args) with
    | none => simp [h1, bad] at hv
    | some zs =>
      simp only [h1, seeL_mono h h1] at hv ⊢
      exact ⟨hv, trivial, trivial, trivial⟩
  · simp only [hT, seeR] at hv ⊢
    have hr := normL_rep (ts := ts) hr
    generalize normL ts args = args at hv hr ⊢
    cases hse : seeL s args with
    | none => simp [hse, bad] at hv
    | some zs =>
      simp only [hse] at hv ⊢
      have hr1 : RepL (g.lent s w (hasB args)) w zs vs := seeL_rep hi hse (fun h => h) hr
      refine (hc zs hv.1 _ w vs (fun b hb => ?_) hr1).mono ?_
      · simp only [Gh.lent]
        split
        · exact rowSize_none hb
        · exact hi.lim b hb
      rintro e w' ⟨v, rfl, hrep, hb⟩
      have hi' := inv_newer hi hb
      refine ⟨v, g.newer w w', rfl, ?_, hi'.less fun i h => h.1, keeps_newer hi hb⟩
      by_cases hB : hasB args = true
      · exact flat_repV (hv.2 hB) hrep
      · refine Rep.ext (g := (g.lent s w (hasB args)).newer w w') (w := w') ⟨fun b => ?_, fun _ _ _ => rfl, fun _ _ h => by simp [Gh.newer, Gh.lent] at h, fun _ _ _ _ h => by simp [Gh.newer, Gh.lent] at h, fun _ _ h => by simp [Gh.newer, Gh.lent] at h⟩ hrep
        simp only [Gh.newer, Gh.lent, hB, false_and, if_false, Bool.false_eq_true]
        exact Nat.le_refl _
end Go.Vi
end

section
set_option linter.unusedVariables false
set_option linter.unusedSimpArgs false
set_option maxHeartbeats 0
set_option maxRecDepth 20000
namespace Go.Vi.CZ
open Go.Proofs

def tyC (t : Nat) : Option TI :=
  match t with
  | 1 => some ⟨.other, 1, 8, .raw .nilFunc, false⟩
  | 2 => some ⟨.int .i64, 1, 8, .int .i64 0, true⟩
  | 3 => some ⟨.int .i64, 1, 8, .int .i64 0, true⟩
  | 4 => some ⟨.bool, 1, 1, .bool false, true⟩
  | 5 => some ⟨.int .u8, 1, 1, .int .u8 0, true⟩
  | 9 => some ⟨.str, 1, 16, .str ⟨#[]⟩, true⟩
  | 12 => some ⟨.int .u64, 1, 8, .int .u64 0, true⟩
  | 20 => some ⟨.other, 1, 16, .raw .nilIface, false⟩
  | 21 => some ⟨.int .i32, 1, 4, .int .i32 0, true⟩
  | 22 => some ⟨.int .u32, 1, 4, .int .u32 0, true⟩
  | 23 => some ⟨.arr 32 5, 32, 32, .arr .u8 32 (List.replicate 32 0), true⟩
  | 24 => some ⟨.arr 32 5, 32, 32, .arr .u8 32 (List.replicate 32 0), true⟩
  | 25 => some ⟨.st [(0, 22), (1, 24), (33, 24), (65, 22), (66, 22), (67, 22)], 68, 80, .agg [.int .u32 0, .arr .u8 32 (List.replicate 32 0), .arr .u8 32 (List.replicate 32 0), .int .u32 0, .int .u32 0, .int .u32 0], true⟩
  | 26 => some ⟨.st [(0, 22), (1, 24), (33, 24), (65, 22), (66, 22), (67, 22)], 68, 80, .agg [.int .u32 0, .arr .u8 32 (List.replicate 32 0), .arr .u8 32 (List.replicate 32 0), .int .u32 0, .int .u32 0, .int .u32 0], true⟩
  | 27 => some ⟨.slice 38, 1, 24, .sl .full 0 [], false⟩
  | 28 => some ⟨.st [(0, 26), (68, 27)], 69, 104, .agg [.agg [.int .u32 0, .arr .u8 32 (List.replicate 32 0), .arr .u8 32 (List.replicate 32 0), .int .u32 0, .int .u32 0, .int .u32 0], .sl .full 0 []], false⟩
  | 29 => some ⟨.st [(0, 26), (68, 27)], 69, 104, .agg [.agg [.int .u32 0, .arr .u8 32 (List.replicate 32 0), .arr .u8 32 (List.replicate 32 0), .int .u32 0, .int .u32 0, .int .u32 0], .sl .full 0 []], false⟩
  | 30 => some ⟨.other, 1, 8, .raw .nilFunc, false⟩
  | 31 => some ⟨.other, 1, 8, .raw .nilFunc, false⟩
  | 32 => some ⟨.int .i64, 1, 8, .int .i64 0, true⟩
  | 33 => some ⟨.other, 1, 8, .raw .nilFunc, false⟩
  | 34 => some ⟨.other, 1, 8, .raw .nilFunc, false⟩
  | 35 => some ⟨.slice 44, 1, 24, .sl .full 0 [], false⟩
  | 36 => some ⟨.slice 46, 1, 24, .sl .full 0 [], false⟩
  | 37 => some ⟨.st [(0, 22), (1, 35), (2, 36), (3, 22)], 4, 64, .agg [.int .u32 0, .sl .full 0 [], .sl .full 0 [], .int .u32 0], false⟩
  | 38 => some ⟨.st [(0, 22), (1, 35), (2, 36), (3, 22)], 4, 64, .agg [.int .u32 0, .sl .full 0 [], .sl .full 0 [], .int .u32 0], false⟩
  | 39 => some ⟨.st [(0, 24), (32, 22)], 33, 36, .agg [.arr .u8 32 (List.replicate 32 0), .int .u32 0], true⟩
  | 40 => some ⟨.st [(0, 24), (32, 22)], 33, 36, .agg [.arr .u8 32 (List.replicate 32 0), .int .u32 0], true⟩
  | 41 => some ⟨.slice 5, 1, 24, .sl .full 0 [], false⟩
  | 42 => some ⟨.slice 41, 1, 24, .sl .full 0 [], false⟩
  | 43 => some ⟨.st [(0, 40), (33, 41), (34, 22), (35, 42)], 36, 96, .agg [.agg [.arr .u8 32 (List.replicate 32 0), .int .u32 0], .sl .full 0 [], .int .u32 0, .sl .full 0 []], false⟩
  | 44 => some ⟨.st [(0, 40), (33, 41), (34, 22), (35, 42)], 36, 96, .agg [.agg [.arr .u8 32 (List.replicate 32 0), .int .u32 0], .sl .full 0 [], .int .u32 0, .sl .full 0 []], false⟩
  | 45 => some ⟨.st [(0, 2), (1, 41)], 2, 32, .agg [.int .i64 0, .sl .full 0 []], false⟩
  | 46 => some ⟨.st [(0, 2), (1, 41)], 2, 32, .agg [.int .i64 0, .sl .full 0 []], false⟩
  | 47 => some ⟨.other, 1, 8, .raw .nilFunc, false⟩
  | 48 => some ⟨.other, 1, 8, .raw .nilFunc, false⟩
  | 49 => some ⟨.slice 52, 1, 24, .sl .full 0 [], false⟩
  | 50 => some ⟨.other, 1, 8, .raw .nilFunc, false⟩
  | 51 => some ⟨.st [(0, 30), (1, 32)], 2, 16, .agg [.raw .nilFunc, .int .i64 0], false⟩
  | 52 => some ⟨.st [(0, 30), (1, 32)], 2, 16, .agg [.raw .nilFunc, .int .i64 0], false⟩
  | 54 => some ⟨.other, 1, 8, .raw .nilFunc, false⟩
  | 56 => some ⟨.other, 1, 8, .raw .nilFunc, false⟩
  | 57 => some ⟨.slice 24, 1, 24, .sl .full 0 [], false⟩
  | 58 => some ⟨.other, 1, 8, .raw .nilFunc, false⟩
  | 59 => some ⟨.other, 1, 8, .raw .nilFunc, false⟩
  | 60 => some ⟨.other, 1, 8, .raw .nilFunc, false⟩
  | 61 => some ⟨.other, 1, 8, .raw .nilFunc, false⟩
  | 62 => some ⟨.other, 1, 8, .raw .nilFunc, false⟩
  | 63 => some ⟨.other, 1, 8, .raw .nilFunc, false⟩
  | 64 => some ⟨.other, 1, 8, .raw .nilFunc, false⟩
  | 65 => some ⟨.other, 1, 8, .raw .nilFunc, false⟩
  | 67 => some ⟨.other, 1, 8, .raw .nilFunc, false⟩
  | 69 => some ⟨.other, 1, 8, .raw .nilFunc, false⟩
  | 70 => some ⟨.other, 1, 8, .raw .nilFunc, false⟩
  | 71 => some ⟨.other, 1, 8, .raw .nilFunc, false⟩
  | 72 => some ⟨.other, 1, 8, .raw .nilFunc, false⟩
  | 73 => some ⟨.other, 1, 8, .raw .nilFunc, false⟩
  | 75 => some ⟨.other, 1, 8, .raw .nilFunc, false⟩
  | 76 => some ⟨.other, 1, 8, .raw .nilFunc, false⟩
  | 77 => some ⟨.other, 1, 8, .raw .nilFunc, false⟩
  | 78 => some ⟨.other, 1, 8, .raw .nilFunc, false⟩
  | 79 => some ⟨.other, 1, 8, .raw .nilFunc, false⟩
  | 80 => some ⟨.other, 1, 8, .raw .nilFunc, false⟩
  | 81 => some ⟨.other, 1, 8, .raw .nilFunc, false⟩
  | 82 => some ⟨.other, 1, 8, .raw .nilFunc, false⟩
  | 83 => some ⟨.other, 1, 8, .raw .nilFunc, false⟩
  | 84 => some ⟨.other, 1, 8, .raw .nilFunc, false⟩
  | 85 => some ⟨.other, 1, 8, .raw .nilFunc, false⟩
  | 86 => some ⟨.other, 1, 8, .raw .nilFunc, false⟩
  | 87 => some ⟨.other, 1, 8, .raw .nilFunc, false⟩
  | 88 => some ⟨.other, 1, 8, .raw .nilFunc, false⟩
  | 89 => some ⟨.other, 1, 8, .raw .nilFunc, false⟩
  | 90 => some ⟨.other, 1, 8, .raw .nilFunc, false⟩
  | 91 => some ⟨.slice 22, 1, 24, .sl .full 0 [], false⟩
  | 92 => some ⟨.other, 1, 8, .raw .nilFunc, false⟩
  | 93 => some ⟨.other, 1, 8, .raw .nilFunc, false⟩
  | 94 => some ⟨.other, 1, 8, .raw .nilFunc, false⟩
  | 95 => some ⟨.other, 1, 8, .raw .nilFunc, false⟩
  | 96 => some ⟨.other, 1, 8, .raw .nilFunc, false⟩
  | 97 => some ⟨.other, 1, 8, .raw .nilFunc, false⟩
  | 98 => some ⟨.int .u64, 1, 8, .int .u64 0, true⟩
  | 99 => some ⟨.other, 1, 8, .raw .nilFunc, false⟩
  | 100 => some ⟨.other, 1, 8, .raw .nilFunc, false⟩
  | 101 => some ⟨.other, 1, 8, .raw .nilFunc, false⟩
  | 102 => some ⟨.other, 1, 8, .raw .nilFunc, false⟩
  | 103 => some ⟨.other, 1, 8, .raw .nilFunc, false⟩
  | 104 => some ⟨.other, 1, 8, .raw .nilFunc, false⟩
  | 105 => some ⟨.other, 1, 8, .raw .nilFunc, false⟩
  | 106 => some ⟨.other, 1, 8, .raw .nilFunc, false⟩
  | 107 => some ⟨.other, 1, 8, .raw .nilFunc, false⟩
  | 108 => some ⟨.other, 1, 8, .raw .nilFunc, false⟩
  | 109 => some ⟨.other, 1, 8, .raw .nilFunc, false⟩
  | 110 => some ⟨.other, 1, 8, .raw .nilFunc, false⟩
  | 111 => some ⟨.other, 1, 8, .raw .nilFunc, false⟩
  | 112 => some ⟨.other, 1, 8, .raw .nilFunc, false⟩
  | 113 => some ⟨.other, 1, 8, .raw .nilFunc, false⟩
  | 114 => some ⟨.other, 1, 8, .raw .nilFunc, false⟩
  | 115 => some ⟨.st [(0, 22), (1, 22), (2, 22), (3, 22), (4, 22), (5, 22), (6, 22), (7, 22)], 8, 32, .agg [.int .u32 0, .int .u32 0, .int .u32 0, .int .u32 0, .int .u32 0, .int .u32 0, .int .u32 0, .int .u32 0], true⟩
  | 116 => some ⟨.st [(0, 22), (1, 22), (2, 22), (3, 22), (4, 22), (5, 22), (6, 22), (7, 22)], 8, 32, .agg [.int .u32 0, .int .u32 0, .int .u32 0, .int .u32 0, .int .u32 0, .int .u32 0, .int .u32 0, .int .u32 0], true⟩
  | 117 => some ⟨.other, 1, 8, .raw .nilFunc, false⟩
  | 118 => some ⟨.other, 1, 8, .raw .nilFunc, false⟩
  | 119 => some ⟨.other, 1, 8, .raw .nilFunc, false⟩
  | 120 => some ⟨.other, 1, 8, .raw .nilFunc, false⟩
  | 121 => some ⟨.other, 1, 8, .raw .nilFunc, false⟩
  | 122 => some ⟨.other, 1, 8, .raw .nilFunc, false⟩
  | 124 => some ⟨.other, 1, 8, .raw .nilFunc, false⟩
  | 125 => some ⟨.other, 1, 8, .raw .nilFunc, false⟩
  | 126 => some ⟨.arr 8 22, 8, 32, .arr .u32 8 (List.replicate 8 0), true⟩
  | 127 => some ⟨.int .u64, 1, 8, .int .u64 0, true⟩
  | 128 => some ⟨.other, 1, 8, .raw .nilFunc, false⟩
  | 129 => some ⟨.other, 1, 8, .raw .nilFunc, false⟩
  | 130 => some ⟨.other, 1, 8, .raw .nilFunc, false⟩
  | 131 => some ⟨.other, 1, 8, .raw .nilFunc, false⟩
  | 132 => some ⟨.other, 1, 8, .raw .nilFunc, false⟩
  | 133 => some ⟨.arr 64 22, 64, 256, .arr .u32 64 (List.replicate 64 0), true⟩
  | 134 => some ⟨.other, 1, 8, .raw .nilFunc, false⟩
  | 135 => some ⟨.other, 1, 8, .raw .nilFunc, false⟩
  | 136 => some ⟨.other, 1, 8, .raw .nilFunc, false⟩
  | 137 => some ⟨.slice 3, 1, 24, .sl .full 0 [], false⟩
  | 138 => some ⟨.other, 1, 8, .raw .nilFunc, false⟩
  | 144 => some ⟨.other, 1, 8, .raw .nilFunc, false⟩
  | 147 => some ⟨.other, 1, 8, .raw .nilFunc, false⟩
  | 148 => some ⟨.ptr 5, 1, 8, .raw (.pointer none), false⟩
  | 151 => some ⟨.st [(0, 12), (1, 12), (2, 22), (3, 145), (4, 5), (5, 5), (6, 146), (7, 147), (8, 148), (9, 149), (10, 150)], 11, 48, .agg [.int .u64 0, .int .u64 0, .int .u32 0, .int .u8 0, .int .u8 0, .int .u8 0, .int .u8 0, .raw .nilFunc, .raw (.pointer none), .int .i32 0, .int .i32 0], false⟩
  | _ => none
def spec (f : Nat) : FS2 :=
  match f with
  | 93 => .pure [] sp_first
  | 65 => .pure [] sp_refRoundNumbers
  | 66 => .pure [] sp_refFirst
  | 67 => .pure [.ints .u32, .ints .u8, .ints .u32] sp_refChange
  | 102 => .pure [] sp_closing
  | 90 => .pure [.ints .u8, .ints .u32] sp_refNumber
  | 91 => .pure [] sp_three
  | 92 => .pure [] sp_Right
  | 101 => .pure [] sp_Shift
  | 109 => .pure [] sp_round
  | 110 => .pure [] sp_plus
  | 112 => .pure [.id, .ints .i64] sp_turned
  | 113 => .pure [] sp_rotl
  | 64 => .pure [] sp_refClosing
  | 49 => .pure [.ints .u8] sp_refSum
  | 34 => .pure [.ints .u8] sp_refTwice
  | 108 => .box [.ints .u8] (sp_numbers 111)
  | 111 => .box [] sp_next
  | 103 => .pure [.id, .ints .u8] sp_change
  | 94 => .pure [.id, .id, .ints .u8] sp_digest
  | 69 => .pure [.ints .u8] sp_sum
  | 68 => .pure [] sp_again
  | 50 => .pure [.ints .u8] sp_twice
  | 55 => .pure [] sp_pair
  | 54 => .pure [] (sp_chunk 80)
  | 40 => .box [.id, .id, .id, .ints .u8] sp_rootEach
  | 39 => .box [] (sp_rows 40 0 0)
  | 27 => .pure [] sp_root
  | 46 => .pure [] sp_refPartner
  | 35 => .pure [] sp_refMText
  | 31 => .pure [] sp_refAbove
  | 13 => .pure [] sp_refRoot
  | 106 => .boxE [.ints .u8] sp_clone
  | 105 => .pure [] sp_bwidth
  | 97 => .box [.ints .u8] sp_bput
  | 73 => .box [.ints .u8] sp_num
  | 107 => .pure [] sp_csize
  | 98 => .box [.ints .u8] sp_cput
  | 79 => .box [.ints .u8, .ints .u8] sp_putText
  | 75 => .box [.ints .u8, .st [.id, .ints .u8, .id, .sl 1 (.ints .u8)]] sp_putIn
  | 77 => .box [.ints .u8, .st [.id, .ints .u8]] sp_putOut
  | 74 => .box [.ints .u8, .sl 36 (.st [.id, .ints .u8, .id, .sl 1 (.ints .u8)])] (sp_layIn 75)
  | 76 => .box [.ints .u8, .sl 2 (.st [.id, .ints .u8])] (sp_layOut 77)
  | 78 => .box [.ints .u8] (sp_layWit 79)
  | 52 => .box [.ints .u8, .st [.id, .sl 36 (.st [.id, .ints .u8, .id, .sl 1 (.ints .u8)]), .sl 2 (.st [.id, .ints .u8])]] sp_laid
  | 59 => .pure [.st [.id, .ints .u8, .id, .sl 1 (.ints .u8)]] sp_w1
  | 83 => .pure [.sl 36 (.st [.id, .ints .u8, .id, .sl 1 (.ints .u8)])] (sp_indexIn 59)
  | 58 => .pure [.sl 36 (.st [.id, .ints .u8, .id, .sl 1 (.ints .u8)])] (sp_containsIn 59)
  | 44 => .pure [.st [.id, .sl 36 (.st [.id, .ints .u8, .id, .sl 1 (.ints .u8)]), .sl 2 (.st [.id, .ints .u8])]] sp_twitnessed
  | 96 => .pure [.ints .u8] sp_in1
  | 104 => .pure [] (sp_indexB 96)
  | 95 => .pure [] (sp_containsB 96)
  | 71 => .pure [.st [.id, .ints .u8, .id, .sl 1 (.ints .u8)]] sp_tin
  | 72 => .pure [.st [.id, .ints .u8]] sp_tout
  | 70 => .pure [] sp_tmany
  | 51 => .pure [.st [.id, .sl 36 (.st [.id, .ints .u8, .id, .sl 1 (.ints .u8)]), .sl 2 (.st [.id, .ints .u8])]] sp_tcheck
  | 99 => .pure [.ints .u8, .st [.id, .sl 36 (.st [.id, .ints .u8, .id, .sl 1 (.ints .u8)]), .sl 2 (.st [.id, .ints .u8])]] sp_tput
  | 37 => .pure [.ints .u8, .st [.id, .sl 36 (.st [.id, .ints .u8, .id, .sl 1 (.ints .u8)]), .sl 2 (.st [.id, .ints .u8])]] sp_tbare
  | 36 => .pure [.ints .u8] sp_tname
  | 18 => .pure [.st [.id, .sl 36 (.st [.id, .ints .u8, .id, .sl 1 (.ints .u8)]), .sl 2 (.st [.id, .ints .u8])]] sp_tid
  | 85 => .pure [.st [.id, .sl 36 (.st [.id, .ints .u8, .id, .sl 1 (.ints .u8)]), .sl 2 (.st [.id, .ints .u8])]] sp_tfull
  | 100 => .box [] sp_rdigits
  | 87 => .box [] sp_tdigits
  | 88 => .box [] sp_rcount
  | 89 => .pure [.ints .u8] sp_rtext
  | 86 => .pure [] sp_rmany
  | 61 => .pure [.st [.id, .sl 36 (.st [.id, .ints .u8, .id, .sl 1 (.ints .u8)]), .sl 2 (.st [.id, .ints .u8])]] sp_tcheck
  | 17 => .pure [.st [.id, .sl 36 (.st [.id, .ints .u8, .id, .sl 1 (.ints .u8)]), .sl 2 (.st [.id, .ints .u8])]] sp_twitnessed
  | 62 => .pure [.st [.id, .sl 36 (.st [.id, .ints .u8, .id, .sl 1 (.ints .u8)]), .sl 2 (.st [.id, .ints .u8])]] sp_rlay
  | 63 => .pure [.st [.id, .sl 36 (.st [.id, .ints .u8, .id, .sl 1 (.ints .u8)]), .sl 2 (.st [.id, .ints .u8])]] sp_rput
  | 47 => .pure [.st [.id, .sl 36 (.st [.id, .ints .u8, .id, .sl 1 (.ints .u8)]), .sl 2 (.st [.id, .ints .u8])]] sp_rbare
  | 32 => .pure [.st [.id, .sl 36 (.st [.id, .ints .u8, .id, .sl 1 (.ints .u8)]), .sl 2 (.st [.id, .ints .u8])]] sp_tid
  | 48 => .pure [.st [.id, .sl 36 (.st [.id, .ints .u8, .id, .sl 1 (.ints .u8)]), .sl 2 (.st [.id, .ints .u8])]] sp_tfull
  | 84 => .pure [.id, .st [.id, .sl 36 (.st [.id, .ints .u8, .id, .sl 1 (.ints .u8)]), .sl 2 (.st [.id, .ints .u8])]] sp_fulls1
  | 42 => .pure [.id, .st [.id, .sl 36 (.st [.id, .ints .u8, .id, .sl 1 (.ints .u8)]), .sl 2 (.st [.id, .ints .u8])]] sp_ids1
  | 41 => .pure [.st [.id, .sl 4 (.st [.id, .sl 36 (.st [.id, .ints .u8, .id, .sl 1 (.ints .u8)]), .sl 2 (.st [.id, .ints .u8])])]] (sp_names 84 42)
  | 60 => .pure [.st [.id, .sl 4 (.st [.id, .sl 36 (.st [.id, .ints .u8, .id, .sl 1 (.ints .u8)]), .sl 2 (.st [.id, .ints .u8])])]] sp_fulls
  | 28 => .pure [.st [.id, .sl 4 (.st [.id, .sl 36 (.st [.id, .ints .u8, .id, .sl 1 (.ints .u8)]), .sl 2 (.st [.id, .ints .u8])])]] sp_ids
  | 33 => .pure [.st [.id, .sl 4 (.st [.id, .sl 36 (.st [.id, .ints .u8, .id, .sl 1 (.ints .u8)]), .sl 2 (.st [.id, .ints .u8])])]] sp_fulls
  | 14 => .pure [.st [.id, .sl 4 (.st [.id, .sl 36 (.st [.id, .ints .u8, .id, .sl 1 (.ints .u8)]), .sl 2 (.st [.id, .ints .u8])])]] sp_ids
  | 82 => .pure [] sp_hp2
  | 57 => .pure [] sp_hasPrefix
  | 43 => .pure [.st [.id, .sl 4 (.st [.id, .sl 36 (.st [.id, .ints .u8, .id, .sl 1 (.ints .u8)]), .sl 2 (.st [.id, .ints .u8])])]] sp_gcommit
  | 45 => .pure [.st [.id, .sl 4 (.st [.id, .sl 36 (.st [.id, .ints .u8, .id, .sl 1 (.ints .u8)]), .sl 2 (.st [.id, .ints .u8])])]] sp_gwanted
  | 15 => .pure [.st [.id, .sl 4 (.st [.id, .sl 36 (.st [.id, .ints .u8, .id, .sl 1 (.ints .u8)]), .sl 2 (.st [.id, .ints .u8])])]] sp_gcommit
  | 16 => .pure [.st [.id, .sl 4 (.st [.id, .sl 36 (.st [.id, .ints .u8, .id, .sl 1 (.ints .u8)]), .sl 2 (.st [.id, .ints .u8])])]] sp_gwanted
  | 56 => .pure [.sl 2 (.st [.id, .ints .u8])] (sp_back 81)
  | 4 => .pure [.st [.id, .sl 4 (.st [.id, .sl 36 (.st [.id, .ints .u8, .id, .sl 1 (.ints .u8)]), .sl 2 (.st [.id, .ints .u8])])]] sp_small
  | 9 => .pure [.st [.id, .sl 36 (.st [.id, .ints .u8, .id, .sl 1 (.ints .u8)]), .sl 2 (.st [.id, .ints .u8])]] sp_cbase
  | 25 => .pure [.st [.id, .sl 36 (.st [.id, .ints .u8, .id, .sl 1 (.ints .u8)]), .sl 2 (.st [.id, .ints .u8])]] sp_csum
  | 24 => .pure [.st [.id, .sl 36 (.st [.id, .ints .u8, .id, .sl 1 (.ints .u8)]), .sl 2 (.st [.id, .ints .u8])]] sp_cval
  | 22 => .pure [.st [.id, .sl 36 (.st [.id, .ints .u8, .id, .sl 1 (.ints .u8)]), .sl 2 (.st [.id, .ints .u8])]] sp_double
  | 53 => .pure [.sl 4 (.st [.id, .sl 36 (.st [.id, .ints .u8, .id, .sl 1 (.ints .u8)]), .sl 2 (.st [.id, .ints .u8])])] (sp_indexTx 9 22 24 44)
  | 38 => .pure [.sl 4 (.st [.id, .sl 36 (.st [.id, .ints .u8, .id, .sl 1 (.ints .u8)]), .sl 2 (.st [.id, .ints .u8])])] (sp_containsTx 9 22 24 44)
  | 21 => .pure [.sl 4 (.st [.id, .sl 36 (.st [.id, .ints .u8, .id, .sl 1 (.ints .u8)]), .sl 2 (.st [.id, .ints .u8])])] (sp_none 9 22 24 44)
  | 19 => .pure [.st [.id, .sl 4 (.st [.id, .sl 36 (.st [.id, .ints .u8, .id, .sl 1 (.ints .u8)]), .sl 2 (.st [.id, .ints .u8])])]] sp_coinbase
  | 20 => .pure [.st [.id, .sl 4 (.st [.id, .sl 36 (.st [.id, .ints .u8, .id, .sl 1 (.ints .u8)]), .sl 2 (.st [.id, .ints .u8])])]] sp_rule1
  | 23 => .pure [.st [.id, .sl 4 (.st [.id, .sl 36 (.st [.id, .ints .u8, .id, .sl 1 (.ints .u8)]), .sl 2 (.st [.id, .ints .u8])])]] sp_rule2
  | 26 => .pure [.st [.id, .sl 4 (.st [.id, .sl 36 (.st [.id, .ints .u8, .id, .sl 1 (.ints .u8)]), .sl 2 (.st [.id, .ints .u8])])]] sp_rule3
  | 29 => .pure [.st [.id, .sl 4 (.st [.id, .sl 36 (.st [.id, .ints .u8, .id, .sl 1 (.ints .u8)]), .sl 2 (.st [.id, .ints .u8])])]] sp_rule4
  | 30 => .pure [.st [.id, .sl 4 (.st [.id, .sl 36 (.st [.id, .ints .u8, .id, .sl 1 (.ints .u8)]), .sl 2 (.st [.id, .ints .u8])])]] sp_cwitnessed
  | 10 => .pure [] (sp_rules 19 20 23 26 29 30)
  | 6 => .pure [.st [.id, .sl 4 (.st [.id, .sl 36 (.st [.id, .ints .u8, .id, .sl 1 (.ints .u8)]), .sl 2 (.st [.id, .ints .u8])])]] sp_cblock
  | 8 => .pure [] sp_plain
  | 5 => .pure [] sp_cworks
  | 11 => .pure [.st [.id, .sl 36 (.st [.id, .ints .u8, .id, .sl 1 (.ints .u8)]), .sl 2 (.st [.id, .ints .u8])]] sp_rcbase
  | 12 => .pure [.st [.id, .sl 36 (.st [.id, .ints .u8, .id, .sl 1 (.ints .u8)]), .sl 2 (.st [.id, .ints .u8])]] sp_rcsum
  | 7 => .pure [.st [.id, .sl 4 (.st [.id, .sl 36 (.st [.id, .ints .u8, .id, .sl 1 (.ints .u8)]), .sl 2 (.st [.id, .ints .u8])])]] sp_rcblock
  | 3 => .pure [.st [.id, .sl 4 (.st [.id, .sl 36 (.st [.id, .ints .u8, .id, .sl 1 (.ints .u8)]), .sl 2 (.st [.id, .ints .u8])])]] sp_lawCheckBlocks
  | _ => .pure [] fun _ => noPF
def glC (i : Nat) : Option D :=
  match i with
  | 0 => some (.arr .u32 64 kList)
  | _ => none
noncomputable def E : Env where
  P := Tryz.prog
  ty := tyC
  gl := glC
  T := fun f args s nm => (spec f).T args s nm
theorem ty_ok : ∀ t i, E.ty t = some i → TIOk E.P t i := by
  intro t i h
  change tyC t = some i at h
  unfold tyC at h
  split at h <;> (try cases h)
  · exact ⟨⟨Tryz.t1, _, rfl, rfl, rfl, rfl, zero_ok rfl rfl, rfl⟩, ⟨_, Tryz.underlying1, rfl⟩, fun h => by cases h⟩
  · exact ⟨⟨Tryz.t2, _, rfl, rfl, rfl, rfl, zero_ok rfl rfl, rfl⟩, Tryz.underlying2, fun _ => ⟨by kernel_rfl, fun fs h => by rw [show E.P.underlying 2 = _ from Tryz.underlying2] at h; cases h⟩⟩
  · exact ⟨⟨Tryz.t3, _, rfl, rfl, rfl, rfl, zero_ok rfl rfl, rfl⟩, Tryz.underlying3, fun _ => ⟨by kernel_rfl, fun fs h => by rw [show E.P.underlying 3 = _ from Tryz.underlying3] at h; cases h⟩⟩
  · exact ⟨⟨Tryz.t4, _, rfl, rfl, rfl, rfl, zero_ok rfl rfl, rfl⟩, Tryz.underlying4, fun _ => ⟨by kernel_rfl, fun fs h => by rw [show E.P.underlying 4 = _ from Tryz.underlying4] at h; cases h⟩⟩
  · exact ⟨⟨Tryz.t5, _, rfl, rfl, rfl, rfl, zero_ok rfl rfl, rfl⟩, Tryz.underlying5, fun _ => ⟨by kernel_rfl, fun fs h => by rw [show E.P.underlying 5 = _ from Tryz.underlying5] at h; cases h⟩⟩
  · exact ⟨⟨Tryz.t9, _, rfl, rfl, rfl, rfl, zero_ok rfl rfl, rfl⟩, Tryz.underlying9, fun _ => ⟨by kernel_rfl, fun fs h => by rw [show E.P.underlying 9 = _ from Tryz.underlying9] at h; cases h⟩⟩
  · exact ⟨⟨Tryz.t12, _, rfl, rfl, rfl, rfl, zero_ok rfl rfl, rfl⟩, Tryz.underlying12, fun _ => ⟨by kernel_rfl, fun fs h => by rw [show E.P.underlying 12 = _ from Tryz.underlying12] at h; cases h⟩⟩
  · exact ⟨⟨Tryz.t20, _, rfl, rfl, rfl, rfl, zero_ok rfl rfl, rfl⟩, ⟨_, Tryz.underlying20, rfl⟩, fun h => by cases h⟩
  · exact ⟨⟨Tryz.t21, _, rfl, rfl, rfl, rfl, zero_ok rfl rfl, rfl⟩, Tryz.underlying21, fun _ => ⟨by kernel_rfl, fun fs h => by rw [show E.P.underlying 21 = _ from Tryz.underlying21] at h; cases h⟩⟩
  · exact ⟨⟨Tryz.t22, _, rfl, rfl, rfl, rfl, zero_ok rfl rfl, rfl⟩, Tryz.underlying22, fun _ => ⟨by kernel_rfl, fun fs h => by rw [show E.P.underlying 22 = _ from Tryz.underlying22] at h; cases h⟩⟩
  · exact ⟨⟨Tryz.t23, _, rfl, rfl, rfl, rfl, zero_ok rfl rfl, rfl⟩, Tryz.underlying23, fun _ => ⟨by kernel_rfl, fun fs h => by rw [show E.P.underlying 23 = _ from Tryz.underlying23] at h; cases h⟩⟩
  · exact ⟨⟨Tryz.t24, _, rfl, rfl, rfl, rfl, zero_ok rfl rfl, rfl⟩, Tryz.underlying24, fun _ => ⟨by kernel_rfl, fun fs h => by rw [show E.P.underlying 24 = _ from Tryz.underlying24] at h; cases h⟩⟩
  · exact ⟨⟨Tryz.t25, _, rfl, rfl, rfl, rfl, zero_ok rfl rfl, rfl⟩, ⟨_, Tryz.underlying25, rfl⟩, fun _ => ⟨by kernel_rfl, fun fs h => by rw [show E.P.underlying 25 = _ from Tryz.underlying25] at h; cases h; intro f hf; simp at hf; rcases hf with rfl | rfl | rfl | rfl | rfl | rfl <;> decide⟩⟩
  · exact ⟨⟨Tryz.t26, _, rfl, rfl, rfl, rfl, zero_ok rfl rfl, rfl⟩, ⟨_, Tryz.underlying26, rfl⟩, fun _ => ⟨by kernel_rfl, fun fs h => by rw [show E.P.underlying 26 = _ from Tryz.underlying26] at h; cases h; intro f hf; simp at hf; rcases hf with rfl | rfl | rfl | rfl | rfl | rfl <;> decide⟩⟩
  · exact ⟨⟨Tryz.t27, _, rfl, rfl, rfl, rfl, zero_ok rfl rfl, rfl⟩, Tryz.underlying27, fun h => by cases h⟩
  · exact ⟨⟨Tryz.t28, _, rfl, rfl, rfl, rfl, zero_ok rfl rfl, rfl⟩, ⟨_, Tryz.underlying28, rfl⟩, fun h => by cases h⟩
  · exact ⟨⟨Tryz.t29, _, rfl, rfl, rfl, rfl, zero_ok rfl rfl, rfl⟩, ⟨_, Tryz.underlying29, rfl⟩, fun h => by cases h⟩
  · exact ⟨⟨Tryz.t30, _, rfl, rfl, rfl, rfl, zero_ok rfl rfl, rfl⟩, ⟨_, Tryz.underlying30, rfl⟩, fun h => by cases h⟩
  · exact ⟨⟨Tryz.t31, _, rfl, rfl, rfl, rfl, zero_ok rfl rfl, rfl⟩, ⟨_, Tryz.underlying31, rfl⟩, fun h => by cases h⟩
  · exact ⟨⟨Tryz.t32, _, rfl, rfl, rfl, rfl, zero_ok rfl rfl, rfl⟩, Tryz.underlying32, fun _ => ⟨by kernel_rfl, fun fs h => by rw [show E.P.underlying 32 = _ from Tryz.underlying32] at h; cases h⟩⟩
  · exact ⟨⟨Tryz.t33, _, rfl, rfl, rfl, rfl, zero_ok rfl rfl, rfl⟩, ⟨_, Tryz.underlying33, rfl⟩, fun h => by cases h⟩
  · exact ⟨⟨Tryz.t34, _, rfl, rfl, rfl, rfl, zero_ok rfl rfl, rfl⟩, ⟨_, Tryz.underlying34, rfl⟩, fun h => by cases h⟩
  · exact ⟨⟨Tryz.t35, _, rfl, rfl, rfl, rfl, zero_ok rfl rfl, rfl⟩, Tryz.underlying35, fun h => by cases h⟩
  · exact ⟨⟨Tryz.t36, _, rfl, rfl, rfl, rfl, zero_ok rfl rfl, rfl⟩, Tryz.underlying36, fun h => by cases h⟩
  · exact ⟨⟨Tryz.t37, _, rfl, rfl, rfl, rfl, zero_ok rfl rfl, rfl⟩, ⟨_, Tryz.underlying37, rfl⟩, fun h => by cases h⟩
  · exact ⟨⟨Tryz.t38, _, rfl, rfl, rfl, rfl, zero_ok rfl rfl, rfl⟩, ⟨_, Tryz.underlying38, rfl⟩, fun h => by cases h⟩
  · exact ⟨⟨Tryz.t39, _, rfl, rfl, rfl, rfl, zero_ok rfl rfl, rfl⟩, ⟨_, Tryz.underlying39, rfl⟩, fun _ => ⟨by kernel_rfl, fun fs h => by rw [show E.P.underlying 39 = _ from Tryz.underlying39] at h; cases h; intro f hf; simp at hf; rcases hf with rfl | rfl <;> decide⟩⟩
  · exact ⟨⟨Tryz.t40, _, rfl, rfl, rfl, rfl, zero_ok rfl rfl, rfl⟩, ⟨_, Tryz.underlying40, rfl⟩, fun _ => ⟨by kernel_rfl, fun fs h => by rw [show E.P.underlying 40 = _ from Tryz.underlying40] at h; cases h; intro f hf; simp at hf; rcases hf with rfl | rfl <;> decide⟩⟩
  · exact ⟨⟨Tryz.t41, _, rfl, rfl, rfl, rfl, zero_ok rfl rfl, rfl⟩, Tryz.underlying41, fun h => by cases h⟩
  · exact ⟨⟨Tryz.t42, _, rfl, rfl, rfl, rfl, zero_ok rfl rfl, rfl⟩, Tryz.underlying42, fun h => by cases h⟩
  · exact ⟨⟨Tryz.t43, _, rfl, rfl, rfl, rfl, zero_ok rfl rfl, rfl⟩, ⟨_, Tryz.underlying43, rfl⟩, fun h => by cases h⟩
  · exact ⟨⟨Tryz.t44, _, rfl, rfl, rfl, rfl, zero_ok rfl rfl, rfl⟩, ⟨_, Tryz.underlying44, rfl⟩, fun h => by cases h⟩
  · exact ⟨⟨Tryz.t45, _, rfl, rfl, rfl, rfl, zero_ok rfl rfl, rfl⟩, ⟨_, Tryz.underlying45, rfl⟩, fun h => by cases h⟩
  · exact ⟨⟨Tryz.t46, _, rfl, rfl, rfl, rfl, zero_ok rfl rfl, rfl⟩, ⟨_, Tryz.underlying46, rfl⟩, fun h => by cases h⟩
  · exact ⟨⟨Tryz.t47, _, rfl, rfl, rfl, rfl, zero_ok rfl rfl, rfl⟩, ⟨_, Tryz.underlying47, rfl⟩, fun h => by cases h⟩
  · exact ⟨⟨Tryz.t48, _, rfl, rfl, rfl, rfl, zero_ok rfl rfl, rfl⟩, ⟨_, Tryz.underlying48, rfl⟩, fun h => by cases h⟩
  · exact ⟨⟨Tryz.t49, _, rfl, rfl, rfl, rfl, zero_ok rfl rfl, rfl⟩, Tryz.underlying49, fun h => by cases h⟩
  · exact ⟨⟨Tryz.t50, _, rfl, rfl, rfl, rfl, zero_ok rfl rfl, rfl⟩, ⟨_, Tryz.underlying50, rfl⟩, fun h => by cases h⟩
  · exact ⟨⟨Tryz.t51, _, rfl, rfl, rfl, rfl, zero_ok rfl rfl, rfl⟩, ⟨_, Tryz.underlying51, rfl⟩, fun h => by cases h⟩
  · exact ⟨⟨Tryz.t52, _, rfl, rfl, rfl, rfl, zero_ok rfl rfl, rfl⟩, ⟨_, Tryz.underlying52, rfl⟩, fun h => by cases h⟩
  · exact ⟨⟨Tryz.t54, _, rfl, rfl, rfl, rfl, zero_ok rfl rfl, rfl⟩, ⟨_, Tryz.underlying54, rfl⟩, fun h => by cases h⟩
  · exact ⟨⟨Tryz.t56, _, rfl, rfl, rfl, rfl, zero_ok rfl rfl, rfl⟩, ⟨_, Tryz.underlying56, rfl⟩, fun h => by cases h⟩
  · exact ⟨⟨Tryz.t57, _, rfl, rfl, rfl, rfl, zero_ok rfl rfl, rfl⟩, Tryz.underlying57, fun h => by cases h⟩
  · exact ⟨⟨Tryz.t58, _, rfl, rfl, rfl, rfl, zero_ok rfl rfl, rfl⟩, ⟨_, Tryz.underlying58, rfl⟩, fun h => by cases h⟩
  · exact ⟨⟨Tryz.t59, _, rfl, rfl, rfl, rfl, zero_ok rfl rfl, rfl⟩, ⟨_, Tryz.underlying59, rfl⟩, fun h => by cases h⟩
  · exact ⟨⟨Tryz.t60, _, rfl, rfl, rfl, rfl, zero_ok rfl rfl, rfl⟩, ⟨_, Tryz.underlying60, rfl⟩, fun h => by cases h⟩
  · exact ⟨⟨Tryz.t61, _, rfl, rfl, rfl, rfl, zero_ok rfl rfl, rfl⟩, ⟨_, Tryz.underlying61, rfl⟩, fun h => by cases h⟩
  · exact ⟨⟨Tryz.t62, _, rfl, rfl, rfl, rfl, zero_ok rfl rfl, rfl⟩, ⟨_, Tryz.underlying62, rfl⟩, fun h => by cases h⟩
  · exact ⟨⟨Tryz.t63, _, rfl, rfl, rfl, rfl, zero_ok rfl rfl, rfl⟩, ⟨_, Tryz.underlying63, rfl⟩, fun h => by cases h⟩
  · exact ⟨⟨Tryz.t64, _, rfl, rfl, rfl, rfl, zero_ok rfl rfl, rfl⟩, ⟨_, Tryz.underlying64, rfl⟩, fun h => by cases h⟩
  · exact ⟨⟨Tryz.t65, _, rfl, rfl, rfl, rfl, zero_ok rfl rfl, rfl⟩, ⟨_, Tryz.underlying65, rfl⟩, fun h => by cases h⟩
  · exact ⟨⟨Tryz.t67, _, rfl, rfl, rfl, rfl, zero_ok rfl rfl, rfl⟩, ⟨_, Tryz.underlying67, rfl⟩, fun h => by cases h⟩
  · exact ⟨⟨Tryz.t69, _, rfl, rfl, rfl, rfl, zero_ok rfl rfl, rfl⟩, ⟨_, Tryz.underlying69, rfl⟩, fun h => by cases h⟩
  · exact ⟨⟨Tryz.t70, _, rfl, rfl, rfl, rfl, zero_ok rfl rfl, rfl⟩, ⟨_, Tryz.underlying70, rfl⟩, fun h => by cases h⟩
  · exact ⟨⟨Tryz.t71, _, rfl, rfl, rfl, rfl, zero_ok rfl rfl, rfl⟩, ⟨_, Tryz.underlying71, rfl⟩, fun h => by cases h⟩
  · exact ⟨⟨Tryz.t72, _, rfl, rfl, rfl, rfl, zero_ok rfl rfl, rfl⟩, ⟨_, Tryz.underlying72, rfl⟩, fun h => by cases h⟩
  · exact ⟨⟨Tryz.t73, _, rfl, rfl, rfl, rfl, zero_ok rfl rfl, rfl⟩, ⟨_, Tryz.underlying73, rfl⟩, fun h => by cases h⟩
  · exact ⟨⟨Tryz.t75, _, rfl, rfl, rfl, rfl, zero_ok rfl rfl, rfl⟩, ⟨_, Tryz.underlying75, rfl⟩, fun h => by cases h⟩
  · exact ⟨⟨Tryz.t76, _, rfl, rfl, rfl, rfl, zero_ok rfl rfl, rfl⟩, ⟨_, Tryz.underlying76, rfl⟩, fun h => by cases h⟩
  · exact ⟨⟨Tryz.t77, _, rfl, rfl, rfl, rfl, zero_ok rfl rfl, rfl⟩, ⟨_, Tryz.underlying77, rfl⟩, fun h => by cases h⟩
  · exact ⟨⟨Tryz.t78, _, rfl, rfl, rfl, rfl, zero_ok rfl rfl, rfl⟩, ⟨_, Tryz.underlying78, rfl⟩, fun h => by cases h⟩
  · exact ⟨⟨Tryz.t79, _, rfl, rfl, rfl, rfl, zero_ok rfl rfl, rfl⟩, ⟨_, Tryz.underlying79, rfl⟩, fun h => by cases h⟩
  · exact ⟨⟨Tryz.t80, _, rfl, rfl, rfl, rfl, zero_ok rfl rfl, rfl⟩, ⟨_, Tryz.underlying80, rfl⟩, fun h => by cases h⟩
  · exact ⟨⟨Tryz.t81, _, rfl, rfl, rfl, rfl, zero_ok rfl rfl, rfl⟩, ⟨_, Tryz.underlying81, rfl⟩, fun h => by cases h⟩
  · exact ⟨⟨Tryz.t82, _, rfl, rfl, rfl, rfl, zero_ok rfl rfl, rfl⟩, ⟨_, Tryz.underlying82, rfl⟩, fun h => by cases h⟩
  · exact ⟨⟨Tryz.t83, _, rfl, rfl, rfl, rfl, zero_ok rfl rfl, rfl⟩, ⟨_, Tryz.underlying83, rfl⟩, fun h => by cases h⟩
  · exact ⟨⟨Tryz.t84, _, rfl, rfl, rfl, rfl, zero_ok rfl rfl, rfl⟩, ⟨_, Tryz.underlying84, rfl⟩, fun h => by cases h⟩
  · exact ⟨⟨Tryz.t85, _, rfl, rfl, rfl, rfl, zero_ok rfl rfl, rfl⟩, ⟨_, Tryz.underlying85, rfl⟩, fun h => by cases h⟩
  · exact ⟨⟨Tryz.t86, _, rfl, rfl, rfl, rfl, zero_ok rfl rfl, rfl⟩, ⟨_, Tryz.underlying86, rfl⟩, fun h => by cases h⟩
  · exact ⟨⟨Tryz.t87, _, rfl, rfl, rfl, rfl, zero_ok rfl rfl, rfl⟩, ⟨_, Tryz.underlying87, rfl⟩, fun h => by cases h⟩
  · exact ⟨⟨Tryz.t88, _, rfl, rfl, rfl, rfl, zero_ok rfl rfl, rfl⟩, ⟨_, Tryz.underlying88, rfl⟩, fun h => by cases h⟩
  · exact ⟨⟨Tryz.t89, _, rfl, rfl, rfl, rfl, zero_ok rfl rfl, rfl⟩, ⟨_, Tryz.underlying89, rfl⟩, fun h => by cases h⟩
  · exact ⟨⟨Tryz.t90, _, rfl, rfl, rfl, rfl, zero_ok rfl rfl, rfl⟩, ⟨_, Tryz.underlying90, rfl⟩, fun h => by cases h⟩
  · exact ⟨⟨Tryz.t91, _, rfl, rfl, rfl, rfl, zero_ok rfl rfl, rfl⟩, Tryz.underlying91, fun h => by cases h⟩
  · exact ⟨⟨Tryz.t92, _, rfl, rfl, rfl, rfl, zero_ok rfl rfl, rfl⟩, ⟨_, Tryz.underlying92, rfl⟩, fun h => by cases h⟩
  · exact ⟨⟨Tryz.t93, _, rfl, rfl, rfl, rfl, zero_ok rfl rfl, rfl⟩, ⟨_, Tryz.underlying93, rfl⟩, fun h => by cases h⟩
  · exact ⟨⟨Tryz.t94, _, rfl, rfl, rfl, rfl, zero_ok rfl rfl, rfl⟩, ⟨_, Tryz.underlying94, rfl⟩, fun h => by cases h⟩
  · exact ⟨⟨Tryz.t95, _, rfl, rfl, rfl, rfl, zero_ok rfl rfl, rfl⟩, ⟨_, Tryz.underlying95, rfl⟩, fun h => by cases h⟩
  · exact ⟨⟨Tryz.t96, _, rfl, rfl, rfl, rfl, zero_ok rfl rfl, rfl⟩, ⟨_, Tryz.underlying96, rfl⟩, fun h => by cases h⟩
  · exact ⟨⟨Tryz.t97, _, rfl, rfl, rfl, rfl, zero_ok rfl rfl, rfl⟩, ⟨_, Tryz.underlying97, rfl⟩, fun h => by cases h⟩
  · exact ⟨⟨Tryz.t98, _, rfl, rfl, rfl, rfl, zero_ok rfl rfl, rfl⟩, Tryz.underlying98, fun _ => ⟨by kernel_rfl, fun fs h => by rw [show E.P.underlying 98 = _ from Tryz.underlying98] at h; cases h⟩⟩
  · exact ⟨⟨Tryz.t99, _, rfl, rfl, rfl, rfl, zero_ok rfl rfl, rfl⟩, ⟨_, Tryz.underlying99, rfl⟩, fun h => by cases h⟩
  · exact ⟨⟨Tryz.t100, _, rfl, rfl, rfl, rfl, zero_ok rfl rfl, rfl⟩, ⟨_, Tryz.underlying100, rfl⟩, fun h => by cases h⟩
  · exact ⟨⟨Tryz.t101, _, rfl, rfl, rfl, rfl, zero_ok rfl rfl, rfl⟩, ⟨_, Tryz.underlying101, rfl⟩, fun h => by cases h⟩
  · exact ⟨⟨Tryz.t102, _, rfl, rfl, rfl, rfl, zero_ok rfl rfl, rfl⟩, ⟨_, Tryz.underlying102, rfl⟩, fun h => by cases h⟩
  · exact ⟨⟨Tryz.t103, _, rfl, rfl, rfl, rfl, zero_ok rfl rfl, rfl⟩, ⟨_, Tryz.underlying103, rfl⟩, fun h => by cases h⟩
  · exact ⟨⟨Tryz.t104, _, rfl, rfl, rfl, rfl, zero_ok rfl rfl, rfl⟩, ⟨_, Tryz.underlying104, rfl⟩, fun h => by cases h⟩
  · exact ⟨⟨Tryz.t105, _, rfl, rfl, rfl, rfl, zero_ok rfl rfl, rfl⟩, ⟨_, Tryz.underlying105, rfl⟩, fun h => by cases h⟩
  · exact ⟨⟨Tryz.t106, _, rfl, rfl, rfl, rfl, zero_ok rfl rfl, rfl⟩, ⟨_, Tryz.underlying106, rfl⟩, fun h => by cases h⟩
  · exact ⟨⟨Tryz.t107, _, rfl, rfl, rfl, rfl, zero_ok rfl rfl, rfl⟩, ⟨_, Tryz.underlying107, rfl⟩, fun h => by cases h⟩
  · exact ⟨⟨Tryz.t108, _, rfl, rfl, rfl, rfl, zero_ok rfl rfl, rfl⟩, ⟨_, Tryz.underlying108, rfl⟩, fun h => by cases h⟩
  · exact ⟨⟨Tryz.t109, _, rfl, rfl, rfl, rfl, zero_ok rfl rfl, rfl⟩, ⟨_, Tryz.underlying109, rfl⟩, fun h => by cases h⟩
  · exact ⟨⟨Tryz.t110, _, rfl, rfl, rfl, rfl, zero_ok rfl rfl, rfl⟩, ⟨_, Tryz.underlying110, rfl⟩, fun h => by cases h⟩
  · exact ⟨⟨Tryz.t111, _, rfl, rfl, rfl, rfl, zero_ok rfl rfl, rfl⟩, ⟨_, Tryz.underlying111, rfl⟩, fun h => by cases h⟩
  · exact ⟨⟨Tryz.t112, _, rfl, rfl, rfl, rfl, zero_ok rfl rfl, rfl⟩, ⟨_, Tryz.underlying112, rfl⟩, fun h => by cases h⟩
  · exact ⟨⟨Tryz.t113, _, rfl, rfl, rfl, rfl, zero_ok rfl rfl, rfl⟩, ⟨_, Tryz.underlying113, rfl⟩, fun h => by cases h⟩
  · exact ⟨⟨Tryz.t114, _, rfl, rfl, rfl, rfl, zero_ok rfl rfl, rfl⟩, ⟨_, Tryz.underlying114, rfl⟩, fun h => by cases h⟩
  · exact ⟨⟨Tryz.t115, _, rfl, rfl, rfl, rfl, zero_ok rfl rfl, rfl⟩, ⟨_, Tryz.underlying115, rfl⟩, fun _ => ⟨by kernel_rfl, fun fs h => by rw [show E.P.underlying 115 = _ from Tryz.underlying115] at h; cases h; intro f hf; simp at hf; rcases hf with rfl | rfl | rfl | rfl | rfl | rfl | rfl | rfl <;> decide⟩⟩
  · exact ⟨⟨Tryz.t116, _, rfl, rfl, rfl, rfl, zero_ok rfl rfl, rfl⟩, ⟨_, Tryz.underlying116, rfl⟩, fun _ => ⟨by kernel_rfl, fun fs h => by rw [show E.P.underlying 116 = _ from Tryz.underlying116] at h; cases h; intro f hf; simp at hf; rcases hf with rfl | rfl | rfl | rfl | rfl | rfl | rfl | rfl <;> decide⟩⟩
  · exact ⟨⟨Tryz.t117, _, rfl, rfl, rfl, rfl, zero_ok rfl rfl, rfl⟩, ⟨_, Tryz.underlying117, rfl⟩, fun h => by cases h⟩
  · exact ⟨⟨Tryz.t118, _, rfl, rfl, rfl, rfl, zero_ok rfl rfl, rfl⟩, ⟨_, Tryz.underlying118, rfl⟩, fun h => by cases h⟩
  · exact ⟨⟨Tryz.t119, _, rfl, rfl, rfl, rfl, zero_ok rfl rfl, rfl⟩, ⟨_, Tryz.underlying119, rfl⟩, fun h => by cases h⟩
  · exact ⟨⟨Tryz.t120, _, rfl, rfl, rfl, rfl, zero_ok rfl rfl, rfl⟩, ⟨_, Tryz.underlying120, rfl⟩, fun h => by cases h⟩
  · exact ⟨⟨Tryz.t121, _, rfl, rfl, rfl, rfl, zero_ok rfl rfl, rfl⟩, ⟨_, Tryz.underlying121, rfl⟩, fun h => by cases h⟩
  · exact ⟨⟨Tryz.t122, _, rfl, rfl, rfl, rfl, zero_ok rfl rfl, rfl⟩, ⟨_, Tryz.underlying122, rfl⟩, fun h => by cases h⟩
  · exact ⟨⟨Tryz.t124, _, rfl, rfl, rfl, rfl, zero_ok rfl rfl, rfl⟩, ⟨_, Tryz.underlying124, rfl⟩, fun h => by cases h⟩
  · exact ⟨⟨Tryz.t125, _, rfl, rfl, rfl, rfl, zero_ok rfl rfl, rfl⟩, ⟨_, Tryz.underlying125, rfl⟩, fun h => by cases h⟩
  · exact ⟨⟨Tryz.t126, _, rfl, rfl, rfl, rfl, zero_ok rfl rfl, rfl⟩, Tryz.underlying126, fun _ => ⟨by kernel_rfl, fun fs h => by rw [show E.P.underlying 126 = _ from Tryz.underlying126] at h; cases h⟩⟩
  · exact ⟨⟨Tryz.t127, _, rfl, rfl, rfl, rfl, zero_ok rfl rfl, rfl⟩, Tryz.underlying127, fun _ => ⟨by kernel_rfl, fun fs h => by rw [show E.P.underlying 127 = _ from Tryz.underlying127] at h; cases h⟩⟩
  · exact ⟨⟨Tryz.t128, _, rfl, rfl, rfl, rfl, zero_ok rfl rfl, rfl⟩, ⟨_, Tryz.underlying128, rfl⟩, fun h => by cases h⟩
  · exact ⟨⟨Tryz.t129, _, rfl, rfl, rfl, rfl, zero_ok rfl rfl, rfl⟩, ⟨_, Tryz.underlying129, rfl⟩, fun h => by cases h⟩
  · exact ⟨⟨Tryz.t130, _, rfl, rfl, rfl, rfl, zero_ok rfl rfl, rfl⟩, ⟨_, Tryz.underlying130, rfl⟩, fun h => by cases h⟩
  · exact ⟨⟨Tryz.t131, _, rfl, rfl, rfl, rfl, zero_ok rfl rfl, rfl⟩, ⟨_, Tryz.underlying131, rfl⟩, fun h => by cases h⟩
  · exact ⟨⟨Tryz.t132, _, rfl, rfl, rfl, rfl, zero_ok rfl rfl, rfl⟩, ⟨_, Tryz.underlying132, rfl⟩, fun h => by cases h⟩
  · exact ⟨⟨Tryz.t133, _, rfl, rfl, rfl, rfl, zero_ok rfl rfl, rfl⟩, Tryz.underlying133, fun _ => ⟨by kernel_rfl, fun fs h => by rw [show E.P.underlying 133 = _ from Tryz.underlying133] at h; cases h⟩⟩
  · exact ⟨⟨Tryz.t134, _, rfl, rfl, rfl, rfl, zero_ok rfl rfl, rfl⟩, ⟨_, Tryz.underlying134, rfl⟩, fun h => by cases h⟩
  · exact ⟨⟨Tryz.t135, _, rfl, rfl, rfl, rfl, zero_ok rfl rfl, rfl⟩, ⟨_, Tryz.underlying135, rfl⟩, fun h => by cases h⟩
  · exact ⟨⟨Tryz.t136, _, rfl, rfl, rfl, rfl, zero_ok rfl rfl, rfl⟩, ⟨_, Tryz.underlying136, rfl⟩, fun h => by cases h⟩
  · exact ⟨⟨Tryz.t137, _, rfl, rfl, rfl, rfl, zero_ok rfl rfl, rfl⟩, Tryz.underlying137, fun h => by cases h⟩
  · exact ⟨⟨Tryz.t138, _, rfl, rfl, rfl, rfl, zero_ok rfl rfl, rfl⟩, ⟨_, Tryz.underlying138, rfl⟩, fun h => by cases h⟩
  · exact ⟨⟨Tryz.t144, _, rfl, rfl, rfl, rfl, zero_ok rfl rfl, rfl⟩, ⟨_, Tryz.underlying144, rfl⟩, fun h => by cases h⟩
  · exact ⟨⟨Tryz.t147, _, rfl, rfl, rfl, rfl, zero_ok rfl rfl, rfl⟩, ⟨_, Tryz.underlying147, rfl⟩, fun h => by cases h⟩
  · exact ⟨⟨Tryz.t148, _, rfl, rfl, rfl, rfl, zero_ok rfl rfl, rfl⟩, Tryz.underlying148, fun h => by cases h⟩
  · exact ⟨⟨Tryz.t151, _, rfl, rfl, rfl, rfl, zero_ok rfl rfl, rfl⟩, ⟨_, Tryz.underlying151, rfl⟩, fun h => by cases h⟩
theorem hE : EnvOk E := ⟨ty_ok, rfl, by decide⟩
theorem hgl : GlOk E := by
  intro i d h
  change glC i = some d at h
  unfold glC at h
  split at h <;> cases h <;> rfl
theorem ty1 : E.ty 1 = some ⟨.other, 1, 8, .raw .nilFunc, false⟩ := rfl
theorem ty2 : E.ty 2 = some ⟨.int .i64, 1, 8, .int .i64 0, true⟩ := rfl
theorem ty3 : E.ty 3 = some ⟨.int .i64, 1, 8, .int .i64 0, true⟩ := rfl
theorem ty4 : E.ty 4 = some ⟨.bool, 1, 1, .bool false, true⟩ := rfl
theorem ty5 : E.ty 5 = some ⟨.int .u8, 1, 1, .int .u8 0, true⟩ := rfl
theorem ty9 : E.ty 9 = some ⟨.str, 1, 16, .str ⟨#[]⟩, true⟩ := rfl
theorem ty12 : E.ty 12 = some ⟨.int .u64, 1, 8, .int .u64 0, true⟩ := rfl
theorem ty20 : E.ty 20 = some ⟨.other, 1, 16, .raw .nilIface, false⟩ := rfl
theorem ty21 : E.ty 21 = some ⟨.int .i32, 1, 4, .int .i32 0, true⟩ := rfl
theorem ty22 : E.ty 22 = some ⟨.int .u32, 1, 4, .int .u32 0, true⟩ := rfl
theorem ty23 : E.ty 23 = some ⟨.arr 32 5, 32, 32, .arr .u8 32 (List.replicate 32 0), true⟩ := rfl
theorem ty24 : E.ty 24 = some ⟨.arr 32 5, 32, 32, .arr .u8 32 (List.replicate 32 0), true⟩ := rfl
theorem ty25 : E.ty 25 = some ⟨.st [(0, 22), (1, 24), (33, 24), (65, 22), (66, 22), (67, 22)], 68, 80, .agg [.int .u32 0, .arr .u8 32 (List.replicate 32 0), .arr .u8 32 (List.replicate 32 0), .int .u32 0, .int .u32 0, .int .u32 0], true⟩ := rfl
theorem ty26 : E.ty 26 = some ⟨.st [(0, 22), (1, 24), (33, 24), (65, 22), (66, 22), (67, 22)], 68, 80, .agg [.int .u32 0, .arr .u8 32 (List.replicate 32 0), .arr .u8 32 (List.replicate 32 0), .int .u32 0, .int .u32 0, .int .u32 0], true⟩ := rfl
theorem ty27 : E.ty 27 = some ⟨.slice 38, 1, 24, .sl .full 0 [], false⟩ := rfl
theorem ty28 : E.ty 28 = some ⟨.st [(0, 26), (68, 27)], 69, 104, .agg [.agg [.int .u32 0, .arr .u8 32 (List.replicate 32 0), .arr .u8 32 (List.replicate 32 0), .int .u32 0, .int .u32 0, .int .u32 0], .sl .full 0 []], false⟩ := rfl
theorem ty29 : E.ty 29 = some ⟨.st [(0, 26), (68, 27)], 69, 104, .agg [.agg [.int .u32 0, .arr .u8 32 (List.replicate 32 0), .arr .u8 32 (List.replicate 32 0), .int .u32 0, .int .u32 0, .int .u32 0], .sl .full 0 []], false⟩ := rfl
theorem ty30 : E.ty 30 = some ⟨.other, 1, 8, .raw .nilFunc, false⟩ := rfl
theorem ty31 : E.ty 31 = some ⟨.other, 1, 8, .raw .nilFunc, false⟩ := rfl
theorem ty32 : E.ty 32 = some ⟨.int .i64, 1, 8, .int .i64 0, true⟩ := rfl
theorem ty33 : E.ty 33 = some ⟨.other, 1, 8, .raw .nilFunc, false⟩ := rfl
theorem ty34 : E.ty 34 = some ⟨.other, 1, 8, .raw .nilFunc, false⟩ := rfl
theorem ty35 : E.ty 35 = some ⟨.slice 44, 1, 24, .sl .full 0 [], false⟩ := rfl
theorem ty36 : E.ty 36 = some ⟨.slice 46, 1, 24, .sl .full 0 [], false⟩ := rfl
theorem ty37 : E.ty 37 = some ⟨.st [(0, 22), (1, 35), (2, 36), (3, 22)], 4, 64, .agg [.int .u32 0, .sl .full 0 [], .sl .full 0 [], .int .u32 0], false⟩ := rfl
theorem ty38 : E.ty 38 = some ⟨.st [(0, 22), (1, 35), (2, 36), (3, 22)], 4, 64, .agg [.int .u32 0, .sl .full 0 [], .sl .full 0 [], .int .u32 0], false⟩ := rfl
theorem ty39 : E.ty 39 = some ⟨.st [(0, 24), (32, 22)], 33, 36, .agg [.arr .u8 32 (List.replicate 32 0), .int .u32 0], true⟩ := rfl
theorem ty40 : E.ty 40 = some ⟨.st [(0, 24), (32, 22)], 33, 36, .agg [.arr .u8 32 (List.replicate 32 0), .int .u32 0], true⟩ := rfl
theorem ty41 : E.ty 41 = some ⟨.slice 5, 1, 24, .sl .full 0 [], false⟩ := rfl
theorem ty42 : E.ty 42 = some ⟨.slice 41, 1, 24, .sl .full 0 [], false⟩ := rfl
theorem ty43 : E.ty 43 = some ⟨.st [(0, 40), (33, 41), (34, 22), (35, 42)], 36, 96, .agg [.agg [.arr .u8 32 (List.replicate 32 0), .int .u32 0], .sl .full 0 [], .int .u32 0, .sl .full 0 []], false⟩ := rfl
theorem ty44 : E.ty 44 = some ⟨.st [(0, 40), (33, 41), (34, 22), (35, 42)], 36, 96, .agg [.agg [.arr .u8 32 (List.replicate 32 0), .int .u32 0], .sl .full 0 [], .int .u32 0, .sl .full 0 []], false⟩ := rfl
theorem ty45 : E.ty 45 = some ⟨.st [(0, 2), (1, 41)], 2, 32, .agg [.int .i64 0, .sl .full 0 []], false⟩ := rfl
theorem ty46 : E.ty 46 = some ⟨.st [(0, 2), (1, 41)], 2, 32, .agg [.int .i64 0, .sl .full 0 []], false⟩ := rfl
theorem ty47 : E.ty 47 = some ⟨.other, 1, 8, .raw .nilFunc, false⟩ := rfl
theorem ty48 : E.ty 48 = some ⟨.other, 1, 8, .raw .nilFunc, false⟩ := rfl
theorem ty49 : E.ty 49 = some ⟨.slice 52, 1, 24, .sl .full 0 [], false⟩ := rfl
theorem ty50 : E.ty 50 = some ⟨.other, 1, 8, .raw .nilFunc, false⟩ := rfl
theorem ty51 : E.ty 51 = some ⟨.st [(0, 30), (1, 32)], 2, 16, .agg [.raw .nilFunc, .int .i64 0], false⟩ := rfl
theorem ty52 : E.ty 52 = some ⟨.st [(0, 30), (1, 32)], 2, 16, .agg [.raw .nilFunc, .int .i64 0], false⟩ := rfl
theorem ty54 : E.ty 54 = some ⟨.other, 1, 8, .raw .nilFunc, false⟩ := rfl
theorem ty56 : E.ty 56 = some ⟨.other, 1, 8, .raw .nilFunc, false⟩ := rfl
theorem ty57 : E.ty 57 = some ⟨.slice 24, 1, 24, .sl .full 0 [], false⟩ := rfl
theorem ty58 : E.ty 58 = some ⟨.other, 1, 8, .raw .nilFunc, false⟩ := rfl
theorem ty59 : E.ty 59 = some ⟨.other, 1, 8, .raw .nilFunc, false⟩ := rfl
theorem ty60 : E.ty 60 = some ⟨.other, 1, 8, .raw .nilFunc, false⟩ := rfl
theorem ty61 : E.ty 61 = some ⟨.other, 1, 8, .raw .nilFunc, false⟩ := rfl
theorem ty62 : E.ty 62 = some ⟨.other, 1, 8, .raw .nilFunc, false⟩ := rfl
theorem ty63 : E.ty 63 = some ⟨.other, 1, 8, .raw .nilFunc, false⟩ := rfl
theorem ty64 : E.ty 64 = some ⟨.other, 1, 8, .raw .nilFunc, false⟩ := rfl
theorem ty65 : E.ty 65 = some ⟨.other, 1, 8, .raw .nilFunc, false⟩ := rfl
theorem ty67 : E.ty 67 = some ⟨.other, 1, 8, .raw .nilFunc, false⟩ := rfl
theorem ty69 : E.ty 69 = some ⟨.other, 1, 8, .raw .nilFunc, false⟩ := rfl
theorem ty70 : E.ty 70 = some ⟨.other, 1, 8, .raw .nilFunc, false⟩ := rfl
theorem ty71 : E.ty 71 = some ⟨.other, 1, 8, .raw .nilFunc, false⟩ := rfl
theorem ty72 : E.ty 72 = some ⟨.other, 1, 8, .raw .nilFunc, false⟩ := rfl
theorem ty73 : E.ty 73 = some ⟨.other, 1, 8, .raw .nilFunc, false⟩ := rfl
theorem ty75 : E.ty 75 = some ⟨.other, 1, 8, .raw .nilFunc, false⟩ := rfl
theorem ty76 : E.ty 76 = some ⟨.other, 1, 8, .raw .nilFunc, false⟩ := rfl
theorem ty77 : E.ty 77 = some ⟨.other, 1, 8, .raw .nilFunc, false⟩ := rfl
theorem ty78 : E.ty 78 = some ⟨.other, 1, 8, .raw .nilFunc, false⟩ := rfl
theorem ty79 : E.ty 79 = some ⟨.other, 1, 8, .raw .nilFunc, false⟩ := rfl
theorem ty80 : E.ty 80 = some ⟨.other, 1, 8, .raw .nilFunc, false⟩ := rfl
theorem ty81 : E.ty 81 = some ⟨.other, 1, 8, .raw .nilFunc, false⟩ := rfl
theorem ty82 : E.ty 82 = some ⟨.other, 1, 8, .raw .nilFunc, false⟩ := rfl
theorem ty83 : E.ty 83 = some ⟨.other, 1, 8, .raw .nilFunc, false⟩ := rfl
theorem ty84 : E.ty 84 = some ⟨.other, 1, 8, .raw .nilFunc, false⟩ := rfl
theorem ty85 : E.ty 85 = some ⟨.other, 1, 8, .raw .nilFunc, false⟩ := rfl
theorem ty86 : E.ty 86 = some ⟨.other, 1, 8, .raw .nilFunc, false⟩ := rfl
theorem ty87 : E.ty 87 = some ⟨.other, 1, 8, .raw .nilFunc, false⟩ := rfl
theorem ty88 : E.ty 88 = some ⟨.other, 1, 8, .raw .nilFunc, false⟩ := rfl
theorem ty89 : E.ty 89 = some ⟨.other, 1, 8, .raw .nilFunc, false⟩ := rfl
theorem ty90 : E.ty 90 = some ⟨.other, 1, 8, .raw .nilFunc, false⟩ := rfl
theorem ty91 : E.ty 91 = some ⟨.slice 22, 1, 24, .sl .full 0 [], false⟩ := rfl
theorem ty92 : E.ty 92 = some ⟨.other, 1, 8, .raw .nilFunc, false⟩ := rfl
theorem ty93 : E.ty 93 = some ⟨.other, 1, 8, .raw .nilFunc, false⟩ := rfl
theorem ty94 : E.ty 94 = some ⟨.other, 1, 8, .raw .nilFunc, false⟩ := rfl
theorem ty95 : E.ty 95 = some ⟨.other, 1, 8, .raw .nilFunc, false⟩ := rfl
theorem ty96 : E.ty 96 = some ⟨.other, 1, 8, .raw .nilFunc, false⟩ := rfl
theorem ty97 : E.ty 97 = some ⟨.other, 1, 8, .raw .nilFunc, false⟩ := rfl
theorem ty98 : E.ty 98 = some ⟨.int .u64, 1, 8, .int .u64 0, true⟩ := rfl
theorem ty99 : E.ty 99 = some ⟨.other, 1, 8, .raw .nilFunc, false⟩ := rfl
theorem ty100 : E.ty 100 = some ⟨.other, 1, 8, .raw .nilFunc, false⟩ := rfl
theorem ty101 : E.ty 101 = some ⟨.other, 1, 8, .raw .nilFunc, false⟩ := rfl
theorem ty102 : E.ty 102 = some ⟨.other, 1, 8, .raw .nilFunc, false⟩ := rfl
theorem ty103 : E.ty 103 = some ⟨.other, 1, 8, .raw .nilFunc, false⟩ := rfl
theorem ty104 : E.ty 104 = some ⟨.other, 1, 8, .raw .nilFunc, false⟩ := rfl
theorem ty105 : E.ty 105 = some ⟨.other, 1, 8, .raw .nilFunc, false⟩ := rfl
theorem ty106 : E.ty 106 = some ⟨.other, 1, 8, .raw .nilFunc, false⟩ := rfl
theorem ty107 : E.ty 107 = some ⟨.other, 1, 8, .raw .nilFunc, false⟩ := rfl
theorem ty108 : E.ty 108 = some ⟨.other, 1, 8, .raw .nilFunc, false⟩ := rfl
theorem ty109 : E.ty 109 = some ⟨.other, 1, 8, .raw .nilFunc, false⟩ := rfl
theorem ty110 : E.ty 110 = some ⟨.other, 1, 8, .raw .nilFunc, false⟩ := rfl
theorem ty111 : E.ty 111 = some ⟨.other, 1, 8, .raw .nilFunc, false⟩ := rfl
theorem ty112 : E.ty 112 = some ⟨.other, 1, 8, .raw .nilFunc, false⟩ := rfl
theorem ty113 : E.ty 113 = some ⟨.other, 1, 8, .raw .nilFunc, false⟩ := rfl
theorem ty114 : E.ty 114 = some ⟨.other, 1, 8, .raw .nilFunc, false⟩ := rfl
theorem ty115 : E.ty 115 = some ⟨.st [(0, 22), (1, 22), (2, 22), (3, 22), (4, 22), (5, 22), (6, 22), (7, 22)], 8, 32, .agg [.int .u32 0, .int .u32 0, .int .u32 0, .int .u32 0, .int .u32 0, .int .u32 0, .int .u32 0, .int .u32 0], true⟩ := rfl
theorem ty116 : E.ty 116 = some ⟨.st [(0, 22), (1, 22), (2, 22), (3, 22), (4, 22), (5, 22), (6, 22), (7, 22)], 8, 32, .agg [.int .u32 0, .int .u32 0, .int .u32 0, .int .u32 0, .int .u32 0, .int .u32 0, .int .u32 0, .int .u32 0], true⟩ := rfl
theorem ty117 : E.ty 117 = some ⟨.other, 1, 8, .raw .nilFunc, false⟩ := rfl
theorem ty118 : E.ty 118 = some ⟨.other, 1, 8, .raw .nilFunc, false⟩ := rfl
theorem ty119 : E.ty 119 = some ⟨.other, 1, 8, .raw .nilFunc, false⟩ := rfl
theorem ty120 : E.ty 120 = some ⟨.other, 1, 8, .raw .nilFunc, false⟩ := rfl
theorem ty121 : E.ty 121 = some ⟨.other, 1, 8, .raw .nilFunc, false⟩ := rfl
theorem ty122 : E.ty 122 = some ⟨.other, 1, 8, .raw .nilFunc, false⟩ := rfl
theorem ty124 : E.ty 124 = some ⟨.other, 1, 8, .raw .nilFunc, false⟩ := rfl
theorem ty125 : E.ty 125 = some ⟨.other, 1, 8, .raw .nilFunc, false⟩ := rfl
theorem ty126 : E.ty 126 = some ⟨.arr 8 22, 8, 32, .arr .u32 8 (List.replicate 8 0), true⟩ := rfl
theorem ty127 : E.ty 127 = some ⟨.int .u64, 1, 8, .int .u64 0, true⟩ := rfl
theorem ty128 : E.ty 128 = some ⟨.other, 1, 8, .raw .nilFunc, false⟩ := rfl
theorem ty129 : E.ty 129 = some ⟨.other, 1, 8, .raw .nilFunc, false⟩ := rfl
theorem ty130 : E.ty 130 = some ⟨.other, 1, 8, .raw .nilFunc, false⟩ := rfl
theorem ty131 : E.ty 131 = some ⟨.other, 1, 8, .raw .nilFunc, false⟩ := rfl
theorem ty132 : E.ty 132 = some ⟨.other, 1, 8, .raw .nilFunc, false⟩ := rfl
theorem ty133 : E.ty 133 = some ⟨.arr 64 22, 64, 256, .arr .u32 64 (List.replicate 64 0), true⟩ := rfl
theorem ty134 : E.ty 134 = some ⟨.other, 1, 8, .raw .nilFunc, false⟩ := rfl
theorem ty135 : E.ty 135 = some ⟨.other, 1, 8, .raw .nilFunc, false⟩ := rfl
theorem ty136 : E.ty 136 = some ⟨.other, 1, 8, .raw .nilFunc, false⟩ := rfl
theorem ty137 : E.ty 137 = some ⟨.slice 3, 1, 24, .sl .full 0 [], false⟩ := rfl
theorem ty138 : E.ty 138 = some ⟨.other, 1, 8, .raw .nilFunc, false⟩ := rfl
theorem ty144 : E.ty 144 = some ⟨.other, 1, 8, .raw .nilFunc, false⟩ := rfl
theorem ty147 : E.ty 147 = some ⟨.other, 1, 8, .raw .nilFunc, false⟩ := rfl
theorem ty148 : E.ty 148 = some ⟨.ptr 5, 1, 8, .raw (.pointer none), false⟩ := rfl
theorem ty151 : E.ty 151 = some ⟨.st [(0, 12), (1, 12), (2, 22), (3, 145), (4, 5), (5, 5), (6, 146), (7, 147), (8, 148), (9, 149), (10, 150)], 11, 48, .agg [.int .u64 0, .int .u64 0, .int .u32 0, .int .u8 0, .int .u8 0, .int .u8 0, .int .u8 0, .raw .nilFunc, .raw (.pointer none), .int .i32 0, .int .i32 0], false⟩ := rfl
theorem tys : (type_of% ty1) ∧ (type_of% ty2) ∧ (type_of% ty3) ∧ (type_of% ty4) ∧ (type_of% ty5) ∧ (type_of% ty9) ∧ (type_of% ty12) ∧ (type_of% ty20) ∧ (type_of% ty21) ∧ (type_of% ty22) ∧ (type_of% ty23) ∧ (type_of% ty24) ∧ (type_of% ty25) ∧ (type_of% ty26) ∧ (type_of% ty27) ∧ (type_of% ty28) ∧ (type_of% ty29) ∧ (type_of% ty30) ∧ (type_of% ty31) ∧ (type_of% ty32) ∧ (type_of% ty33) ∧ (type_of% ty34) ∧ (type_of% ty35) ∧ (type_of% ty36) ∧ (type_of% ty37) ∧ (type_of% ty38) ∧ (type_of% ty39) ∧ (type_of% ty40) ∧ (type_of% ty41) ∧ (type_of% ty42) ∧ (type_of% ty43) ∧ (type_of% ty44) ∧ (type_of% ty45) ∧ (type_of% ty46) ∧ (type_of% ty47) ∧ (type_of% ty48) ∧ (type_of% ty49) ∧ (type_of% ty50) ∧ (type_of% ty51) ∧ (type_of% ty52) ∧ (type_of% ty54) ∧ (type_of% ty56) ∧ (type_of% ty57) ∧ (type_of% ty58) ∧ (type_of% ty59) ∧ (type_of% ty60) ∧ (type_of% ty61) ∧ (type_of% ty62) ∧ (type_of% ty63) ∧ (type_of% ty64) ∧ (type_of% ty65) ∧ (type_of% ty67) ∧ (type_of% ty69) ∧ (type_of% ty70) ∧ (type_of% ty71) ∧ (type_of% ty72) ∧ (type_of% ty73) ∧ (type_of% ty75) ∧ (type_of% ty76) ∧ (type_of% ty77) ∧ (type_of% ty78) ∧ (type_of% ty79) ∧ (type_of% ty80) ∧ (type_of% ty81) ∧ (type_of% ty82) ∧ (type_of% ty83) ∧ (type_of% ty84) ∧ (type_of% ty85) ∧ (type_of% ty86) ∧ (type_of% ty87) ∧ (type_of% ty88) ∧ (type_of% ty89) ∧ (type_of% ty90) ∧ (type_of% ty91) ∧ (type_of% ty92) ∧ (type_of% ty93) ∧ (type_of% ty94) ∧ (type_of% ty95) ∧ (type_of% ty96) ∧ (type_of% ty97) ∧ (type_of% ty98) ∧ (type_of% ty99) ∧ (type_of% ty100) ∧ (type_of% ty101) ∧ (type_of% ty102) ∧ (type_of% ty103) ∧ (type_of% ty104) ∧ (type_of% ty105) ∧ (type_of% ty106) ∧ (type_of% ty107) ∧ (type_of% ty108) ∧ (type_of% ty109) ∧ (type_of% ty110) ∧ (type_of% ty111) ∧ (type_of% ty112) ∧ (type_of% ty113) ∧ (type_of% ty114) ∧ (type_of% ty115) ∧ (type_of% ty116) ∧ (type_of% ty117) ∧ (type_of% ty118) ∧ (type_of% ty119) ∧ (type_of% ty120) ∧ (type_of% ty121) ∧ (type_of% ty122) ∧ (type_of% ty124) ∧ (type_of% ty125) ∧ (type_of% ty126) ∧ (type_of% ty127) ∧ (type_of% ty128) ∧ (type_of% ty129) ∧ (type_of% ty130) ∧ (type_of% ty131) ∧ (type_of% ty132) ∧ (type_of% ty133) ∧ (type_of% ty134) ∧ (type_of% ty135) ∧ (type_of% ty136) ∧ (type_of% ty137) ∧ (type_of% ty138) ∧ (type_of% ty144) ∧ (type_of% ty147) ∧ (type_of% ty148) ∧ (type_of% ty151) := ⟨ty1, ty2, ty3, ty4, ty5, ty9, ty12, ty20, ty21, ty22, ty23, ty24, ty25, ty26, ty27, ty28, ty29, ty30, ty31, ty32, ty33, ty34, ty35, ty36, ty37, ty38, ty39, ty40, ty41, ty42, ty43, ty44, ty45, ty46, ty47, ty48, ty49, ty50, ty51, ty52, ty54, ty56, ty57, ty58, ty59, ty60, ty61, ty62, ty63, ty64, ty65, ty67, ty69, ty70, ty71, ty72, ty73, ty75, ty76, ty77, ty78, ty79, ty80, ty81, ty82, ty83, ty84, ty85, ty86, ty87, ty88, ty89, ty90, ty91, ty92, ty93, ty94, ty95, ty96, ty97, ty98, ty99, ty100, ty101, ty102, ty103, ty104, ty105, ty106, ty107, ty108, ty109, ty110, ty111, ty112, ty113, ty114, ty115, ty116, ty117, ty118, ty119, ty120, ty121, ty122, ty124, ty125, ty126, ty127, ty128, ty129, ty130, ty131, ty132, ty133, ty134, ty135, ty136, ty137, ty138, ty144, ty147, ty148, ty151⟩
theorem gl0 : E.gl 0 = some (.arr .u32 64 kList) := rfl
theorem spec_first (args : List D) (s : S) (nm : Nat) : E.T 93 args s nm = seeR sp_first (normL [] args) s := rfl
theorem b_first : hasBody E 93 := ⟨_, Tryz.func93, rfl, rfl⟩
theorem spec_refRoundNumbers (args : List D) (s : S) (nm : Nat) : E.T 65 args s nm = seeR sp_refRoundNumbers (normL [] args) s := rfl
theorem b_refRoundNumbers : hasBody E 65 := ⟨_, Tryz.func65, rfl, rfl⟩
theorem spec_refFirst (args : List D) (s : S) (nm : Nat) : E.T 66 args s nm = seeR sp_refFirst (normL [] args) s := rfl
theorem b_refFirst : hasBody E 66 := ⟨_, Tryz.func66, rfl, rfl⟩
theorem spec_refChange (args : List D) (s : S) (nm : Nat) : E.T 67 args s nm = seeR sp_refChange (normL [.ints .u32, .ints .u8, .ints .u32] args) s := rfl
theorem b_refChange : hasBody E 67 := ⟨_, Tryz.func67, rfl, rfl⟩
theorem spec_closing (args : List D) (s : S) (nm : Nat) : E.T 102 args s nm = seeR sp_closing (normL [] args) s := rfl
theorem b_closing : hasBody E 102 := ⟨_, Tryz.func102, rfl, rfl⟩
theorem spec_refNumber (args : List D) (s : S) (nm : Nat) : E.T 90 args s nm = seeR sp_refNumber (normL [.ints .u8, .ints .u32] args) s := rfl
theorem b_refNumber : hasBody E 90 := ⟨_, Tryz.func90, rfl, rfl⟩
theorem spec_three (args : List D) (s : S) (nm : Nat) : E.T 91 args s nm = seeR sp_three (normL [] args) s := rfl
theorem b_three : hasBody E 91 := ⟨_, Tryz.func91, rfl, rfl⟩
theorem spec_Right (args : List D) (s : S) (nm : Nat) : E.T 92 args s nm = seeR sp_Right (normL [] args) s := rfl
theorem b_Right : hasBody E 92 := ⟨_, Tryz.func92, rfl, rfl⟩
theorem spec_Shift (args : List D) (s : S) (nm : Nat) : E.T 101 args s nm = seeR sp_Shift (normL [] args) s := rfl
theorem b_Shift : hasBody E 101 := ⟨_, Tryz.func101, rfl, rfl⟩
theorem spec_round (args : List D) (s : S) (nm : Nat) : E.T 109 args s nm = seeR sp_round (normL [] args) s := rfl
theorem b_round : hasBody E 109 := ⟨_, Tryz.func109, rfl, rfl⟩
theorem spec_plus (args : List D) (s : S) (nm : Nat) : E.T 110 args s nm = seeR sp_plus (normL [] args) s := rfl
theorem b_plus : hasBody E 110 := ⟨_, Tryz.func110, rfl, rfl⟩
theorem spec_turned (args : List D) (s : S) (nm : Nat) : E.T 112 args s nm = seeR sp_turned (normL [.id, .ints .i64] args) s := rfl
theorem b_turned : hasBody E 112 := ⟨_, Tryz.func112, rfl, rfl⟩
theorem spec_rotl (args : List D) (s : S) (nm : Nat) : E.T 113 args s nm = seeR sp_rotl (normL [] args) s := rfl
theorem b_rotl : hasBody E 113 := ⟨_, Tryz.func113, rfl, rfl⟩
theorem spec_refClosing (args : List D) (s : S) (nm : Nat) : E.T 64 args s nm = seeR sp_refClosing (normL [] args) s := rfl
theorem b_refClosing : hasBody E 64 := ⟨_, Tryz.func64, rfl, rfl⟩
theorem spec_refSum (args : List D) (s : S) (nm : Nat) : E.T 49 args s nm = seeR sp_refSum (normL [.ints .u8] args) s := rfl
theorem b_refSum : hasBody E 49 := ⟨_, Tryz.func49, rfl, rfl⟩
theorem spec_refTwice (args : List D) (s : S) (nm : Nat) : E.T 34 args s nm = seeR sp_refTwice (normL [.ints .u8] args) s := rfl
theorem b_refTwice : hasBody E 34 := ⟨_, Tryz.func34, rfl, rfl⟩
theorem spec_numbers (args : List D) (s : S) (nm : Nat) : E.T 108 args s nm = boxF (sp_numbers 111) (normL [.ints .u8] args) s nm := rfl
theorem b_numbers : hasBody E 108 := ⟨_, Tryz.func108, rfl, rfl⟩
theorem spec_next (args : List D) (s : S) (nm : Nat) : E.T 111 args s nm = boxF sp_next (normL [] args) s nm := rfl
theorem b_next : hasBody E 111 := ⟨_, Tryz.func111, rfl, rfl⟩
theorem spec_change (args : List D) (s : S) (nm : Nat) : E.T 103 args s nm = seeR sp_change (normL [.id, .ints .u8] args) s := rfl
theorem b_change : hasBody E 103 := ⟨_, Tryz.func103, rfl, rfl⟩
theorem spec_digest (args : List D) (s : S) (nm : Nat) : E.T 94 args s nm = seeR sp_digest (normL [.id, .id, .ints .u8] args) s := rfl
theorem b_digest : hasBody E 94 := ⟨_, Tryz.func94, rfl, rfl⟩
theorem spec_sum (args : List D) (s : S) (nm : Nat) : E.T 69 args s nm = seeR sp_sum (normL [.ints .u8] args) s := rfl
theorem b_sum : hasBody E 69 := ⟨_, Tryz.func69, rfl, rfl⟩
theorem spec_again (args : List D) (s : S) (nm : Nat) : E.T 68 args s nm = seeR sp_again (normL [] args) s := rfl
theorem b_again : hasBody E 68 := ⟨_, Tryz.func68, rfl, rfl⟩
theorem spec_twice (args : List D) (s : S) (nm : Nat) : E.T 50 args s nm = seeR sp_twice (normL [.ints .u8] args) s := rfl
theorem b_twice : hasBody E 50 := ⟨_, Tryz.func50, rfl, rfl⟩
theorem spec_pair (args : List D) (s : S) (nm : Nat) : E.T 55 args s nm = seeR sp_pair (normL [] args) s := rfl
theorem b_pair : hasBody E 55 := ⟨_, Tryz.func55, rfl, rfl⟩
theorem spec_chunk (args : List D) (s : S) (nm : Nat) : E.T 54 args s nm = seeR (sp_chunk 80) (normL [] args) s := rfl
theorem b_chunk : hasBody E 54 := ⟨_, Tryz.func54, rfl, rfl⟩
theorem spec_rootEach (args : List D) (s : S) (nm : Nat) : E.T 40 args s nm = boxF sp_rootEach (normL [.id, .id, .id, .ints .u8] args) s nm := rfl
theorem b_rootEach : hasBody E 40 := ⟨_, Tryz.func40, rfl, rfl⟩
theorem spec_rows (args : List D) (s : S) (nm : Nat) : E.T 39 args s nm = boxF (sp_rows 40 0 0) (normL [] args) s nm := rfl
theorem b_rows : hasBody E 39 := ⟨_, Tryz.func39, rfl, rfl⟩
theorem spec_root (args : List D) (s : S) (nm : Nat) : E.T 27 args s nm = seeR sp_root (normL [] args) s := rfl
theorem b_root : hasBody E 27 := ⟨_, Tryz.func27, rfl, rfl⟩
theorem spec_refPartner (args : List D) (s : S) (nm : Nat) : E.T 46 args s nm = seeR sp_refPartner (normL [] args) s := rfl
theorem b_refPartner : hasBody E 46 := ⟨_, Tryz.func46, rfl, rfl⟩
theorem spec_refMText (args : List D) (s : S) (nm : Nat) : E.T 35 args s nm = seeR sp_refMText (normL [] args) s := rfl
theorem b_refMText : hasBody E 35 := ⟨_, Tryz.func35, rfl, rfl⟩
theorem spec_refAbove (args : List D) (s : S) (nm : Nat) : E.T 31 args s nm = seeR sp_refAbove (normL [] args) s := rfl
theorem b_refAbove : hasBody E 31 := ⟨_, Tryz.func31, rfl, rfl⟩
theorem spec_refRoot (args : List D) (s : S) (nm : Nat) : E.T 13 args s nm = seeR sp_refRoot (normL [] args) s := rfl
theorem b_refRoot : hasBody E 13 := ⟨_, Tryz.func13, rfl, rfl⟩
theorem spec_clone (args : List D) (s : S) (nm : Nat) : E.T 106 args s nm = boxF sp_clone (forgetE (normL [.ints .u8] args)) s nm := rfl
theorem b_clone : hasBody E 106 := ⟨_, Tryz.func106, rfl, rfl⟩
theorem spec_bwidth (args : List D) (s : S) (nm : Nat) : E.T 105 args s nm = seeR sp_bwidth (normL [] args) s := rfl
theorem b_bwidth : hasBody E 105 := ⟨_, Tryz.func105, rfl, rfl⟩
theorem spec_bput (args : List D) (s : S) (nm : Nat) : E.T 97 args s nm = boxF sp_bput (normL [.ints .u8] args) s nm := rfl
theorem b_bput : hasBody E 97 := ⟨_, Tryz.func97, rfl, rfl⟩
theorem spec_num (args : List D) (s : S) (nm : Nat) : E.T 73 args s nm = boxF sp_num (normL [.ints .u8] args) s nm := rfl
theorem b_num : hasBody E 73 := ⟨_, Tryz.func73, rfl, rfl⟩
theorem spec_csize (args : List D) (s : S) (nm : Nat) : E.T 107 args s nm = seeR sp_csize (normL [] args) s := rfl
theorem b_csize : hasBody E 107 := ⟨_, Tryz.func107, rfl, rfl⟩
theorem spec_cput (args : List D) (s : S) (nm : Nat) : E.T 98 args s nm = boxF sp_cput (normL [.ints .u8] args) s nm := rfl
theorem b_cput : hasBody E 98 := ⟨_, Tryz.func98, rfl, rfl⟩
theorem spec_putText (args : List D) (s : S) (nm : Nat) : E.T 79 args s nm = boxF sp_putText (normL [.ints .u8, .ints .u8] args) s nm := rfl
theorem b_putText : hasBody E 79 := ⟨_, Tryz.func79, rfl, rfl⟩
theorem spec_putIn (args : List D) (s : S) (nm : Nat) : E.T 75 args s nm = boxF sp_putIn (normL [.ints .u8, .st [.id, .ints .u8, .id, .sl 1 (.ints .u8)]] args) s nm := rfl
theorem b_putIn : hasBody E 75 := ⟨_, Tryz.func75, rfl, rfl⟩
theorem spec_putOut (args : List D) (s : S) (nm : Nat) : E.T 77 args s nm = boxF sp_putOut (normL [.ints .u8, .st [.id, .ints .u8]] args) s nm := rfl
theorem b_putOut : hasBody E 77 := ⟨_, Tryz.func77, rfl, rfl⟩
theorem spec_layIn (args : List D) (s : S) (nm : Nat) : E.T 74 args s nm = boxF (sp_layIn 75) (normL [.ints .u8, .sl 36 (.st [.id, .ints .u8, .id, .sl 1 (.ints .u8)])] args) s nm := rfl
theorem b_layIn : hasBody E 74 := ⟨_, Tryz.func74, rfl, rfl⟩
theorem spec_layOut (args : List D) (s : S) (nm : Nat) : E.T 76 args s nm = boxF (sp_layOut 77) (normL [.ints .u8, .sl 2 (.st [.id, .ints .u8])] args) s nm := rfl
theorem b_layOut : hasBody E 76 := ⟨_, Tryz.func76, rfl, rfl⟩
theorem spec_layWit (args : List D) (s : S) (nm : Nat) : E.T 78 args s nm = boxF (sp_layWit 79) (normL [.ints .u8] args) s nm := rfl
theorem b_layWit : hasBody E 78 := ⟨_, Tryz.func78, rfl, rfl⟩
theorem spec_laid (args : List D) (s : S) (nm : Nat) : E.T 52 args s nm = boxF sp_laid (normL [.ints .u8, .st [.id, .sl 36 (.st [.id, .ints .u8, .id, .sl 1 (.ints .u8)]), .sl 2 (.st [.id, .ints .u8])]] args) s nm := rfl
theorem b_laid : hasBody E 52 := ⟨_, Tryz.func52, rfl, rfl⟩
theorem spec_w1 (args : List D) (s : S) (nm : Nat) : E.T 59 args s nm = seeR sp_w1 (normL [.st [.id, .ints .u8, .id, .sl 1 (.ints .u8)]] args) s := rfl
theorem b_w1 : hasBody E 59 := ⟨_, Tryz.func59, rfl, rfl⟩
theorem spec_indexIn (args : List D) (s : S) (nm : Nat) : E.T 83 args s nm = seeR (sp_indexIn 59) (normL [.sl 36 (.st [.id, .ints .u8, .id, .sl 1 (.ints .u8)])] args) s := rfl
theorem b_indexIn : hasBody E 83 := ⟨_, Tryz.func83, rfl, rfl⟩
theorem spec_containsIn (args : List D) (s : S) (nm : Nat) : E.T 58 args s nm = seeR (sp_containsIn 59) (normL [.sl 36 (.st [.id, .ints .u8, .id, .sl 1 (.ints .u8)])] args) s := rfl
theorem b_containsIn : hasBody E 58 := ⟨_, Tryz.func58, rfl, rfl⟩
theorem spec_twitnessed (args : List D) (s : S) (nm : Nat) : E.T 44 args s nm = seeR sp_twitnessed (normL [.st [.id, .sl 36 (.st [.id, .ints .u8, .id, .sl 1 (.ints .u8)]), .sl 2 (.st [.id, .ints .u8])]] args) s := rfl
theorem b_twitnessed : hasBody E 44 := ⟨_, Tryz.func44, rfl, rfl⟩
theorem spec_in1 (args : List D) (s : S) (nm : Nat) : E.T 96 args s nm = seeR sp_in1 (normL [.ints .u8] args) s := rfl
theorem b_in1 : hasBody E 96 := ⟨_, Tryz.func96, rfl, rfl⟩
theorem spec_indexB (args : List D) (s : S) (nm : Nat) : E.T 104 args s nm = seeR (sp_indexB 96) (normL [] args) s := rfl
theorem b_indexB : hasBody E 104 := ⟨_, Tryz.func104, rfl, rfl⟩
theorem spec_containsB (args : List D) (s : S) (nm : Nat) : E.T 95 args s nm = seeR (sp_containsB 96) (normL [] args) s := rfl
theorem b_containsB : hasBody E 95 := ⟨_, Tryz.func95, rfl, rfl⟩
theorem spec_tin (args : List D) (s : S) (nm : Nat) : E.T 71 args s nm = seeR sp_tin (normL [.st [.id, .ints .u8, .id, .sl 1 (.ints .u8)]] args) s := rfl
theorem b_tin : hasBody E 71 := ⟨_, Tryz.func71, rfl, rfl⟩
theorem spec_tout (args : List D) (s : S) (nm : Nat) : E.T 72 args s nm = seeR sp_tout (normL [.st [.id, .ints .u8]] args) s := rfl
theorem b_tout : hasBody E 72 := ⟨_, Tryz.func72, rfl, rfl⟩
theorem spec_tmany (args : List D) (s : S) (nm : Nat) : E.T 70 args s nm = seeR sp_tmany (normL [] args) s := rfl
theorem b_tmany : hasBody E 70 := ⟨_, Tryz.func70, rfl, rfl⟩
theorem spec_tcheck (args : List D) (s : S) (nm : Nat) : E.T 51 args s nm = seeR sp_tcheck (normL [.st [.id, .sl 36 (.st [.id, .ints .u8, .id, .sl 1 (.ints .u8)]), .sl 2 (.st [.id, .ints .u8])]] args) s := rfl
theorem b_tcheck : hasBody E 51 := ⟨_, Tryz.func51, rfl, rfl⟩
theorem spec_tput (args : List D) (s : S) (nm : Nat) : E.T 99 args s nm = seeR sp_tput (normL [.ints .u8, .st [.id, .sl 36 (.st [.id, .ints .u8, .id, .sl 1 (.ints .u8)]), .sl 2 (.st [.id, .ints .u8])]] args) s := rfl
theorem b_tput : hasBody E 99 := ⟨_, Tryz.func99, rfl, rfl⟩
theorem spec_tbare (args : List D) (s : S) (nm : Nat) : E.T 37 args s nm = seeR sp_tbare (normL [.ints .u8, .st [.id, .sl 36 (.st [.id, .ints .u8, .id, .sl 1 (.ints .u8)]), .sl 2 (.st [.id, .ints .u8])]] args) s := rfl
theorem b_tbare : hasBody E 37 := ⟨_, Tryz.func37, rfl, rfl⟩
theorem spec_tname (args : List D) (s : S) (nm : Nat) : E.T 36 args s nm = seeR sp_tname (normL [.ints .u8] args) s := rfl
theorem b_tname : hasBody E 36 := ⟨_, Tryz.func36, rfl, rfl⟩
theorem spec_tid (args : List D) (s : S) (nm : Nat) : E.T 18 args s nm = seeR sp_tid (normL [.st [.id, .sl 36 (.st [.id, .ints .u8, .id, .sl 1 (.ints .u8)]), .sl 2 (.st [.id, .ints .u8])]] args) s := rfl
theorem b_tid : hasBody E 18 := ⟨_, Tryz.func18, rfl, rfl⟩
theorem spec_tfull (args : List D) (s : S) (nm : Nat) : E.T 85 args s nm = seeR sp_tfull (normL [.st [.id, .sl 36 (.st [.id, .ints .u8, .id, .sl 1 (.ints .u8)]), .sl 2 (.st [.id, .ints .u8])]] args) s := rfl
theorem b_tfull : hasBody E 85 := ⟨_, Tryz.func85, rfl, rfl⟩
theorem spec_rdigits (args : List D) (s : S) (nm : Nat) : E.T 100 args s nm = boxF sp_rdigits (normL [] args) s nm := rfl
theorem b_rdigits : hasBody E 100 := ⟨_, Tryz.func100, rfl, rfl⟩
theorem spec_tdigits (args : List D) (s : S) (nm : Nat) : E.T 87 args s nm = boxF sp_tdigits (normL [] args) s nm := rfl
theorem b_tdigits : hasBody E 87 := ⟨_, Tryz.func87, rfl, rfl⟩
theorem spec_rcount (args : List D) (s : S) (nm : Nat) : E.T 88 args s nm = boxF sp_rcount (normL [] args) s nm := rfl
theorem b_rcount : hasBody E 88 := ⟨_, Tryz.func88, rfl, rfl⟩
theorem spec_rtext (args : List D) (s : S) (nm : Nat) : E.T 89 args s nm = seeR sp_rtext (normL [.ints .u8] args) s := rfl
theorem b_rtext : hasBody E 89 := ⟨_, Tryz.func89, rfl, rfl⟩
theorem spec_rmany (args : List D) (s : S) (nm : Nat) : E.T 86 args s nm = seeR sp_rmany (normL [] args) s := rfl
theorem b_rmany : hasBody E 86 := ⟨_, Tryz.func86, rfl, rfl⟩
theorem spec_rcheck (args : List D) (s : S) (nm : Nat) : E.T 61 args s nm = seeR sp_tcheck (normL [.st [.id, .sl 36 (.st [.id, .ints .u8, .id, .sl 1 (.ints .u8)]), .sl 2 (.st [.id, .ints .u8])]] args) s := rfl
theorem b_rcheck : hasBody E 61 := ⟨_, Tryz.func61, rfl, rfl⟩
theorem spec_rwitnessed (args : List D) (s : S) (nm : Nat) : E.T 17 args s nm = seeR sp_twitnessed (normL [.st [.id, .sl 36 (.st [.id, .ints .u8, .id, .sl 1 (.ints .u8)]), .sl 2 (.st [.id, .ints .u8])]] args) s := rfl
theorem b_rwitnessed : hasBody E 17 := ⟨_, Tryz.func17, rfl, rfl⟩
theorem spec_rlay (args : List D) (s : S) (nm : Nat) : E.T 62 args s nm = seeR sp_rlay (normL [.st [.id, .sl 36 (.st [.id, .ints .u8, .id, .sl 1 (.ints .u8)]), .sl 2 (.st [.id, .ints .u8])]] args) s := rfl
theorem b_rlay : hasBody E 62 := ⟨_, Tryz.func62, rfl, rfl⟩
theorem spec_rput (args : List D) (s : S) (nm : Nat) : E.T 63 args s nm = seeR sp_rput (normL [.st [.id, .sl 36 (.st [.id, .ints .u8, .id, .sl 1 (.ints .u8)]), .sl 2 (.st [.id, .ints .u8])]] args) s := rfl
theorem b_rput : hasBody E 63 := ⟨_, Tryz.func63, rfl, rfl⟩
theorem spec_rbare (args : List D) (s : S) (nm : Nat) : E.T 47 args s nm = seeR sp_rbare (normL [.st [.id, .sl 36 (.st [.id, .ints .u8, .id, .sl 1 (.ints .u8)]), .sl 2 (.st [.id, .ints .u8])]] args) s := rfl
theorem b_rbare : hasBody E 47 := ⟨_, Tryz.func47, rfl, rfl⟩
theorem spec_rid (args : List D) (s : S) (nm : Nat) : E.T 32 args s nm = seeR sp_tid (normL [.st [.id, .sl 36 (.st [.id, .ints .u8, .id, .sl 1 (.ints .u8)]), .sl 2 (.st [.id, .ints .u8])]] args) s := rfl
theorem b_rid : hasBody E 32 := ⟨_, Tryz.func32, rfl, rfl⟩
theorem spec_rfull (args : List D) (s : S) (nm : Nat) : E.T 48 args s nm = seeR sp_tfull (normL [.st [.id, .sl 36 (.st [.id, .ints .u8, .id, .sl 1 (.ints .u8)]), .sl 2 (.st [.id, .ints .u8])]] args) s := rfl
theorem b_rfull : hasBody E 48 := ⟨_, Tryz.func48, rfl, rfl⟩
theorem spec_fulls1 (args : List D) (s : S) (nm : Nat) : E.T 84 args s nm = seeR sp_fulls1 (normL [.id, .st [.id, .sl 36 (.st [.id, .ints .u8, .id, .sl 1 (.ints .u8)]), .sl 2 (.st [.id, .ints .u8])]] args) s := rfl
theorem b_fulls1 : hasBody E 84 := ⟨_, Tryz.func84, rfl, rfl⟩
theorem spec_ids1 (args : List D) (s : S) (nm : Nat) : E.T 42 args s nm = seeR sp_ids1 (normL [.id, .st [.id, .sl 36 (.st [.id, .ints .u8, .id, .sl 1 (.ints .u8)]), .sl 2 (.st [.id, .ints .u8])]] args) s := rfl
theorem b_ids1 : hasBody E 42 := ⟨_, Tryz.func42, rfl, rfl⟩
theorem spec_names (args : List D) (s : S) (nm : Nat) : E.T 41 args s nm = seeR (sp_names 84 42) (normL [.st [.id, .sl 4 (.st [.id, .sl 36 (.st [.id, .ints .u8, .id, .sl 1 (.ints .u8)]), .sl 2 (.st [.id, .ints .u8])])]] args) s := rfl
theorem b_names : hasBody E 41 := ⟨_, Tryz.func41, rfl, rfl⟩
theorem spec_fulls (args : List D) (s : S) (nm : Nat) : E.T 60 args s nm = seeR sp_fulls (normL [.st [.id, .sl 4 (.st [.id, .sl 36 (.st [.id, .ints .u8, .id, .sl 1 (.ints .u8)]), .sl 2 (.st [.id, .ints .u8])])]] args) s := rfl
theorem b_fulls : hasBody E 60 := ⟨_, Tryz.func60, rfl, rfl⟩
theorem spec_ids (args : List D) (s : S) (nm : Nat) : E.T 28 args s nm = seeR sp_ids (normL [.st [.id, .sl 4 (.st [.id, .sl 36 (.st [.id, .ints .u8, .id, .sl 1 (.ints .u8)]), .sl 2 (.st [.id, .ints .u8])])]] args) s := rfl
theorem b_ids : hasBody E 28 := ⟨_, Tryz.func28, rfl, rfl⟩
theorem spec_rfulls (args : List D) (s : S) (nm : Nat) : E.T 33 args s nm = seeR sp_fulls (normL [.st [.id, .sl 4 (.st [.id, .sl 36 (.st [.id, .ints .u8, .id, .sl 1 (.ints .u8)]), .sl 2 (.st [.id, .ints .u8])])]] args) s := rfl
theorem b_rfulls : hasBody E 33 := ⟨_, Tryz.func33, rfl, rfl⟩
theorem spec_rids (args : List D) (s : S) (nm : Nat) : E.T 14 args s nm = seeR sp_ids (normL [.st [.id, .sl 4 (.st [.id, .sl 36 (.st [.id, .ints .u8, .id, .sl 1 (.ints .u8)]), .sl 2 (.st [.id, .ints .u8])])]] args) s := rfl
theorem b_rids : hasBody E 14 := ⟨_, Tryz.func14, rfl, rfl⟩
theorem spec_hp2 (args : List D) (s : S) (nm : Nat) : E.T 82 args s nm = seeR sp_hp2 (normL [] args) s := rfl
theorem b_hp2 : hasBody E 82 := ⟨_, Tryz.func82, rfl, rfl⟩
theorem spec_hasPrefix (args : List D) (s : S) (nm : Nat) : E.T 57 args s nm = seeR sp_hasPrefix (normL [] args) s := rfl
theorem b_hasPrefix : hasBody E 57 := ⟨_, Tryz.func57, rfl, rfl⟩
theorem spec_gcommit (args : List D) (s : S) (nm : Nat) : E.T 43 args s nm = seeR sp_gcommit (normL [.st [.id, .sl 4 (.st [.id, .sl 36 (.st [.id, .ints .u8, .id, .sl 1 (.ints .u8)]), .sl 2 (.st [.id, .ints .u8])])]] args) s := rfl
theorem b_gcommit : hasBody E 43 := ⟨_, Tryz.func43, rfl, rfl⟩
theorem spec_gwanted (args : List D) (s : S) (nm : Nat) : E.T 45 args s nm = seeR sp_gwanted (normL [.st [.id, .sl 4 (.st [.id, .sl 36 (.st [.id, .ints .u8, .id, .sl 1 (.ints .u8)]), .sl 2 (.st [.id, .ints .u8])])]] args) s := rfl
theorem b_gwanted : hasBody E 45 := ⟨_, Tryz.func45, rfl, rfl⟩
theorem spec_rcommit (args : List D) (s : S) (nm : Nat) : E.T 15 args s nm = seeR sp_gcommit (normL [.st [.id, .sl 4 (.st [.id, .sl 36 (.st [.id, .ints .u8, .id, .sl 1 (.ints .u8)]), .sl 2 (.st [.id, .ints .u8])])]] args) s := rfl
theorem b_rcommit : hasBody E 15 := ⟨_, Tryz.func15, rfl, rfl⟩
theorem spec_rwanted (args : List D) (s : S) (nm : Nat) : E.T 16 args s nm = seeR sp_gwanted (normL [.st [.id, .sl 4 (.st [.id, .sl 36 (.st [.id, .ints .u8, .id, .sl 1 (.ints .u8)]), .sl 2 (.st [.id, .ints .u8])])]] args) s := rfl
theorem b_rwanted : hasBody E 16 := ⟨_, Tryz.func16, rfl, rfl⟩
theorem spec_back (args : List D) (s : S) (nm : Nat) : E.T 56 args s nm = seeR (sp_back 81) (normL [.sl 2 (.st [.id, .ints .u8])] args) s := rfl
theorem b_back : hasBody E 56 := ⟨_, Tryz.func56, rfl, rfl⟩
theorem spec_small (args : List D) (s : S) (nm : Nat) : E.T 4 args s nm = seeR sp_small (normL [.st [.id, .sl 4 (.st [.id, .sl 36 (.st [.id, .ints .u8, .id, .sl 1 (.ints .u8)]), .sl 2 (.st [.id, .ints .u8])])]] args) s := rfl
theorem b_small : hasBody E 4 := ⟨_, Tryz.func4, rfl, rfl⟩
theorem spec_cbase (args : List D) (s : S) (nm : Nat) : E.T 9 args s nm = seeR sp_cbase (normL [.st [.id, .sl 36 (.st [.id, .ints .u8, .id, .sl 1 (.ints .u8)]), .sl 2 (.st [.id, .ints .u8])]] args) s := rfl
theorem b_cbase : hasBody E 9 := ⟨_, Tryz.func9, rfl, rfl⟩
theorem spec_csum (args : List D) (s : S) (nm : Nat) : E.T 25 args s nm = seeR sp_csum (normL [.st [.id, .sl 36 (.st [.id, .ints .u8, .id, .sl 1 (.ints .u8)]), .sl 2 (.st [.id, .ints .u8])]] args) s := rfl
theorem b_csum : hasBody E 25 := ⟨_, Tryz.func25, rfl, rfl⟩
theorem spec_cval (args : List D) (s : S) (nm : Nat) : E.T 24 args s nm = seeR sp_cval (normL [.st [.id, .sl 36 (.st [.id, .ints .u8, .id, .sl 1 (.ints .u8)]), .sl 2 (.st [.id, .ints .u8])]] args) s := rfl
theorem b_cval : hasBody E 24 := ⟨_, Tryz.func24, rfl, rfl⟩
theorem spec_double (args : List D) (s : S) (nm : Nat) : E.T 22 args s nm = seeR sp_double (normL [.st [.id, .sl 36 (.st [.id, .ints .u8, .id, .sl 1 (.ints .u8)]), .sl 2 (.st [.id, .ints .u8])]] args) s := rfl
theorem b_double : hasBody E 22 := ⟨_, Tryz.func22, rfl, rfl⟩
theorem spec_indexTx (args : List D) (s : S) (nm : Nat) : E.T 53 args s nm = seeR (sp_indexTx 9 22 24 44) (normL [.sl 4 (.st [.id, .sl 36 (.st [.id, .ints .u8, .id, .sl 1 (.ints .u8)]), .sl 2 (.st [.id, .ints .u8])])] args) s := rfl
theorem b_indexTx : hasBody E 53 := ⟨_, Tryz.func53, rfl, rfl⟩
theorem spec_containsTx (args : List D) (s : S) (nm : Nat) : E.T 38 args s nm = seeR (sp_containsTx 9 22 24 44) (normL [.sl 4 (.st [.id, .sl 36 (.st [.id, .ints .u8, .id, .sl 1 (.ints .u8)]), .sl 2 (.st [.id, .ints .u8])])] args) s := rfl
theorem b_containsTx : hasBody E 38 := ⟨_, Tryz.func38, rfl, rfl⟩
theorem spec_none (args : List D) (s : S) (nm : Nat) : E.T 21 args s nm = seeR (sp_none 9 22 24 44) (normL [.sl 4 (.st [.id, .sl 36 (.st [.id, .ints .u8, .id, .sl 1 (.ints .u8)]), .sl 2 (.st [.id, .ints .u8])])] args) s := rfl
theorem b_none : hasBody E 21 := ⟨_, Tryz.func21, rfl, rfl⟩
theorem spec_coinbase (args : List D) (s : S) (nm : Nat) : E.T 19 args s nm = seeR sp_coinbase (normL [.st [.id, .sl 4 (.st [.id, .sl 36 (.st [.id, .ints .u8, .id, .sl 1 (.ints .u8)]), .sl 2 (.st [.id, .ints .u8])])]] args) s := rfl
theorem b_coinbase : hasBody E 19 := ⟨_, Tryz.func19, rfl, rfl⟩
theorem spec_rule1 (args : List D) (s : S) (nm : Nat) : E.T 20 args s nm = seeR sp_rule1 (normL [.st [.id, .sl 4 (.st [.id, .sl 36 (.st [.id, .ints .u8, .id, .sl 1 (.ints .u8)]), .sl 2 (.st [.id, .ints .u8])])]] args) s := rfl
theorem b_rule1 : hasBody E 20 := ⟨_, Tryz.func20, rfl, rfl⟩
theorem spec_rule2 (args : List D) (s : S) (nm : Nat) : E.T 23 args s nm = seeR sp_rule2 (normL [.st [.id, .sl 4 (.st [.id, .sl 36 (.st [.id, .ints .u8, .id, .sl 1 (.ints .u8)]), .sl 2 (.st [.id, .ints .u8])])]] args) s := rfl
theorem b_rule2 : hasBody E 23 := ⟨_, Tryz.func23, rfl, rfl⟩
theorem spec_rule3 (args : List D) (s : S) (nm : Nat) : E.T 26 args s nm = seeR sp_rule3 (normL [.st [.id, .sl 4 (.st [.id, .sl 36 (.st [.id, .ints .u8, .id, .sl 1 (.ints .u8)]), .sl 2 (.st [.id, .ints .u8])])]] args) s := rfl
theorem b_rule3 : hasBody E 26 := ⟨_, Tryz.func26, rfl, rfl⟩
theorem spec_rule4 (args : List D) (s : S) (nm : Nat) : E.T 29 args s nm = seeR sp_rule4 (normL [.st [.id, .sl 4 (.st [.id, .sl 36 (.st [.id, .ints .u8, .id, .sl 1 (.ints .u8)]), .sl 2 (.st [.id, .ints .u8])])]] args) s := rfl
theorem b_rule4 : hasBody E 29 := ⟨_, Tryz.func29, rfl, rfl⟩
theorem spec_cwitnessed (args : List D) (s : S) (nm : Nat) : E.T 30 args s nm = seeR sp_cwitnessed (normL [.st [.id, .sl 4 (.st [.id, .sl 36 (.st [.id, .ints .u8, .id, .sl 1 (.ints .u8)]), .sl 2 (.st [.id, .ints .u8])])]] args) s := rfl
theorem b_cwitnessed : hasBody E 30 := ⟨_, Tryz.func30, rfl, rfl⟩
theorem spec_rules (args : List D) (s : S) (nm : Nat) : E.T 10 args s nm = seeR (sp_rules 19 20 23 26 29 30) (normL [] args) s := rfl
theorem b_rules : hasBody E 10 := ⟨_, Tryz.func10, rfl, rfl⟩
theorem spec_cblock (args : List D) (s : S) (nm : Nat) : E.T 6 args s nm = seeR sp_cblock (normL [.st [.id, .sl 4 (.st [.id, .sl 36 (.st [.id, .ints .u8, .id, .sl 1 (.ints .u8)]), .sl 2 (.st [.id, .ints .u8])])]] args) s := rfl
theorem b_cblock : hasBody E 6 := ⟨_, Tryz.func6, rfl, rfl⟩
theorem spec_plain (args : List D) (s : S) (nm : Nat) : E.T 8 args s nm = seeR sp_plain (normL [] args) s := rfl
theorem b_plain : hasBody E 8 := ⟨_, Tryz.func8, rfl, rfl⟩
theorem spec_cworks (args : List D) (s : S) (nm : Nat) : E.T 5 args s nm = seeR sp_cworks (normL [] args) s := rfl
theorem b_cworks : hasBody E 5 := ⟨_, Tryz.func5, rfl, rfl⟩
theorem spec_rcbase (args : List D) (s : S) (nm : Nat) : E.T 11 args s nm = seeR sp_rcbase (normL [.st [.id, .sl 36 (.st [.id, .ints .u8, .id, .sl 1 (.ints .u8)]), .sl 2 (.st [.id, .ints .u8])]] args) s := rfl
theorem b_rcbase : hasBody E 11 := ⟨_, Tryz.func11, rfl, rfl⟩
theorem spec_rcsum (args : List D) (s : S) (nm : Nat) : E.T 12 args s nm = seeR sp_rcsum (normL [.st [.id, .sl 36 (.st [.id, .ints .u8, .id, .sl 1 (.ints .u8)]), .sl 2 (.st [.id, .ints .u8])]] args) s := rfl
theorem b_rcsum : hasBody E 12 := ⟨_, Tryz.func12, rfl, rfl⟩
theorem spec_rcblock (args : List D) (s : S) (nm : Nat) : E.T 7 args s nm = seeR sp_rcblock (normL [.st [.id, .sl 4 (.st [.id, .sl 36 (.st [.id, .ints .u8, .id, .sl 1 (.ints .u8)]), .sl 2 (.st [.id, .ints .u8])])]] args) s := rfl
theorem b_rcblock : hasBody E 7 := ⟨_, Tryz.func7, rfl, rfl⟩
theorem spec_lawCheckBlocks (args : List D) (s : S) (nm : Nat) : E.T 3 args s nm = seeR sp_lawCheckBlocks (normL [.st [.id, .sl 4 (.st [.id, .sl 36 (.st [.id, .ints .u8, .id, .sl 1 (.ints .u8)]), .sl 2 (.st [.id, .ints .u8])])]] args) s := rfl
end Go.Vi.CZ
end

section
set_option linter.unusedVariables false
set_option linter.unusedSimpArgs false
set_option maxHeartbeats 0
set_option maxRecDepth 20000
namespace Go.Vi.CZ
open Go.Proofs

theorem c_clone : Contract E 106 := by
  refine contract_boxE hE hgl (show E.P.funcs[106]? = some Tryz.f106 from Tryz.func106) rfl (p := sp_cloneW) (p0 := sp_clone) (fun _ _ _ => rfl) (fun a c => rfl) ?_ ?_
  · intro args ds tv h
    unfold sp_clone
    split
    · rename_i rs o b
      match b, h with
      | [], h => exact absurd rfl (h o)
      | x :: b, _ => rfl
    · rfl
    · rename_i h2 h3
      unfold sp_cloneW
      split
      · exact (h2 _ _ rfl rfl).elim
      · exact (h3 _ _ rfl rfl rfl).elim
      · rfl
  intro args ds tv hv hdl htl
  unfold sp_cloneW at hv ⊢
  split at hv
  case h_3 => exact hv.elim
  · rename_i rs o x b
    refine ⟨by simp, Nat.le_of_ble_eq_true rfl, ?_⟩
    obtain ⟨hr, hl⟩ := hv
    simp only [List.length_cons] at hl
    rcases hr with ⟨rfl, rfl⟩ | ⟨rfl, rfl, _⟩
    · simp (config := {dsimp := false}) only [↓vp0, vz, vn, nq, tys, cellD, wideIR, if_true, if_false, implies_true, forall_const, ne_eq, reduceIte, reduceCtorEq, Nat.reduceEqDiff, Nat.reduceAdd, Nat.reduceMul, Nat.reduceLT, Nat.reduceSub, Nat.reduceLeDiff, Nat.reduceBNe, Nat.reduceBEq, Nat.reduceBeqDiff, List.range, List.range.loop, gl0, Tryz.ntmps106, Tryz.results106, retA, vb]
      refine ⟨by omega, [], ?_⟩
      simp (config := {dsimp := false}) only [↓vp0, vz, vn, nq, tys, cellD, wideIR, if_true, if_false, implies_true, forall_const, ne_eq, reduceIte, reduceCtorEq, Nat.reduceEqDiff, Nat.reduceAdd, Nat.reduceMul, Nat.reduceLT, Nat.reduceSub, Nat.reduceLeDiff, Nat.reduceBNe, Nat.reduceBEq, Nat.reduceBeqDiff, List.range, List.range.loop, gl0, Tryz.ntmps106, Tryz.results106, retA, adopt, retB, vb]
      refine ⟨[], [28], [], ⟨rfl, rfl⟩, ⟨rfl, rfl⟩, ⟨by simp, by simp⟩, by simp, rfl, by simp [getAll, S.tok, look], ⟨_, rfl, rfl⟩, ⟨_, rfl, rfl⟩, id rfl⟩
    · simp (config := {dsimp := false}) only [↓vp0, vz, vn, nq, tys, cellD, wideIR, if_true, if_false, implies_true, forall_const, ne_eq, reduceIte, reduceCtorEq, Nat.reduceEqDiff, Nat.reduceAdd, Nat.reduceMul, Nat.reduceLT, Nat.reduceSub, Nat.reduceLeDiff, Nat.reduceBNe, Nat.reduceBEq, Nat.reduceBeqDiff, List.range, List.range.loop, gl0, Tryz.ntmps106, Tryz.results106, retA, vb]
      refine ⟨by omega, [], ?_⟩
      simp (config := {dsimp := false}) only [↓vp0, vz, vn, nq, tys, cellD, wideIR, if_true, if_false, implies_true, forall_const, ne_eq, reduceIte, reduceCtorEq, Nat.reduceEqDiff, Nat.reduceAdd, Nat.reduceMul, Nat.reduceLT, Nat.reduceSub, Nat.reduceLeDiff, Nat.reduceBNe, Nat.reduceBEq, Nat.reduceBeqDiff, List.range, List.range.loop, gl0, Tryz.ntmps106, Tryz.results106, retA, adopt, retB, vb]
      refine ⟨[], [28], [], ⟨rfl, rfl⟩, ⟨rfl, rfl⟩, ⟨by simp, by simp⟩, by simp, rfl, by simp [getAll, S.tok, look], ⟨_, rfl, rfl⟩, ⟨_, rfl, rfl⟩, id rfl⟩
  · rename_i a c
    refine ⟨by simp, Nat.le_of_ble_eq_true rfl, ?_⟩
    simp (config := {dsimp := false}) only [↓vp0, vz, vn, nq, tys, cellD, wideIR, if_true, if_false, implies_true, forall_const, ne_eq, reduceIte, reduceCtorEq, Nat.reduceEqDiff, Nat.reduceAdd, Nat.reduceMul, Nat.reduceLT, Nat.reduceSub, Nat.reduceLeDiff, Nat.reduceBNe, Nat.reduceBEq, Nat.reduceBeqDiff, List.range, List.range.loop, gl0, Tryz.ntmps106, Tryz.results106, retA, vb]
    refine ⟨fun h => ⟨[(2, some .u8, 1)], ?_⟩, fun h => ⟨[], ?_⟩⟩
    · simp (config := {dsimp := false}) only [↓vp0, vz, vn, nq, tys, cellD, wideIR, if_true, if_false, implies_true, forall_const, ne_eq, reduceIte, reduceCtorEq, Nat.reduceEqDiff, Nat.reduceAdd, Nat.reduceMul, Nat.reduceLT, Nat.reduceSub, Nat.reduceLeDiff, Nat.reduceBNe, Nat.reduceBEq, Nat.reduceBeqDiff, List.range, List.range.loop, gl0, Tryz.ntmps106, Tryz.results106, retA, adopt, retB, vb]
      refine ⟨[], [24], [], ⟨rfl, rfl⟩, ⟨rfl, rfl⟩, ⟨by simp, by simp⟩, by simp, rfl, by simp [getAll, S.tok, look], ⟨_, rfl, rfl⟩, ⟨_, rfl, rfl⟩, id rfl⟩
    · simp (config := {dsimp := false}) only [↓vp0, vz, vn, nq, tys, cellD, wideIR, if_true, if_false, implies_true, forall_const, ne_eq, reduceIte, reduceCtorEq, Nat.reduceEqDiff, Nat.reduceAdd, Nat.reduceMul, Nat.reduceLT, Nat.reduceSub, Nat.reduceLeDiff, Nat.reduceBNe, Nat.reduceBEq, Nat.reduceBeqDiff, List.range, List.range.loop, gl0, Tryz.ntmps106, Tryz.results106, retA, adopt, retB, vb]
      refine ⟨[], [28], [], ⟨rfl, rfl⟩, ⟨rfl, rfl⟩, ⟨by simp, by simp⟩, by simp, rfl, by simp [getAll, S.tok, look], ⟨_, rfl, rfl⟩, ⟨_, rfl, rfl⟩, id rfl⟩
theorem c_bwidth : Contract E 105 := by
  refine contract_seeT hE hgl (show E.P.funcs[105]? = some Tryz.f105 from Tryz.func105) rfl (p := sp_bwidth) (fun _ _ _ => rfl) ?_
  intro args hv
  unfold sp_bwidth at hv ⊢
  split at hv
  case h_2 => exact hv.elim
  rename_i w
  refine ⟨by simp, Nat.le_of_ble_eq_true rfl, ?_⟩
  simp (config := {dsimp := false}) only [↓vp0, vz, vn, nq, tys, cellD, wideIR, if_true, if_false, implies_true, forall_const, ne_eq, reduceIte, reduceCtorEq, Nat.reduceEqDiff, Nat.reduceAdd, Nat.reduceMul, Nat.reduceLT, Nat.reduceSub, Nat.reduceLeDiff, Nat.reduceBNe, Nat.reduceBEq, Nat.reduceBeqDiff, List.range, List.range.loop, gl0, Tryz.ntmps105, Tryz.results105]
  simp only [gives]
  refine ⟨fun h1 => ⟨fun h2 => ⟨fun h3 => ?_, fun h3 => ?_⟩, fun h2 => ?_⟩, fun h1 => ?_⟩ <;> simp [*]
theorem c_csize : Contract E 107 := by
  refine contract_seeT hE hgl (show E.P.funcs[107]? = some Tryz.f107 from Tryz.func107) rfl (p := sp_csize) (fun _ _ _ => rfl) ?_
  intro args hv
  unfold sp_csize at hv ⊢
  split at hv
  case h_2 => exact hv.elim
  rename_i n
  refine ⟨by simp, Nat.le_of_ble_eq_true rfl, ?_⟩
  simp only [givesIf] at hv
  obtain ⟨h0, h1⟩ := hv
  simp (config := {dsimp := false}) only [↓vp0, vz, vn, nq, tys, cellD, wideIR, if_true, if_false, implies_true, forall_const, ne_eq, reduceIte, reduceCtorEq, Nat.reduceEqDiff, Nat.reduceAdd, Nat.reduceMul, Nat.reduceLT, Nat.reduceSub, Nat.reduceLeDiff, Nat.reduceBNe, Nat.reduceBEq, Nat.reduceBeqDiff, List.range, List.range.loop, gl0, Tryz.ntmps107, Tryz.results107]
  simp only [givesIf, countI, decide_eq_true_eq, decide_eq_false_iff_not]
  refine ⟨fun h => ?_, fun h => ⟨fun h2 => ?_, fun h2 => ⟨fun h3 => ?_, fun h3 => ?_⟩⟩⟩
  · rw [if_neg (by omega), if_neg (by omega), if_neg (by omega)]; rfl
  · rw [if_neg (by omega), if_neg (by omega), if_pos (by omega)]; rfl
  · rw [if_neg (by omega), if_pos (by omega)]; rfl
  · rw [if_pos (by omega)]; rfl
end Go.Vi.CZ
end

section
set_option linter.unusedVariables false
set_option linter.unusedSimpArgs false
set_option maxHeartbeats 0
set_option maxRecDepth 20000
namespace Go.Vi.CZ
open Go.Proofs

theorem byte_at {n : Int} {i : Nat} (h : u64ok n) (hi : i < 8) : IntKind.wrap .u8 (shrI .u64 n (IntKind.wrap .i64 (8 * (i : Int)))) = n / 256 ^ i % 256 := by
  have e1 : IntKind.wrap .i64 (8 * (i : Int)) = ((8 * i : Nat) : Int) := by rw [IntWalk.i64_in _ (by omega)]; omega
  have e2 : shrI .u64 n ((8 * i : Nat) : Int) = n / 256 ^ i := by
    unfold shrI
    rw [Int.toNat_natCast, Nat.min_eq_left (by show 8 * i ≤ 64; omega), Int.fdiv_eq_ediv_of_nonneg _ (Int.le_of_lt (Int.pow_pos (by decide)))]
    congr 1
    rw [Int.pow_mul]
    rfl
  rw [e1, e2]
  rfl
theorem shr_zero {n : Int} {w : Nat} (hw : w ≤ 8) (h : 0 ≤ n ∧ n < 256 ^ w) : shrI .u64 n (IntKind.wrap .i64 (8 * (w : Int))) = 0 := by
  have e1 : IntKind.wrap .i64 (8 * (w : Int)) = ((8 * w : Nat) : Int) := by rw [IntWalk.i64_in _ (by omega)]; omega
  rw [e1]
  unfold shrI
  rw [Int.toNat_natCast, Nat.min_eq_left (by show 8 * w ≤ 64; omega), Int.fdiv_eq_ediv_of_nonneg _ (Int.le_of_lt (Int.pow_pos (by decide)))]
  have : (2 : Int) ^ (8 * w) = 256 ^ w := by rw [Int.pow_mul]; rfl
  rw [this]
  exact Int.ediv_eq_zero_of_lt h.1 h.2
theorem le_succ (n : Int) (w : Nat) : leI (w + 1) n = leI w n ++ [n / 256 ^ w % 256] := by
  simp [leI, List.range_succ]
theorem c_bput : Contract E 97 := by
  refine contract_boxT hE hgl (show E.P.funcs[97]? = some Tryz.f97 from Tryz.func97) rfl (p := sp_bput) (fun _ _ _ => rfl) ?_
  intro args ds tv hv hdl htl
  unfold sp_bput at hv ⊢
  split at hv
  case h_2 => exact hv.elim
  rename_i rs o b w n
  refine ⟨by simp, Nat.le_of_ble_eq_true rfl, ?_⟩
  obtain ⟨hr, hw, hn, hb⟩ := hv
  obtain ⟨w, rfl, hw8⟩ : ∃ k : Nat, w = (k : Int) ∧ (k = 4 ∨ k = 8) := ⟨w.toNat, by omega, by omega⟩
  simp only [Int.toNat_natCast] at hn ⊢
  have hu : u64ok n := ⟨hn.1, by rcases hw8 with rfl | rfl <;> omega⟩
  have hz := shr_zero (n := n) (w := w) (by omega) hn
  have d8 : (decide ((w : Int) = 4) || decide ((w : Int) = 8)) = true := by rcases hw8 with rfl | rfl <;> rfl
  have d1 : (decide ((w : Int) = 1) || (decide ((w : Int) = 2) || (decide ((w : Int) = 4) || decide ((w : Int) = 8)))) = true := by rw [d8]; simp
  have hsh : (0 ≤ IntKind.wrap .i64 (8 * (w : Int))) = True := by rw [IntWalk.i64_in _ (by omega)]; simp; omega
  rcases hr with ⟨rfl, rfl⟩ | ⟨rfl, rfl, hne⟩
  · have hf := fe_no b
    cases hc : decide ((w : Int) < 8)
    all_goals simp (config := {dsimp := false}) only [↓vp0, vz, vn, nq, tys, cellD, wideIR, if_true, if_false, implies_true, forall_const, ne_eq, reduceIte, reduceCtorEq, Nat.reduceEqDiff, Nat.reduceAdd, Nat.reduceMul, Nat.reduceLT, Nat.reduceSub, Nat.reduceLeDiff, Nat.reduceBNe, Nat.reduceBEq, Nat.reduceBeqDiff, List.range, List.range.loop, gl0, Tryz.ntmps97, Tryz.results97, retB, vb, PF.toR, gives, d1, hc, hz, hf, hsh, decide_true, spec_bwidth, sp_bwidth, c_bwidth, b_bwidth, spec_clone, sp_clone, c_clone, b_clone]
    all_goals refine ⟨.inl ⟨rfl, rfl⟩, by omega, ?_⟩
    all_goals refine loopI (Fin (w + 1)) (fun k => [(27, .int .i64 (k.1 : Nat)), (26, .int .i64 (w : Nat)), (8, .sli (.tok 76) .u8 (b ++ leI k.1 n)), (2, .int .u64 n)]) (fun k => ⟨[], [(76, (b.length + k.1, 1))], 92⟩) (fun k => w - k.1) 0 (fun _ => rfl) ?_ ?_
    any_goals (refine ⟨⟨wkD_eq rfl, rfl, wkD_eq rfl, rfl, wkD_eq ?_, rfl, wkD_eq rfl, rfl, trivial⟩, trivial, ⟨rfl, Nat.le_of_ble_eq_true rfl, trivial⟩⟩; exact some_sli (List.append_nil _).symm)
    all_goals rintro ⟨k, hk⟩
    all_goals simp (config := {dsimp := false}) only [↓vp0, vz, vn, nq, tys, cellD, wideIR, if_true, if_false, implies_true, forall_const, ne_eq, reduceIte, reduceCtorEq, Nat.reduceEqDiff, Nat.reduceAdd, Nat.reduceMul, Nat.reduceLT, Nat.reduceSub, Nat.reduceLeDiff, Nat.reduceBNe, Nat.reduceBEq, Nat.reduceBeqDiff, List.range, List.range.loop, gl0, Tryz.ntmps97, Tryz.results97]
    all_goals refine ⟨fun h => ?_, fun h => ?_⟩
    any_goals (
      have h := of_decide_eq_true h
      refine ⟨by rw [IntWalk.i64_in _ (by omega)]; omega, some_tok (by simp [leI_len]), by simp [leI_len]; omega, ⟨k + 1, by omega⟩, ⟨⟨wkD_eq ?_, rfl, wkD_eq rfl, rfl, wkD_eq ?_, rfl, wkD_eq rfl, rfl, trivial⟩, trivial, ⟨?_, Nat.le_of_ble_eq_true rfl, trivial⟩⟩, by (try simp only); omega⟩
      · exact some_i64 (by (try simp only); omega)
      · exact some_sli (by rw [byte_at hu (by omega), List.append_assoc, ← le_succ])
      · exact some_tok (by simp [leI_len]; omega))
    all_goals have h := of_decide_eq_false h
    all_goals obtain rfl : k = w := by omega
    all_goals simp (config := {dsimp := false}) only [↓vp0, vz, vn, nq, tys, cellD, wideIR, if_true, if_false, implies_true, forall_const, ne_eq, reduceIte, reduceCtorEq, Nat.reduceEqDiff, Nat.reduceAdd, Nat.reduceMul, Nat.reduceLT, Nat.reduceSub, Nat.reduceLeDiff, Nat.reduceBNe, Nat.reduceBEq, Nat.reduceBeqDiff, List.range, List.range.loop, gl0, Tryz.ntmps97, Tryz.results97, retB, vb]
    all_goals exact ⟨[], [76], [], ⟨rfl, rfl⟩, ⟨rfl, rfl⟩, ⟨by simp, by simp⟩, by simp, by simp [getAll, S.tok, look], by simp [getAll, S.tok, look], ⟨_, rfl, rfl⟩, ⟨_, rfl, rfl⟩, id rfl⟩
  · have hf := fe_ne (.tok 0) hne
    cases hc : decide ((w : Int) < 8)
    all_goals simp (config := {dsimp := false}) only [↓vp0, vz, vn, nq, tys, cellD, wideIR, if_true, if_false, implies_true, forall_const, ne_eq, reduceIte, reduceCtorEq, Nat.reduceEqDiff, Nat.reduceAdd, Nat.reduceMul, Nat.reduceLT, Nat.reduceSub, Nat.reduceLeDiff, Nat.reduceBNe, Nat.reduceBEq, Nat.reduceBeqDiff, List.range, List.range.loop, gl0, Tryz.ntmps97, Tryz.results97, retB, vb, PF.toR, gives, d1, hc, hz, hf, hsh, decide_true, spec_bwidth, sp_bwidth, c_bwidth, b_bwidth, spec_clone, sp_clone, c_clone, b_clone]
    all_goals refine ⟨.inr ⟨rfl, rfl, hne⟩, by omega, ?_⟩
    all_goals refine loopI (Fin (w + 1)) (fun k => [(27, .int .i64 (k.1 : Nat)), (26, .int .i64 (w : Nat)), (8, .sli (.tok 76) .u8 (b ++ leI k.1 n)), (2, .int .u64 n)]) (fun k => ⟨[], [(0, (b.length, 1)), (76, (b.length + k.1, 1))], 92⟩) (fun k => w - k.1) 0 (fun _ => rfl) ?_ ?_
    any_goals (refine ⟨⟨wkD_eq rfl, rfl, wkD_eq rfl, rfl, wkD_eq ?_, rfl, wkD_eq rfl, rfl, trivial⟩, trivial, ⟨rfl, Nat.le_of_ble_eq_true rfl, rfl, Nat.le_of_ble_eq_true rfl, trivial⟩⟩; exact some_sli (List.append_nil _).symm)
    all_goals rintro ⟨k, hk⟩
    all_goals simp (config := {dsimp := false}) only [↓vp0, vz, vn, nq, tys, cellD, wideIR, if_true, if_false, implies_true, forall_const, ne_eq, reduceIte, reduceCtorEq, Nat.reduceEqDiff, Nat.reduceAdd, Nat.reduceMul, Nat.reduceLT, Nat.reduceSub, Nat.reduceLeDiff, Nat.reduceBNe, Nat.reduceBEq, Nat.reduceBeqDiff, List.range, List.range.loop, gl0, Tryz.ntmps97, Tryz.results97]
    all_goals refine ⟨fun h => ?_, fun h => ?_⟩
    any_goals (
      have h := of_decide_eq_true h
      refine ⟨by rw [IntWalk.i64_in _ (by omega)]; omega, some_tok (by simp [leI_len]), by simp [leI_len]; omega, ⟨k + 1, by omega⟩, ⟨⟨wkD_eq ?_, rfl, wkD_eq rfl, rfl, wkD_eq ?_, rfl, wkD_eq rfl, rfl, trivial⟩, trivial, ⟨rfl, Nat.le_of_ble_eq_true rfl, ?_, Nat.le_of_ble_eq_true rfl, trivial⟩⟩, by (try simp only); omega⟩
      · exact some_i64 (by (try simp only); omega)
      · exact some_sli (by rw [byte_at hu (by omega), List.append_assoc, ← le_succ])
      · exact some_tok (by simp [leI_len]; omega))
    all_goals have h := of_decide_eq_false h
    all_goals obtain rfl : k = w := by omega
    all_goals simp (config := {dsimp := false}) only [↓vp0, vz, vn, nq, tys, cellD, wideIR, if_true, if_false, implies_true, forall_const, ne_eq, reduceIte, reduceCtorEq, Nat.reduceEqDiff, Nat.reduceAdd, Nat.reduceMul, Nat.reduceLT, Nat.reduceSub, Nat.reduceLeDiff, Nat.reduceBNe, Nat.reduceBEq, Nat.reduceBeqDiff, List.range, List.range.loop, gl0, Tryz.ntmps97, Tryz.results97, retB, vb]
    all_goals exact ⟨[], [76], [], ⟨rfl, rfl⟩, ⟨rfl, rfl⟩, ⟨by simp, by simp⟩, by simp, by simp [getAll, S.tok, look], by simp [getAll, S.tok, look], ⟨_, rfl, rfl⟩, ⟨_, rfl, rfl⟩, id rfl⟩
theorem c_num : Contract E 73 := by
  refine contract_boxT hE hgl (show E.P.funcs[73]? = some Tryz.f73 from Tryz.func73) rfl (p := sp_num) (fun _ _ _ => rfl) ?_
  intro args ds tv hv hdl htl
  unfold sp_num at hv ⊢
  split at hv
  case h_2 => exact hv.elim
  rename_i rs o b w n
  refine ⟨by simp, Nat.le_of_ble_eq_true rfl, ?_⟩
  obtain ⟨hr, hw, hn, hb⟩ := hv
  rcases hr with ⟨rfl, rfl⟩ | ⟨rfl, rfl, hne⟩
  · simp (config := {dsimp := false}) only [↓vp0, vz, vn, nq, tys, cellD, wideIR, if_true, if_false, implies_true, forall_const, ne_eq, reduceIte, reduceCtorEq, Nat.reduceEqDiff, Nat.reduceAdd, Nat.reduceMul, Nat.reduceLT, Nat.reduceSub, Nat.reduceLeDiff, Nat.reduceBNe, Nat.reduceBEq, Nat.reduceBeqDiff, List.range, List.range.loop, gl0, Tryz.ntmps73, Tryz.results73, retB, vb, spec_bput, sp_bput, c_bput, b_bput]
    exact ⟨.inl ⟨rfl, rfl⟩, hw, hn.1, hn.2, hb, [], [24], [], ⟨rfl, rfl⟩, ⟨rfl, rfl⟩, ⟨by simp, by simp⟩, by simp, by simp [getAll, S.tok, look], by simp [getAll, S.tok, look], ⟨_, rfl, rfl⟩, ⟨_, rfl, rfl⟩, id rfl⟩
  · simp (config := {dsimp := false}) only [↓vp0, vz, vn, nq, tys, cellD, wideIR, if_true, if_false, implies_true, forall_const, ne_eq, reduceIte, reduceCtorEq, Nat.reduceEqDiff, Nat.reduceAdd, Nat.reduceMul, Nat.reduceLT, Nat.reduceSub, Nat.reduceLeDiff, Nat.reduceBNe, Nat.reduceBEq, Nat.reduceBeqDiff, List.range, List.range.loop, gl0, Tryz.ntmps73, Tryz.results73, retB, vb, spec_bput, sp_bput, c_bput, b_bput]
    exact ⟨.inr ⟨rfl, rfl, hne⟩, hw, hn.1, hn.2, hb, [], [24], [], ⟨rfl, rfl⟩, ⟨rfl, rfl⟩, ⟨by simp, by simp⟩, by simp, by simp [getAll, S.tok, look], by simp [getAll, S.tok, look], ⟨_, rfl, rfl⟩, ⟨_, rfl, rfl⟩, id rfl⟩
theorem count_of {n : Int} (h : 0 ≤ n) : (countI n = [n] ∧ n < 253) ∨ (253 ≤ n ∧ ∃ m w, countI n = m :: leI w n ∧ ((m = 253 ∧ w = 2) ∨ (m = 254 ∧ w = 4) ∨ (m = 255 ∧ w = 8))) := by
  unfold countI
  by_cases h1 : n < 253
  · rw [if_pos h1]; exact .inl ⟨rfl, h1⟩
  · right
    refine ⟨by omega, ?_⟩
    rw [if_neg h1]
    by_cases h2 : n < 65536
    · rw [if_pos h2]; exact ⟨_, _, rfl, .inl ⟨rfl, rfl⟩⟩
    · rw [if_neg h2]
      by_cases h3 : n < 4294967296
      · rw [if_pos h3]; exact ⟨_, _, rfl, .inr (.inl ⟨rfl, rfl⟩)⟩
      · rw [if_neg h3]; exact ⟨_, _, rfl, .inr (.inr ⟨rfl, rfl⟩)⟩
theorem c_cput : Contract E 98 := by
  refine contract_boxT hE hgl (show E.P.funcs[98]? = some Tryz.f98 from Tryz.func98) rfl (p := sp_cput) (fun _ _ _ => rfl) ?_
  intro args ds tv hv hdl htl
  unfold sp_cput at hv ⊢
  split at hv
  case h_2 => exact hv.elim
  rename_i rs o b n
  refine ⟨by simp, Nat.le_of_ble_eq_true rfl, ?_⟩
  obtain ⟨hr, hn, hb⟩ := hv
  rcases hr with ⟨rfl, rfl⟩ | ⟨rfl, rfl, hne⟩
  · have hf := fe_no b
    rcases count_of hn.1 with ⟨hc, h253⟩ | ⟨h253, m, w, hc, hm⟩
    · have e1 : decide (IntKind.wrap .i64 (((1 : Nat) : Int) - 1) = 0) = true := rfl
      have e2 : IntKind.wrap .u8 n = n := IntWalk.u8_in n ⟨hn.1, by omega⟩
      simp (config := {dsimp := false}) only [↓vp0, vz, vn, nq, tys, cellD, wideIR, if_true, if_false, implies_true, forall_const, ne_eq, reduceIte, reduceCtorEq, Nat.reduceEqDiff, Nat.reduceAdd, Nat.reduceMul, Nat.reduceLT, Nat.reduceSub, Nat.reduceLeDiff, Nat.reduceBNe, Nat.reduceBEq, Nat.reduceBeqDiff, List.range, List.range.loop, gl0, Tryz.ntmps98, Tryz.results98, retB, vb, PF.toR, givesIf, hf, hc, e1, e2, eq_self, decide_true, spec_clone, sp_clone, c_clone, b_clone, spec_csize, sp_csize, c_csize, b_csize]
      exact ⟨.inl ⟨rfl, rfl⟩, by omega, hn, by omega, [], [16], [], ⟨rfl, rfl⟩, ⟨rfl, rfl⟩, ⟨by simp, by simp⟩, by simp, by simp [getAll, S.tok, look], by simp [getAll, S.tok, look], ⟨_, rfl, rfl⟩, ⟨_, rfl, rfl⟩, id rfl⟩
    · have e1 : IntKind.wrap .i64 ((((leI w n).length + 1 : Nat) : Int) - 1) = (w : Int) := by rw [leI_len, IntWalk.i64_in _ (by omega)]; omega
      rcases hm with ⟨rfl, rfl⟩ | ⟨rfl, rfl⟩ | ⟨rfl, rfl⟩
      all_goals simp (config := {dsimp := false}) only [↓vp0, vz, vn, nq, tys, cellD, wideIR, if_true, if_false, implies_true, forall_const, ne_eq, reduceIte, reduceCtorEq, Nat.reduceEqDiff, Nat.reduceAdd, Nat.reduceMul, Nat.reduceLT, Nat.reduceSub, Nat.reduceLeDiff, Nat.reduceBNe, Nat.reduceBEq, Nat.reduceBeqDiff, List.range, List.range.loop, gl0, Tryz.ntmps98, Tryz.results98, retB, vb, PF.toR, givesIf, hf, hc, e1, eq_self, decide_true, show decide (((2 : Nat) : Int) = 0) = false from rfl, show decide (((4 : Nat) : Int) = 0) = false from rfl, show decide (((8 : Nat) : Int) = 0) = false from rfl, show decide (((2 : Nat) : Int) = 2) = true from rfl, show decide (((4 : Nat) : Int) = 2) = false from rfl, show decide (((8 : Nat) : Int) = 2) = false from rfl, show decide (((4 : Nat) : Int) = 4) = true from rfl, show decide (((8 : Nat) : Int) = 4) = false from rfl, spec_clone, sp_clone, c_clone, b_clone, spec_csize, sp_csize, c_csize, b_csize]
      all_goals refine ⟨.inl ⟨rfl, rfl⟩, by omega, hn, by omega, ?_⟩
      · refine loopI (Fin (2 + 1)) (fun k => [(35, .int .i64 (k.1 : Nat)), (34, .int .i64 ((2 : Nat) : Int)), (5, .sli (.tok 16) .u8 (b ++ 253 :: leI k.1 n)), (1, .int .u64 n)]) (fun k => ⟨[], [(16, (b.length + 1 + k.1, 1))], 84⟩) (fun k => 2 - k.1) 0 (fun _ => rfl) ?_ ?_
        · exact ⟨⟨wkD_eq rfl, rfl, wkD_eq rfl, rfl, wkD_eq rfl, rfl, wkD_eq rfl, rfl, trivial⟩, trivial, ⟨rfl, Nat.le_of_ble_eq_true rfl, trivial⟩⟩
        rintro ⟨k, hk⟩
        simp (config := {dsimp := false}) only [↓vp0, vz, vn, nq, tys, cellD, wideIR, if_true, if_false, implies_true, forall_const, ne_eq, reduceIte, reduceCtorEq, Nat.reduceEqDiff, Nat.reduceAdd, Nat.reduceMul, Nat.reduceLT, Nat.reduceSub, Nat.reduceLeDiff, Nat.reduceBNe, Nat.reduceBEq, Nat.reduceBeqDiff, List.range, List.range.loop, gl0, Tryz.ntmps98, Tryz.results98]
        refine ⟨fun h => ?_, fun h => ?_⟩
        · have h := of_decide_eq_true h
          refine ⟨by rw [IntWalk.i64_in _ (by omega)]; omega, some_tok (by simp [leI_len]; omega), by simp [leI_len]; omega, ⟨k + 1, by omega⟩, ⟨⟨wkD_eq ?_, rfl, wkD_eq rfl, rfl, wkD_eq ?_, rfl, wkD_eq rfl, rfl, trivial⟩, trivial, ⟨?_, Nat.le_of_ble_eq_true rfl, trivial⟩⟩, by (try simp only); omega⟩
          · exact some_i64 (by (try simp only); omega)
          · exact some_sli (by rw [byte_at hn (by omega), List.append_assoc, List.cons_append, ← le_succ])
          · exact some_tok (by simp [leI_len]; omega)
        · have h := of_decide_eq_false h
          obtain rfl : k = 2 := by omega
          simp (config := {dsimp := false}) only [↓vp0, vz, vn, nq, tys, cellD, wideIR, if_true, if_false, implies_true, forall_const, ne_eq, reduceIte, reduceCtorEq, Nat.reduceEqDiff, Nat.reduceAdd, Nat.reduceMul, Nat.reduceLT, Nat.reduceSub, Nat.reduceLeDiff, Nat.reduceBNe, Nat.reduceBEq, Nat.reduceBeqDiff, List.range, List.range.loop, gl0, Tryz.ntmps98, Tryz.results98, retB, vb, hc]
          exact ⟨[], [16], [], ⟨rfl, rfl⟩, ⟨rfl, rfl⟩, ⟨by simp, by simp⟩, by simp, by simp [getAll, S.tok, look], by simp [getAll, S.tok, look, leI_len]; try omega, ⟨_, rfl, rfl⟩, ⟨_, rfl, rfl⟩, id rfl⟩
      · refine loopI (Fin (4 + 1)) (fun k => [(35, .int .i64 (k.1 : Nat)), (34, .int .i64 ((4 : Nat) : Int)), (5, .sli (.tok 16) .u8 (b ++ 254 :: leI k.1 n)), (1, .int .u64 n)]) (fun k => ⟨[], [(16, (b.length + 1 + k.1, 1))], 92⟩) (fun k => 4 - k.1) 0 (fun _ => rfl) ?_ ?_
        · exact ⟨⟨wkD_eq rfl, rfl, wkD_eq rfl, rfl, wkD_eq rfl, rfl, wkD_eq rfl, rfl, trivial⟩, trivial, ⟨rfl, Nat.le_of_ble_eq_true rfl, trivial⟩⟩
        rintro ⟨k, hk⟩
        simp (config := {dsimp := false}) only [↓vp0, vz, vn, nq, tys, cellD, wideIR, if_true, if_false, implies_true, forall_const, ne_eq, reduceIte, reduceCtorEq, Nat.reduceEqDiff, Nat.reduceAdd, Nat.reduceMul, Nat.reduceLT, Nat.reduceSub, Nat.reduceLeDiff, Nat.reduceBNe, Nat.reduceBEq, Nat.reduceBeqDiff, List.range, List.range.loop, gl0, Tryz.ntmps98, Tryz.results98]
        refine ⟨fun h => ?_, fun h => ?_⟩
        · have h := of_decide_eq_true h
          refine ⟨by rw [IntWalk.i64_in _ (by omega)]; omega, some_tok (by simp [leI_len]; omega), by simp [leI_len]; omega, ⟨k + 1, by omega⟩, ⟨⟨wkD_eq ?_, rfl, wkD_eq rfl, rfl, wkD_eq ?_, rfl, wkD_eq rfl, rfl, trivial⟩, trivial, ⟨?_, Nat.le_of_ble_eq_true rfl, trivial⟩⟩, by (try simp only); omega⟩
          · exact some_i64 (by (try simp only); omega)
          · exact some_sli (by rw [byte_at hn (by omega), List.append_assoc, List.cons_append, ← le_succ])
          · exact some_tok (by simp [leI_len]; omega)
        · have h := of_decide_eq_false h
          obtain rfl : k = 4 := by omega
          simp (config := {dsimp := false}) only [↓vp0, vz, vn, nq, tys, cellD, wideIR, if_true, if_false, implies_true, forall_const, ne_eq, reduceIte, reduceCtorEq, Nat.reduceEqDiff, Nat.reduceAdd, Nat.reduceMul, Nat.reduceLT, Nat.reduceSub, Nat.reduceLeDiff, Nat.reduceBNe, Nat.reduceBEq, Nat.reduceBeqDiff, List.range, List.range.loop, gl0, Tryz.ntmps98, Tryz.results98, retB, vb, hc]
          exact ⟨[], [16], [], ⟨rfl, rfl⟩, ⟨rfl, rfl⟩, ⟨by simp, by simp⟩, by simp, by simp [getAll, S.tok, look], by simp [getAll, S.tok, look, leI_len]; try omega, ⟨_, rfl, rfl⟩, ⟨_, rfl, rfl⟩, id rfl⟩
      · refine loopI (Fin (8 + 1)) (fun k => [(35, .int .i64 (k.1 : Nat)), (34, .int .i64 ((8 : Nat) : Int)), (5, .sli (.tok 16) .u8 (b ++ 255 :: leI k.1 n)), (1, .int .u64 n)]) (fun k => ⟨[], [(16, (b.length + 1 + k.1, 1))], 92⟩) (fun k => 8 - k.1) 0 (fun _ => rfl) ?_ ?_
        · exact ⟨⟨wkD_eq rfl, rfl, wkD_eq rfl, rfl, wkD_eq rfl, rfl, wkD_eq rfl, rfl, trivial⟩, trivial, ⟨rfl, Nat.le_of_ble_eq_true rfl, trivial⟩⟩
        rintro ⟨k, hk⟩
        simp (config := {dsimp := false}) only [↓vp0, vz, vn, nq, tys, cellD, wideIR, if_true, if_false, implies_true, forall_const, ne_eq, reduceIte, reduceCtorEq, Nat.reduceEqDiff, Nat.reduceAdd, Nat.reduceMul, Nat.reduceLT, Nat.reduceSub, Nat.reduceLeDiff, Nat.reduceBNe, Nat.reduceBEq, Nat.reduceBeqDiff, List.range, List.range.loop, gl0, Tryz.ntmps98, Tryz.results98]
        refine ⟨fun h => ?_, fun h => ?_⟩
        · have h := of_decide_eq_true h
          refine ⟨by rw [IntWalk.i64_in _ (by omega)]; omega, some_tok (by simp [leI_len]; omega), by simp [leI_len]; omega, ⟨k + 1, by omega⟩, ⟨⟨wkD_eq ?_, rfl, wkD_eq rfl, rfl, wkD_eq ?_, rfl, wkD_eq rfl, rfl, trivial⟩, trivial, ⟨?_, Nat.le_of_ble_eq_true rfl, trivial⟩⟩, by (try simp only); omega⟩
          · exact some_i64 (by (try simp only); omega)
          · exact some_sli (by rw [byte_at hn (by omega), List.append_assoc, List.cons_append, ← le_succ])
          · exact some_tok (by simp [leI_len]; omega)
        · have h := of_decide_eq_false h
          obtain rfl : k = 8 := by omega
          simp (config := {dsimp := false}) only [↓vp0, vz, vn, nq, tys, cellD, wideIR, if_true, if_false, implies_true, forall_const, ne_eq, reduceIte, reduceCtorEq, Nat.reduceEqDiff, Nat.reduceAdd, Nat.reduceMul, Nat.reduceLT, Nat.reduceSub, Nat.reduceLeDiff, Nat.reduceBNe, Nat.reduceBEq, Nat.reduceBeqDiff, List.range, List.range.loop, gl0, Tryz.ntmps98, Tryz.results98, retB, vb, hc]
          exact ⟨[], [16], [], ⟨rfl, rfl⟩, ⟨rfl, rfl⟩, ⟨by simp, by simp⟩, by simp, by simp [getAll, S.tok, look], by simp [getAll, S.tok, look, leI_len]; try omega, ⟨_, rfl, rfl⟩, ⟨_, rfl, rfl⟩, id rfl⟩
  · have hf := fe_ne (.tok 0) hne
    rcases count_of hn.1 with ⟨hc, h253⟩ | ⟨h253, m, w, hc, hm⟩
    · have e1 : decide (IntKind.wrap .i64 (((1 : Nat) : Int) - 1) = 0) = true := rfl
      have e2 : IntKind.wrap .u8 n = n := IntWalk.u8_in n ⟨hn.1, by omega⟩
      simp (config := {dsimp := false}) only [↓vp0, vz, vn, nq, tys, cellD, wideIR, if_true, if_false, implies_true, forall_const, ne_eq, reduceIte, reduceCtorEq, Nat.reduceEqDiff, Nat.reduceAdd, Nat.reduceMul, Nat.reduceLT, Nat.reduceSub, Nat.reduceLeDiff, Nat.reduceBNe, Nat.reduceBEq, Nat.reduceBeqDiff, List.range, List.range.loop, gl0, Tryz.ntmps98, Tryz.results98, retB, vb, PF.toR, givesIf, hf, hc, e1, e2, eq_self, decide_true, spec_clone, sp_clone, c_clone, b_clone, spec_csize, sp_csize, c_csize, b_csize]
      exact ⟨.inr ⟨rfl, rfl, hne⟩, by omega, hn, by omega, [], [16], [], ⟨rfl, rfl⟩, ⟨rfl, rfl⟩, ⟨by simp, by simp⟩, by simp, by simp [getAll, S.tok, look], by simp [getAll, S.tok, look], ⟨_, rfl, rfl⟩, ⟨_, rfl, rfl⟩, id rfl⟩
    · have e1 : IntKind.wrap .i64 ((((leI w n).length + 1 : Nat) : Int) - 1) = (w : Int) := by rw [leI_len, IntWalk.i64_in _ (by omega)]; omega
      rcases hm with ⟨rfl, rfl⟩ | ⟨rfl, rfl⟩ | ⟨rfl, rfl⟩
      all_goals simp (config := {dsimp := false}) only [↓vp0, vz, vn, nq, tys, cellD, wideIR, if_true, if_false, implies_true, forall_const, ne_eq, reduceIte, reduceCtorEq, Nat.reduceEqDiff, Nat.reduceAdd, Nat.reduceMul, Nat.reduceLT, Nat.reduceSub, Nat.reduceLeDiff, Nat.reduceBNe, Nat.reduceBEq, Nat.reduceBeqDiff, List.range, List.range.loop, gl0, Tryz.ntmps98, Tryz.results98, retB, vb, PF.toR, givesIf, hf, hc, e1, eq_self, decide_true, show decide (((2 : Nat) : Int) = 0) = false from rfl, show decide (((4 : Nat) : Int) = 0) = false from rfl, show decide (((8 : Nat) : Int) = 0) = false from rfl, show decide (((2 : Nat) : Int) = 2) = true from rfl, show decide (((4 : Nat) : Int) = 2) = false from rfl, show decide (((8 : Nat) : Int) = 2) = false from rfl, show decide (((4 : Nat) : Int) = 4) = true from rfl, show decide (((8 : Nat) : Int) = 4) = false from rfl, spec_clone, sp_clone, c_clone, b_clone, spec_csize, sp_csize, c_csize, b_csize]
      all_goals refine ⟨.inr ⟨rfl, rfl, hne⟩, by omega, hn, by omega, ?_⟩
      · refine loopI (Fin (2 + 1)) (fun k => [(35, .int .i64 (k.1 : Nat)), (34, .int .i64 ((2 : Nat) : Int)), (5, .sli (.tok 16) .u8 (b ++ 253 :: leI k.1 n)), (1, .int .u64 n)]) (fun k => ⟨[], [(0, (b.length, 1)), (16, (b.length + 1 + k.1, 1))], 84⟩) (fun k => 2 - k.1) 0 (fun _ => rfl) ?_ ?_
        · exact ⟨⟨wkD_eq rfl, rfl, wkD_eq rfl, rfl, wkD_eq rfl, rfl, wkD_eq rfl, rfl, trivial⟩, trivial, ⟨rfl, Nat.le_of_ble_eq_true rfl, rfl, Nat.le_of_ble_eq_true rfl, trivial⟩⟩
        rintro ⟨k, hk⟩
        simp (config := {dsimp := false}) only [↓vp0, vz, vn, nq, tys, cellD, wideIR, if_true, if_false, implies_true, forall_const, ne_eq, reduceIte, reduceCtorEq, Nat.reduceEqDiff, Nat.reduceAdd, Nat.reduceMul, Nat.reduceLT, Nat.reduceSub, Nat.reduceLeDiff, Nat.reduceBNe, Nat.reduceBEq, Nat.reduceBeqDiff, List.range, List.range.loop, gl0, Tryz.ntmps98, Tryz.results98]
        refine ⟨fun h => ?_, fun h => ?_⟩
        · have h := of_decide_eq_true h
          refine ⟨by rw [IntWalk.i64_in _ (by omega)]; omega, some_tok (by simp [leI_len]; omega), by simp [leI_len]; omega, ⟨k + 1, by omega⟩, ⟨⟨wkD_eq ?_, rfl, wkD_eq rfl, rfl, wkD_eq ?_, rfl, wkD_eq rfl, rfl, trivial⟩, trivial, ⟨rfl, Nat.le_of_ble_eq_true rfl, ?_, Nat.le_of_ble_eq_true rfl, trivial⟩⟩, by (try simp only); omega⟩
          · exact some_i64 (by (try simp only); omega)
          · exact some_sli (by rw [byte_at hn (by omega), List.append_assoc, List.cons_append, ← le_succ])
          · exact some_tok (by simp [leI_len]; omega)
        · have h := of_decide_eq_false h
          obtain rfl : k = 2 := by omega
          simp (config := {dsimp := false}) only [↓vp0, vz, vn, nq, tys, cellD, wideIR, if_true, if_false, implies_true, forall_const, ne_eq, reduceIte, reduceCtorEq, Nat.reduceEqDiff, Nat.reduceAdd, Nat.reduceMul, Nat.reduceLT, Nat.reduceSub, Nat.reduceLeDiff, Nat.reduceBNe, Nat.reduceBEq, Nat.reduceBeqDiff, List.range, List.range.loop, gl0, Tryz.ntmps98, Tryz.results98, retB, vb, hc]
          exact ⟨[], [16], [], ⟨rfl, rfl⟩, ⟨rfl, rfl⟩, ⟨by simp, by simp⟩, by simp, by simp [getAll, S.tok, look], by simp [getAll, S.tok, look, leI_len]; try omega, ⟨_, rfl, rfl⟩, ⟨_, rfl, rfl⟩, id rfl⟩
      · refine loopI (Fin (4 + 1)) (fun k => [(35, .int .i64 (k.1 : Nat)), (34, .int .i64 ((4 : Nat) : Int)), (5, .sli (.tok 16) .u8 (b ++ 254 :: leI k.1 n)), (1, .int .u64 n)]) (fun k => ⟨[], [(0, (b.length, 1)), (16, (b.length + 1 + k.1, 1))], 92⟩) (fun k => 4 - k.1) 0 (fun _ => rfl) ?_ ?_
        · exact ⟨⟨wkD_eq rfl, rfl, wkD_eq rfl, rfl, wkD_eq rfl, rfl, wkD_eq rfl, rfl, trivial⟩, trivial, ⟨rfl, Nat.le_of_ble_eq_true rfl, rfl, Nat.le_of_ble_eq_true rfl, trivial⟩⟩
        rintro ⟨k, hk⟩
        simp (config := {dsimp := false}) only [↓vp0, vz, vn, nq, tys, cellD, wideIR, if_true, if_false, implies_true, forall_const, ne_eq, reduceIte, reduceCtorEq, Nat.reduceEqDiff, Nat.reduceAdd, Nat.reduceMul, Nat.reduceLT, Nat.reduceSub, Nat.reduceLeDiff, Nat.reduceBNe, Nat.reduceBEq, Nat.reduceBeqDiff, List.range, List.range.loop, gl0, Tryz.ntmps98, Tryz.results98]
        refine ⟨fun h => ?_, fun h => ?_⟩
        · have h := of_decide_eq_true h
          refine ⟨by rw [IntWalk.i64_in _ (by omega)]; omega, some_tok (by simp [leI_len]; omega), by simp [leI_len]; omega, ⟨k + 1, by omega⟩, ⟨⟨wkD_eq ?_, rfl, wkD_eq rfl, rfl, wkD_eq ?_, rfl, wkD_eq rfl, rfl, trivial⟩, trivial, ⟨rfl, Nat.le_of_ble_eq_true rfl, ?_, Nat.le_of_ble_eq_true rfl, trivial⟩⟩, by (try simp only); omega⟩
          · exact some_i64 (by (try simp only); omega)
          · exact some_sli (by rw [byte_at hn (by omega), List.append_assoc, List.cons_append, ← le_succ])
          · exact some_tok (by simp [leI_len]; omega)
        · have h := of_decide_eq_false h
          obtain rfl : k = 4 := by omega
          simp (config := {dsimp := false}) only [↓vp0, vz, vn, nq, tys, cellD, wideIR, if_true, if_false, implies_true, forall_const, ne_eq, reduceIte, reduceCtorEq, Nat.reduceEqDiff, Nat.reduceAdd, Nat.reduceMul, Nat.reduceLT, Nat.reduceSub, Nat.reduceLeDiff, Nat.reduceBNe, Nat.reduceBEq, Nat.reduceBeqDiff, List.range, List.range.loop, gl0, Tryz.ntmps98, Tryz.results98, retB, vb, hc]
          exact ⟨[], [16], [], ⟨rfl, rfl⟩, ⟨rfl, rfl⟩, ⟨by simp, by simp⟩, by simp, by simp [getAll, S.tok, look], by simp [getAll, S.tok, look, leI_len]; try omega, ⟨_, rfl, rfl⟩, ⟨_, rfl, rfl⟩, id rfl⟩
      · refine loopI (Fin (8 + 1)) (fun k => [(35, .int .i64 (k.1 : Nat)), (34, .int .i64 ((8 : Nat) : Int)), (5, .sli (.tok 16) .u8 (b ++ 255 :: leI k.1 n)), (1, .int .u64 n)]) (fun k => ⟨[], [(0, (b.length, 1)), (16, (b.length + 1 + k.1, 1))], 92⟩) (fun k => 8 - k.1) 0 (fun _ => rfl) ?_ ?_
        · exact ⟨⟨wkD_eq rfl, rfl, wkD_eq rfl, rfl, wkD_eq rfl, rfl, wkD_eq rfl, rfl, trivial⟩, trivial, ⟨rfl, Nat.le_of_ble_eq_true rfl, rfl, Nat.le_of_ble_eq_true rfl, trivial⟩⟩
        rintro ⟨k, hk⟩
        simp (config := {dsimp := false}) only [↓vp0, vz, vn, nq, tys, cellD, wideIR, if_true, if_false, implies_true, forall_const, ne_eq, reduceIte, reduceCtorEq, Nat.reduceEqDiff, Nat.reduceAdd, Nat.reduceMul, Nat.reduceLT, Nat.reduceSub, Nat.reduceLeDiff, Nat.reduceBNe, Nat.reduceBEq, Nat.reduceBeqDiff, List.range, List.range.loop, gl0, Tryz.ntmps98, Tryz.results98]
        refine ⟨fun h => ?_, fun h => ?_⟩
        · have h := of_decide_eq_true h
          refine ⟨by rw [IntWalk.i64_in _ (by omega)]; omega, some_tok (by simp [leI_len]; omega), by simp [leI_len]; omega, ⟨k + 1, by omega⟩, ⟨⟨wkD_eq ?_, rfl, wkD_eq rfl, rfl, wkD_eq ?_, rfl, wkD_eq rfl, rfl, trivial⟩, trivial, ⟨rfl, Nat.le_of_ble_eq_true rfl, ?_, Nat.le_of_ble_eq_true rfl, trivial⟩⟩, by (try simp only); omega⟩
          · exact some_i64 (by (try simp only); omega)
          · exact some_sli (by rw [byte_at hn (by omega), List.append_assoc, List.cons_append, ← le_succ])
          · exact some_tok (by simp [leI_len]; omega)
        · have h := of_decide_eq_false h
          obtain rfl : k = 8 := by omega
          simp (config := {dsimp := false}) only [↓vp0, vz, vn, nq, tys, cellD, wideIR, if_true, if_false, implies_true, forall_const, ne_eq, reduceIte, reduceCtorEq, Nat.reduceEqDiff, Nat.reduceAdd, Nat.reduceMul, Nat.reduceLT, Nat.reduceSub, Nat.reduceLeDiff, Nat.reduceBNe, Nat.reduceBEq, Nat.reduceBeqDiff, List.range, List.range.loop, gl0, Tryz.ntmps98, Tryz.results98, retB, vb, hc]
          exact ⟨[], [16], [], ⟨rfl, rfl⟩, ⟨rfl, rfl⟩, ⟨by simp, by simp⟩, by simp, by simp [getAll, S.tok, look], by simp [getAll, S.tok, look, leI_len]; try omega, ⟨_, rfl, rfl⟩, ⟨_, rfl, rfl⟩, id rfl⟩
end Go.Vi.CZ
end

section
set_option linter.unusedVariables false
set_option linter.unusedSimpArgs false
set_option maxHeartbeats 0
set_option maxRecDepth 20000
namespace Go.Vi.CZ
open Go.Proofs

theorem take32 {p : List Int} (h : p.length = 32) : List.take (((32 : Nat) : Int) - 0).toNat (List.drop (Int.toNat 0) p) = p := by
  rw [show Int.toNat 0 = 0 from rfl, List.drop_zero]
  exact List.take_of_length_le (by rw [h]; decide)
theorem c_putText : Contract E 79 := by
  refine contract_boxR hE hgl (show E.P.funcs[79]? = some Tryz.f79 from Tryz.func79) rfl (p := sp_putText) (fun _ _ _ => rfl) ?_
  intro args ds tv hv hdl htl
  unfold sp_putText at hv ⊢
  split at hv
  case h_2 => exact hv.elim
  rename_i b s n
  refine ⟨by simp, Nat.le_of_ble_eq_true rfl, ?_⟩
  obtain ⟨rfl, hne, hb, hs⟩ := hv
  have e1 : IntKind.wrap .u64 (s.length : Int) = (s.length : Int) := IntWalk.u64_in _ (by omega)
  have hc := count_len (s.length : Int)
  simp (config := {dsimp := false}) only [↓vp0, vz, vn, nq, tys, cellD, wideIR, if_true, if_false, implies_true, forall_const, ne_eq, reduceIte, reduceCtorEq, Nat.reduceEqDiff, Nat.reduceAdd, Nat.reduceMul, Nat.reduceLT, Nat.reduceSub, Nat.reduceLeDiff, Nat.reduceBNe, Nat.reduceBEq, Nat.reduceBeqDiff, List.range, List.range.loop, gl0, Tryz.ntmps79, Tryz.results79, retR, vb, e1, spec_cput, sp_cput, c_cput, b_cput]
  refine ⟨.inr ⟨rfl, rfl, hne⟩, ⟨by omega, by omega⟩, by omega, some_tok (by simp), by simp; omega, ?_⟩
  refine ⟨0, 28, 4, _, _, ⟨rfl, ⟨by decide, by decide⟩, rfl, ⟨_, _, rfl, ?_⟩, rfl, [], [], [], ⟨rfl, rfl⟩, ⟨rfl, rfl⟩, ⟨by simp, by simp⟩, by simp, ?_, rfl, ⟨_, rfl, rfl⟩, ⟨_, rfl, rfl⟩, ?_⟩⟩
  · simp only [List.length_append]; omega
  · simp [getAll, S.tok, look, reT, textI]; omega
  · rfl
theorem c_putIn : Contract E 75 := by
  refine contract_boxR hE hgl (show E.P.funcs[75]? = some Tryz.f75 from Tryz.func75) rfl (p := sp_putIn) (fun _ _ _ => rfl) ?_
  intro args ds tv hv hdl htl
  unfold sp_putIn at hv ⊢
  split at hv
  case h_2 => exact hv.elim
  rename_i b p i s q w n
  refine ⟨by simp, Nat.le_of_ble_eq_true rfl, ?_⟩
  obtain ⟨rfl, hne, ⟨hp, hi, hq⟩, hb, hs⟩ := hv
  have u1 : IntKind.wrap .u64 i = i := IntWalk.u64_in _ (by have := hi.1; have := hi.2; omega)
  have u2 : IntKind.wrap .u64 q = q := IntWalk.u64_in _ (by have := hq.1; have := hq.2; omega)
  have tp := take32 hp
  have ht := text_len s
  simp (config := {dsimp := false}) only [↓vp0, vz, vn, nq, tys, cellD, wideIR, if_true, if_false, implies_true, forall_const, ne_eq, reduceIte, reduceCtorEq, Nat.reduceEqDiff, Nat.reduceAdd, Nat.reduceMul, Nat.reduceLT, Nat.reduceSub, Nat.reduceLeDiff, Nat.reduceBNe, Nat.reduceBEq, Nat.reduceBeqDiff, List.range, List.range.loop, gl0, Tryz.ntmps75, Tryz.results75, retR, vb]
  refine drawX [0, 3] [(4, [5, 6, 7, 8])] [(4, [0])] (by kernel_rfl) (wild_of rfl) ?_
  simp (config := {dsimp := false}) only [↓vp0, vz, vn, nq, tys, cellD, wideIR, if_true, if_false, implies_true, forall_const, ne_eq, reduceIte, reduceCtorEq, Nat.reduceEqDiff, Nat.reduceAdd, Nat.reduceMul, Nat.reduceLT, Nat.reduceSub, Nat.reduceLeDiff, Nat.reduceBNe, Nat.reduceBEq, Nat.reduceBeqDiff, List.range, List.range.loop, gl0, Tryz.ntmps75, Tryz.results75, retR, vb, ↓vy0, vx0, u1, tp, hp, spec_num, sp_num, c_num, b_num]
  refine ⟨by decide, by decide, by decide, by omega, okUps_of (by kernel_rfl) rfl, .inr ⟨rfl, by simp [hp], by simp [hp]⟩, .inl trivial, hi.1, hi.2, by simp [hp]; omega, okUps_all rfl (by kernel_rfl), ?_⟩
  refine drawX [0, 3] [(3, [4, 5, 6])] [(3, [52])] (by kernel_rfl) (wild_of rfl) ?_
  simp (config := {dsimp := false}) only [↓vp0, vz, vn, nq, tys, cellD, wideIR, if_true, if_false, implies_true, forall_const, ne_eq, reduceIte, reduceCtorEq, Nat.reduceEqDiff, Nat.reduceAdd, Nat.reduceMul, Nat.reduceLT, Nat.reduceSub, Nat.reduceLeDiff, Nat.reduceBNe, Nat.reduceBEq, Nat.reduceBeqDiff, List.range, List.range.loop, gl0, Tryz.ntmps75, Tryz.results75, retR, vb, ↓vy0, vx0, u2, spec_num, sp_num, c_num, b_num, spec_putText, sp_putText, c_putText, b_putText]
  have l4 : ∀ x : Int, (leI (Int.toNat 4) x).length = 4 := fun x => leI_len _ _
  have t4 : Int.toNat 4 = 4 := rfl
  refine ⟨by simp [leI_len] <;> omega, by simp [leI_len] <;> omega, by simp [leI_len, hp] <;> omega, by omega, okUps_of (by kernel_rfl) rfl, .inr ⟨rfl, by simp [leI_len] <;> omega, by simp [leI_len] <;> omega⟩, .inl trivial, hq.1, hq.2, by simp [leI_len, hp] <;> omega, okUps_all rfl (by kernel_rfl), ?_⟩
  refine ⟨0, 88, 4, _, _, ⟨rfl, ⟨by decide, by decide⟩, rfl, ⟨_, _, rfl, ?_⟩, rfl, [], [], [], ⟨rfl, rfl⟩, ⟨rfl, rfl⟩, ⟨by simp, by simp⟩, by simp, ?_, rfl, ⟨_, rfl, rfl⟩, ⟨_, rfl, rfl⟩, ?_⟩⟩
  · simp [hp, leI_len] <;> omega
  · simp [getAll, S.tok, look, reT, inI, hp, leI_len] <;> omega
  · simp only [inI, List.append_assoc]; rfl
theorem c_putOut : Contract E 77 := by
  refine contract_boxR hE hgl (show E.P.funcs[77]? = some Tryz.f77 from Tryz.func77) rfl (p := sp_putOut) (fun _ _ _ => rfl) ?_
  intro args ds tv hv hdl htl
  unfold sp_putOut at hv ⊢
  split at hv
  case h_2 => exact hv.elim
  rename_i b v s n
  refine ⟨by simp, Nat.le_of_ble_eq_true rfl, ?_⟩
  obtain ⟨rfl, hne, hv1, hb, hs⟩ := hv
  have u1 : IntKind.wrap .u64 v = v % 18446744073709551616 := rfl
  have ht := text_len s
  have m1 := Int.emod_nonneg v (show (18446744073709551616 : Int) ≠ 0 by decide)
  have m2 := Int.emod_lt_of_pos v (show (0 : Int) < 18446744073709551616 by decide)
  simp (config := {dsimp := false}) only [↓vp0, vz, vn, nq, tys, cellD, wideIR, if_true, if_false, implies_true, forall_const, ne_eq, reduceIte, reduceCtorEq, Nat.reduceEqDiff, Nat.reduceAdd, Nat.reduceMul, Nat.reduceLT, Nat.reduceSub, Nat.reduceLeDiff, Nat.reduceBNe, Nat.reduceBEq, Nat.reduceBeqDiff, List.range, List.range.loop, gl0, Tryz.ntmps77, Tryz.results77, retR, vb]
  refine drawX [0, 3] [(4, [5, 6])] [(4, [0])] (by kernel_rfl) (wild_of rfl) ?_
  simp (config := {dsimp := false}) only [↓vp0, vz, vn, nq, tys, cellD, wideIR, if_true, if_false, implies_true, forall_const, ne_eq, reduceIte, reduceCtorEq, Nat.reduceEqDiff, Nat.reduceAdd, Nat.reduceMul, Nat.reduceLT, Nat.reduceSub, Nat.reduceLeDiff, Nat.reduceBNe, Nat.reduceBEq, Nat.reduceBeqDiff, List.range, List.range.loop, gl0, Tryz.ntmps77, Tryz.results77, retR, vb, ↓vy0, vx0, u1, spec_num, sp_num, c_num, b_num, spec_putText, sp_putText, c_putText, b_putText]
  refine ⟨.inr ⟨rfl, rfl, hne⟩, .inr trivial, m1, m2, by omega, okUps_of (by kernel_rfl) rfl, by simp [leI_len], by simp [leI_len] <;> omega, by simp [leI_len] <;> omega, by omega, okUps_all rfl (by kernel_rfl), ?_⟩
  refine ⟨0, 32, 4, _, _, ⟨rfl, ⟨by decide, by decide⟩, rfl, ⟨_, _, rfl, ?_⟩, rfl, [], [], [], ⟨rfl, rfl⟩, ⟨rfl, rfl⟩, ⟨by simp, by simp⟩, by simp, ?_, rfl, ⟨_, rfl, rfl⟩, ⟨_, rfl, rfl⟩, ?_⟩⟩
  · simp [leI_len] <;> omega
  · simp [getAll, S.tok, look, reT, outI, leI_len] <;> omega
  · simp only [outI, List.append_assoc]; rfl
end Go.Vi.CZ
end

section
set_option linter.unusedVariables false
set_option linter.unusedSimpArgs false
set_option maxHeartbeats 0
set_option maxRecDepth 20000
namespace Go.Vi.CZ
open Go.Proofs

theorem flat_snoc {α : Type} [Inhabited α] (f : α → List Int) (l : List α) (k : Nat) (h : k < l.length) : (l.take (k + 1)).flatMap f = (l.take k).flatMap f ++ f (l.getD k default) := by
  rw [List.take_add_one, List.flatMap_append]
  simp [List.getD, h]
theorem flat_le {α : Type} [Inhabited α] (f : α → List Int) (l : List α) (k : Nat) (h : k < l.length) : ((l.take k).flatMap f).length + (f (l.getD k default)).length ≤ (l.flatMap f).length := by
  have e : l.flatMap f = (l.take (k + 1)).flatMap f ++ (l.drop (k + 1)).flatMap f := by rw [← List.flatMap_append, List.take_append_drop]
  rw [e, flat_snoc f l k h]
  simp only [List.length_append]
  omega
theorem c_layIn : Contract E 74 := by
  refine contract_boxR hE hgl (show E.P.funcs[74]? = some Tryz.f74 from Tryz.func74) rfl (p := (sp_layIn 75)) (fun _ _ _ => rfl) ?_
  intro args ds tv hv hdl htl
  unfold sp_layIn at hv ⊢
  split at hv
  case h_2 => exact hv.elim
  rename_i b es h n
  refine ⟨by simp, Nat.le_of_ble_eq_true rfl, ?_⟩
  obtain ⟨rfl, rfl, hne, ⟨l, rfl, hok, hl⟩, hlen⟩ := hv
  simp only [ins_D] at hlen ⊢
  have e1 : IntKind.wrap .u64 (l.length : Int) = (l.length : Int) := IntWalk.u64_in _ (by omega)
  have hc := count_len (l.length : Int)
  simp only [List.length_append] at hlen
  simp (config := {dsimp := false}) only [↓vp0, vz, vn, nq, tys, cellD, wideIR, if_true, if_false, implies_true, forall_const, ne_eq, reduceIte, reduceCtorEq, Nat.reduceEqDiff, Nat.reduceAdd, Nat.reduceMul, Nat.reduceLT, Nat.reduceSub, Nat.reduceLeDiff, Nat.reduceBNe, Nat.reduceBEq, Nat.reduceBeqDiff, List.range, List.range.loop, gl0, Tryz.ntmps74, Tryz.results74, retR, vb, e1, spec_cput, sp_cput, c_cput, b_cput]
  refine ⟨.inr ⟨rfl, rfl, hne⟩, ⟨by omega, by omega⟩, by omega, ?_⟩
  refine loopI (Fin (l.length + 1)) (fun k => [(16, .int .i64 (k.1 : Nat)), (15, .int .i64 (l.length : Nat)), (14, .sl .no 36 (insD l)), (0, .sli (.tok 28) .u8 (b ++ (countI l.length ++ (l.take k.1).flatMap inI))), (2, .fn 75 [])]) (fun k => ⟨[], [(0, (b.length, 1)), (28, ((b ++ (countI l.length ++ (l.take k.1).flatMap inI)).length, 1))], 48⟩) (fun k => l.length - k.1) 0 (fun _ => rfl) ?_ ?_
  · refine ⟨⟨wkD_eq rfl, rfl, wkD_eq rfl, rfl, wkD_eq rfl, rfl, wkD_eq ?_, rfl, wkD_eq rfl, rfl, trivial⟩, trivial, ⟨rfl, Nat.le_of_ble_eq_true rfl, ?_, Nat.le_of_ble_eq_true rfl, trivial⟩⟩
    · exact some_sli (by simp)
    · exact some_tok (by simp)
  rintro ⟨k, hk⟩
  simp (config := {dsimp := false}) only [↓vp0, vz, vn, nq, tys, cellD, wideIR, if_true, if_false, implies_true, forall_const, ne_eq, reduceIte, reduceCtorEq, Nat.reduceEqDiff, Nat.reduceAdd, Nat.reduceMul, Nat.reduceLT, Nat.reduceSub, Nat.reduceLeDiff, Nat.reduceBNe, Nat.reduceBEq, Nat.reduceBeqDiff, List.range, List.range.loop, gl0, Tryz.ntmps74, Tryz.results74]
  refine ⟨fun h => ?_, fun h => ?_⟩
  · have h := of_decide_eq_true h
    have hk' : k < l.length := by omega
    have g1 := insD_get l k hk'
    have hx := hok _ (getD_memI hk')
    have hfl := flat_le inI l k hk'
    have hsn := flat_snoc inI l k hk'
    have hs : (l.getD k default).script.length ≤ (inI (l.getD k default)).length := by simp only [inI, textI, List.length_append]; omega
    simp (config := {dsimp := false}) only [↓vp0, vz, vn, nq, tys, cellD, wideIR, if_true, if_false, implies_true, forall_const, ne_eq, reduceIte, reduceCtorEq, Nat.reduceEqDiff, Nat.reduceAdd, Nat.reduceMul, Nat.reduceLT, Nat.reduceSub, Nat.reduceLeDiff, Nat.reduceBNe, Nat.reduceBEq, Nat.reduceBeqDiff, List.range, List.range.loop, gl0, Tryz.ntmps74, Tryz.results74, vb, Int.toNat_natCast, g1, inD, spec_putIn, sp_putIn, c_putIn, b_putIn]
    refine ⟨by omega, by omega, by simp only [List.length_append]; omega, hx.prev, hx.ix, hx.seq, by simp only [List.length_append]; omega, by omega, ⟨k + 1, by omega⟩, ⟨⟨wkD_eq ?_, rfl, wkD_eq rfl, rfl, wkD_eq rfl, rfl, wkD_eq ?_, rfl, wkD_eq rfl, rfl, trivial⟩, trivial, ⟨rfl, Nat.le_of_ble_eq_true rfl, ?_, Nat.le_of_ble_eq_true rfl, trivial⟩⟩, by (try simp only); omega⟩
    · exact some_i64 (by (try simp only); omega)
    · exact some_sli (by rw [hsn]; first | done | rfl | (simp only [List.append_assoc]; done) | (simp only [List.append_assoc]; rfl))
    · exact some_tok (by rw [hsn]; simp only [List.length_append, Nat.add_assoc]; try rfl)

  · have h := of_decide_eq_false h
    obtain rfl : k = l.length := by omega
    simp (config := {dsimp := false}) only [↓vp0, vz, vn, nq, tys, cellD, wideIR, if_true, if_false, implies_true, forall_const, ne_eq, reduceIte, reduceCtorEq, Nat.reduceEqDiff, Nat.reduceAdd, Nat.reduceMul, Nat.reduceLT, Nat.reduceSub, Nat.reduceLeDiff, Nat.reduceBNe, Nat.reduceBEq, Nat.reduceBeqDiff, List.range, List.range.loop, gl0, Tryz.ntmps74, Tryz.results74, retR, vb, List.take_length]
    refine ⟨0, 28, 6, _, _, ⟨rfl, ⟨by decide, by decide⟩, rfl, ⟨_, _, rfl, ?_⟩, rfl, [], [], [], ⟨rfl, rfl⟩, ⟨rfl, rfl⟩, ⟨by simp, by simp⟩, by simp, by simp [getAll, S.tok, look, reT], rfl, ⟨_, rfl, rfl⟩, ⟨_, rfl, rfl⟩, id rfl⟩⟩
    simp only [List.length_append]; omega
theorem c_layOut : Contract E 76 := by
  refine contract_boxR hE hgl (show E.P.funcs[76]? = some Tryz.f76 from Tryz.func76) rfl (p := (sp_layOut 77)) (fun _ _ _ => rfl) ?_
  intro args ds tv hv hdl htl
  unfold sp_layOut at hv ⊢
  split at hv
  case h_2 => exact hv.elim
  rename_i b es h n
  refine ⟨by simp, Nat.le_of_ble_eq_true rfl, ?_⟩
  obtain ⟨rfl, rfl, hne, ⟨l, rfl, hok, hl⟩, hlen⟩ := hv
  simp only [outs_D] at hlen ⊢
  have e1 : IntKind.wrap .u64 (l.length : Int) = (l.length : Int) := IntWalk.u64_in _ (by omega)
  have hc := count_len (l.length : Int)
  simp only [List.length_append] at hlen
  simp (config := {dsimp := false}) only [↓vp0, vz, vn, nq, tys, cellD, wideIR, if_true, if_false, implies_true, forall_const, ne_eq, reduceIte, reduceCtorEq, Nat.reduceEqDiff, Nat.reduceAdd, Nat.reduceMul, Nat.reduceLT, Nat.reduceSub, Nat.reduceLeDiff, Nat.reduceBNe, Nat.reduceBEq, Nat.reduceBeqDiff, List.range, List.range.loop, gl0, Tryz.ntmps76, Tryz.results76, retR, vb, e1, spec_cput, sp_cput, c_cput, b_cput]
  refine ⟨.inr ⟨rfl, rfl, hne⟩, ⟨by omega, by omega⟩, by omega, ?_⟩
  refine loopI (Fin (l.length + 1)) (fun k => [(16, .int .i64 (k.1 : Nat)), (15, .int .i64 (l.length : Nat)), (14, .sl .no 2 (outsD l)), (0, .sli (.tok 28) .u8 (b ++ (countI l.length ++ (l.take k.1).flatMap outI))), (2, .fn 77 [])]) (fun k => ⟨[], [(0, (b.length, 1)), (28, ((b ++ (countI l.length ++ (l.take k.1).flatMap outI)).length, 1))], 48⟩) (fun k => l.length - k.1) 0 (fun _ => rfl) ?_ ?_
  · refine ⟨⟨wkD_eq rfl, rfl, wkD_eq rfl, rfl, wkD_eq rfl, rfl, wkD_eq ?_, rfl, wkD_eq rfl, rfl, trivial⟩, trivial, ⟨rfl, Nat.le_of_ble_eq_true rfl, ?_, Nat.le_of_ble_eq_true rfl, trivial⟩⟩
    · exact some_sli (by simp)
    · exact some_tok (by simp)
  rintro ⟨k, hk⟩
  simp (config := {dsimp := false}) only [↓vp0, vz, vn, nq, tys, cellD, wideIR, if_true, if_false, implies_true, forall_const, ne_eq, reduceIte, reduceCtorEq, Nat.reduceEqDiff, Nat.reduceAdd, Nat.reduceMul, Nat.reduceLT, Nat.reduceSub, Nat.reduceLeDiff, Nat.reduceBNe, Nat.reduceBEq, Nat.reduceBeqDiff, List.range, List.range.loop, gl0, Tryz.ntmps76, Tryz.results76]
  refine ⟨fun h => ?_, fun h => ?_⟩
  · have h := of_decide_eq_true h
    have hk' : k < l.length := by omega
    have g1 := outsD_get l k hk'
    have hx := hok _ (getD_memI hk')
    have hfl := flat_le outI l k hk'
    have hsn := flat_snoc outI l k hk'
    have hs : (l.getD k default).script.length ≤ (outI (l.getD k default)).length := by simp only [outI, textI, List.length_append]; omega
    simp (config := {dsimp := false}) only [↓vp0, vz, vn, nq, tys, cellD, wideIR, if_true, if_false, implies_true, forall_const, ne_eq, reduceIte, reduceCtorEq, Nat.reduceEqDiff, Nat.reduceAdd, Nat.reduceMul, Nat.reduceLT, Nat.reduceSub, Nat.reduceLeDiff, Nat.reduceBNe, Nat.reduceBEq, Nat.reduceBeqDiff, List.range, List.range.loop, gl0, Tryz.ntmps76, Tryz.results76, vb, Int.toNat_natCast, g1, outD, spec_putOut, sp_putOut, c_putOut, b_putOut]
    refine ⟨by omega, by omega, by simp only [List.length_append]; omega, hx.value, by simp only [List.length_append]; omega, by omega, ⟨k + 1, by omega⟩, ⟨⟨wkD_eq ?_, rfl, wkD_eq rfl, rfl, wkD_eq rfl, rfl, wkD_eq ?_, rfl, wkD_eq rfl, rfl, trivial⟩, trivial, ⟨rfl, Nat.le_of_ble_eq_true rfl, ?_, Nat.le_of_ble_eq_true rfl, trivial⟩⟩, by (try simp only); omega⟩
    · exact some_i64 (by (try simp only); omega)
    · exact some_sli (by rw [hsn]; first | done | rfl | (simp only [List.append_assoc]; done) | (simp only [List.append_assoc]; rfl))
    · exact some_tok (by rw [hsn]; simp only [List.length_append, Nat.add_assoc]; try rfl)

  · have h := of_decide_eq_false h
    obtain rfl : k = l.length := by omega
    simp (config := {dsimp := false}) only [↓vp0, vz, vn, nq, tys, cellD, wideIR, if_true, if_false, implies_true, forall_const, ne_eq, reduceIte, reduceCtorEq, Nat.reduceEqDiff, Nat.reduceAdd, Nat.reduceMul, Nat.reduceLT, Nat.reduceSub, Nat.reduceLeDiff, Nat.reduceBNe, Nat.reduceBEq, Nat.reduceBeqDiff, List.range, List.range.loop, gl0, Tryz.ntmps76, Tryz.results76, retR, vb, List.take_length]
    refine ⟨0, 28, 6, _, _, ⟨rfl, ⟨by decide, by decide⟩, rfl, ⟨_, _, rfl, ?_⟩, rfl, [], [], [], ⟨rfl, rfl⟩, ⟨rfl, rfl⟩, ⟨by simp, by simp⟩, by simp, by simp [getAll, S.tok, look, reT], rfl, ⟨_, rfl, rfl⟩, ⟨_, rfl, rfl⟩, id rfl⟩⟩
    simp only [List.length_append]; omega
theorem c_layWit : Contract E 78 := by
  refine contract_boxR hE hgl (show E.P.funcs[78]? = some Tryz.f78 from Tryz.func78) rfl (p := (sp_layWit 79)) (fun _ _ _ => rfl) ?_
  intro args ds tv hv hdl htl
  unfold sp_layWit at hv ⊢
  split at hv
  case h_2 => exact hv.elim
  rename_i b es h n
  refine ⟨by simp, Nat.le_of_ble_eq_true rfl, ?_⟩
  obtain ⟨rfl, rfl, hne, ⟨l, rfl, hok, hl⟩, hlen⟩ := hv
  simp only [ts_slis] at hlen ⊢
  have e1 : IntKind.wrap .u64 (l.length : Int) = (l.length : Int) := IntWalk.u64_in _ (by omega)
  have hc := count_len (l.length : Int)
  simp only [List.length_append] at hlen
  simp (config := {dsimp := false}) only [↓vp0, vz, vn, nq, tys, cellD, wideIR, if_true, if_false, implies_true, forall_const, ne_eq, reduceIte, reduceCtorEq, Nat.reduceEqDiff, Nat.reduceAdd, Nat.reduceMul, Nat.reduceLT, Nat.reduceSub, Nat.reduceLeDiff, Nat.reduceBNe, Nat.reduceBEq, Nat.reduceBeqDiff, List.range, List.range.loop, gl0, Tryz.ntmps78, Tryz.results78, retR, vb, e1, spec_cput, sp_cput, c_cput, b_cput]
  refine ⟨.inr ⟨rfl, rfl, hne⟩, ⟨by omega, by omega⟩, by omega, ?_⟩
  refine loopI (Fin (l.length + 1)) (fun k => [(16, .int .i64 (k.1 : Nat)), (15, .int .i64 (l.length : Nat)), (14, .sl .no 1 (slis l)), (0, .sli (.tok 28) .u8 (b ++ (countI l.length ++ (l.take k.1).flatMap textI))), (2, .fn 79 [])]) (fun k => ⟨[], [(0, (b.length, 1)), (28, ((b ++ (countI l.length ++ (l.take k.1).flatMap textI)).length, 1))], 48⟩) (fun k => l.length - k.1) 0 (fun _ => rfl) ?_ ?_
  · refine ⟨⟨wkD_eq rfl, rfl, wkD_eq rfl, rfl, wkD_eq rfl, rfl, wkD_eq ?_, rfl, wkD_eq rfl, rfl, trivial⟩, trivial, ⟨rfl, Nat.le_of_ble_eq_true rfl, ?_, Nat.le_of_ble_eq_true rfl, trivial⟩⟩
    · exact some_sli (by simp)
    · exact some_tok (by simp)
  rintro ⟨k, hk⟩
  simp (config := {dsimp := false}) only [↓vp0, vz, vn, nq, tys, cellD, wideIR, if_true, if_false, implies_true, forall_const, ne_eq, reduceIte, reduceCtorEq, Nat.reduceEqDiff, Nat.reduceAdd, Nat.reduceMul, Nat.reduceLT, Nat.reduceSub, Nat.reduceLeDiff, Nat.reduceBNe, Nat.reduceBEq, Nat.reduceBeqDiff, List.range, List.range.loop, gl0, Tryz.ntmps78, Tryz.results78]
  refine ⟨fun h => ?_, fun h => ?_⟩
  · have h := of_decide_eq_true h
    have hk' : k < l.length := by omega
    have g1 := slis_get l k hk'
    have hx := hok _ (getD_mem hk')
    have hfl := flat_le textI l k hk'
    have hsn := flat_snoc textI l k hk'
    have hfl : ((l.take k).flatMap textI).length + (textI (l.getD k [])).length ≤ (l.flatMap textI).length := hfl
    have hsn : (l.take (k + 1)).flatMap textI = (l.take k).flatMap textI ++ textI (l.getD k []) := hsn
    have hs : (l.getD k []).length ≤ (textI (l.getD k [])).length := by simp only [textI, List.length_append]; omega
    simp (config := {dsimp := false}) only [↓vp0, vz, vn, nq, tys, cellD, wideIR, if_true, if_false, implies_true, forall_const, ne_eq, reduceIte, reduceCtorEq, Nat.reduceEqDiff, Nat.reduceAdd, Nat.reduceMul, Nat.reduceLT, Nat.reduceSub, Nat.reduceLeDiff, Nat.reduceBNe, Nat.reduceBEq, Nat.reduceBeqDiff, List.range, List.range.loop, gl0, Tryz.ntmps78, Tryz.results78, vb, Int.toNat_natCast, g1, spec_putText, sp_putText, c_putText, b_putText]
    refine ⟨by omega, by omega, by simp only [List.length_append]; omega, by simp only [List.length_append]; omega, by omega, ⟨k + 1, by omega⟩, ⟨⟨wkD_eq ?_, rfl, wkD_eq rfl, rfl, wkD_eq rfl, rfl, wkD_eq ?_, rfl, wkD_eq rfl, rfl, trivial⟩, trivial, ⟨rfl, Nat.le_of_ble_eq_true rfl, ?_, Nat.le_of_ble_eq_true rfl, trivial⟩⟩, by (try simp only); omega⟩
    · exact some_i64 (by (try simp only); omega)
    · exact some_sli (by rw [hsn]; first | done | rfl | (simp only [List.append_assoc]; done) | (simp only [List.append_assoc]; rfl))
    · exact some_tok (by rw [hsn]; simp only [List.length_append, Nat.add_assoc]; try rfl)

  · have h := of_decide_eq_false h
    obtain rfl : k = l.length := by omega
    simp (config := {dsimp := false}) only [↓vp0, vz, vn, nq, tys, cellD, wideIR, if_true, if_false, implies_true, forall_const, ne_eq, reduceIte, reduceCtorEq, Nat.reduceEqDiff, Nat.reduceAdd, Nat.reduceMul, Nat.reduceLT, Nat.reduceSub, Nat.reduceLeDiff, Nat.reduceBNe, Nat.reduceBEq, Nat.reduceBeqDiff, List.range, List.range.loop, gl0, Tryz.ntmps78, Tryz.results78, retR, vb, List.take_length]
    refine ⟨0, 28, 6, _, _, ⟨rfl, ⟨by decide, by decide⟩, rfl, ⟨_, _, rfl, ?_⟩, rfl, [], [], [], ⟨rfl, rfl⟩, ⟨rfl, rfl⟩, ⟨by simp, by simp⟩, by simp, by simp [getAll, S.tok, look, reT], rfl, ⟨_, rfl, rfl⟩, ⟨_, rfl, rfl⟩, id rfl⟩⟩
    simp only [List.length_append]; omega
end Go.Vi.CZ
end

section
set_option linter.unusedVariables false
set_option linter.unusedSimpArgs false
set_option maxHeartbeats 0
set_option maxRecDepth 20000
namespace Go.Vi.CZ
open Go.Proofs

theorem c_laid : Contract E 52 := by
  refine contract_boxT hE hgl (show E.P.funcs[52]? = some Tryz.f52 from Tryz.func52) rfl (p := sp_laid) (fun _ _ _ => rfl) ?_
  intro args ds tv hv hdl htl
  unfold sp_laid at hv ⊢
  split at hv
  case h_2 => exact hv.elim
  rename_i b v is os l full
  refine ⟨by simp, Nat.le_of_ble_eq_true rfl, ?_⟩
  obtain ⟨hok, hlen⟩ := hv
  obtain ⟨t, rfl, rfl, rfl, rfl, ht, -⟩ := okT_tx hok
  simp only [ins_D, outs_D] at hlen ⊢
  have hi : isInL (insD t.ins) := ⟨_, rfl, ht.ins, ht.mi⟩
  have ho : isOutL (outsD t.outs) := ⟨_, rfl, ht.outs, ht.mo⟩
  have u1 : IntKind.wrap .u64 t.ver = t.ver := IntWalk.u64_in _ (by have := ht.ver.1; have := ht.ver.2; omega)
  have u2 : IntKind.wrap .u64 t.lock = t.lock := IntWalk.u64_in _ (by have := ht.lock.1; have := ht.lock.2; omega)
  have hlay : layI ⟨t.ver, t.ins, t.outs, t.lock⟩ full = leI 4 t.ver ++ ((if full = true then [0, 1] else []) ++ ((countI t.ins.length ++ t.ins.flatMap inI) ++ ((countI t.outs.length ++ t.outs.flatMap outI) ++ ((if full = true then t.ins.flatMap witI else []) ++ leI 4 t.lock)))) := by
    simp only [layI, List.append_assoc]
  rw [hlay] at hlen ⊢
  simp only [List.length_append, leI_len] at hlen
  obtain ⟨X, hX⟩ : ∃ X : Bool → List Int, ∀ f, X f = leI 4 t.ver ++ ((if f = true then [0, 1] else []) ++ ((countI t.ins.length ++ t.ins.flatMap inI) ++ (countI t.outs.length ++ t.outs.flatMap outI))) := ⟨_, fun _ => rfl⟩
  have t4 : Int.toNat 4 = 4 := rfl
  cases full
  · have hf := hX false
    simp only [Bool.false_eq_true, if_false, List.nil_append, List.length_nil, List.length_cons] at hlen hf
    have hl2 := congrArg List.length hf
    simp only [List.length_append, leI_len, List.length_cons, List.length_nil] at hl2
    have hmi := ht.mi
    have hne : (b ++ X false).length ≠ 0 := by simp only [List.length_append]; omega
    simp (config := {dsimp := false}) only [↓vp0, vz, vn, nq, tys, cellD, wideIR, if_true, if_false, implies_true, forall_const, ne_eq, reduceIte, reduceCtorEq, Nat.reduceEqDiff, Nat.reduceAdd, Nat.reduceMul, Nat.reduceLT, Nat.reduceSub, Nat.reduceLeDiff, Nat.reduceBNe, Nat.reduceBEq, Nat.reduceBeqDiff, List.range, List.range.loop, gl0, Tryz.ntmps52, Tryz.results52, retB, vb, u1, spec_num, sp_num, c_num, b_num, spec_layIn, sp_layIn, c_layIn, b_layIn, spec_layOut, sp_layOut, c_layOut, b_layOut]
    refine ⟨.inl ⟨rfl, rfl⟩, .inl trivial, ht.ver.1, ht.ver.2, by omega, by simp [leI_len], by simp [leI_len], hi, by simp only [List.length_append, List.length_cons, List.length_nil, leI_len, t4]; omega, by simp [leI_len], ho, by simp only [List.length_append, List.length_cons, List.length_nil, leI_len, t4]; omega, ?_⟩
    refine loopI (Fin (t.ins.length + 1)) (fun k => [(29, .int .i64 (k.1 : Nat)), (28, .int .i64 (t.ins.length : Nat)), (27, .sl .no 36 (insD t.ins)), (0, .sli (.tok 32) .u8 (b ++ (X false ++ []))), (2, .bool false), (4, .bp 8 0)]) (fun k => ⟨[(8, .agg [.int .u32 t.ver, .sl .no 36 (insD t.ins), .sl .no 2 (outsD t.outs), .int .u32 t.lock])], [(32, ((b ++ (X false ++ [])).length, 1))], 100⟩) (fun k => t.ins.length - k.1) 0 (fun _ => rfl) ?_ ?_
    · refine ⟨⟨wkD_eq rfl, rfl, wkD_eq rfl, rfl, wkD_eq rfl, rfl, wkD_eq ?_, rfl, wkD_eq rfl, rfl, wkD_eq rfl, rfl, trivial⟩, ⟨rfl, Nat.le_of_ble_eq_true rfl, rfl, trivial⟩, ⟨?_, Nat.le_of_ble_eq_true rfl, trivial⟩⟩
      · exact some_sli (by rw [hf]; simp [t4])
      · exact some_tok (by rw [hf]; simp only [List.length_append, List.length_cons, List.length_nil, leI_len, t4, Fin.val_zero, List.take_zero, List.flatMap_nil]; omega)
    rintro ⟨k, hk⟩
    simp (config := {dsimp := false}) only [↓vp0, vz, vn, nq, tys, cellD, wideIR, if_true, if_false, implies_true, forall_const, ne_eq, reduceIte, reduceCtorEq, Nat.reduceEqDiff, Nat.reduceAdd, Nat.reduceMul, Nat.reduceLT, Nat.reduceSub, Nat.reduceLeDiff, Nat.reduceBNe, Nat.reduceBEq, Nat.reduceBeqDiff, List.range, List.range.loop, gl0, Tryz.ntmps52, Tryz.results52]
    refine ⟨fun h => ?_, fun h => ?_⟩
    · have h := of_decide_eq_true h
      have hk' : k < t.ins.length := by omega
      have g1 := insD_get t.ins k hk'
      simp (config := {dsimp := false}) only [↓vp0, vz, vn, nq, tys, cellD, wideIR, if_true, if_false, implies_true, forall_const, ne_eq, reduceIte, reduceCtorEq, Nat.reduceEqDiff, Nat.reduceAdd, Nat.reduceMul, Nat.reduceLT, Nat.reduceSub, Nat.reduceLeDiff, Nat.reduceBNe, Nat.reduceBEq, Nat.reduceBeqDiff, List.range, List.range.loop, gl0, Tryz.ntmps52, Tryz.results52, vb, Int.toNat_natCast, g1, inD]
      refine ⟨by omega, by omega, ⟨k + 1, by omega⟩, ⟨⟨wkD_eq ?_, rfl, wkD_eq rfl, rfl, wkD_eq rfl, rfl, wkD_eq rfl, rfl, wkD_eq rfl, rfl, wkD_eq rfl, rfl, trivial⟩, ⟨rfl, Nat.le_of_ble_eq_true rfl, rfl, trivial⟩, ⟨rfl, Nat.le_of_ble_eq_true rfl, trivial⟩⟩, by (try simp only); omega⟩
      · exact some_i64 (by (try simp only); omega)
    · have h := of_decide_eq_false h
      obtain rfl : k = t.ins.length := by omega
      simp (config := {dsimp := false}) only [↓vp0, vz, vn, nq, tys, cellD, wideIR, if_true, if_false, implies_true, forall_const, ne_eq, reduceIte, reduceCtorEq, Nat.reduceEqDiff, Nat.reduceAdd, Nat.reduceMul, Nat.reduceLT, Nat.reduceSub, Nat.reduceLeDiff, Nat.reduceBNe, Nat.reduceBEq, Nat.reduceBeqDiff, List.range, List.range.loop, gl0, Tryz.ntmps52, Tryz.results52, retB, vb, u2, List.take_length, spec_num, sp_num, c_num, b_num]
      refine ⟨.inr ⟨rfl, rfl, by simp only [List.length_append, List.length_nil] at hne ⊢; omega⟩, .inl trivial, ht.lock.1, ht.lock.2, by simp only [List.length_append, List.length_nil]; omega, ?_⟩
      exact ⟨[], [120], [], ⟨rfl, rfl⟩, ⟨rfl, rfl⟩, ⟨by simp, by simp⟩, by simp, rfl, (show some [(_, 1)] = some [(_, 1)] from congrArg (fun n => some [(n, 1)]) (by rw [hf]; simp only [List.length_append, List.length_cons, List.length_nil, leI_len, t4]; omega)), ⟨_, rfl, rfl⟩, ⟨_, rfl, rfl⟩, by rw [hf]; simp only [List.append_assoc, List.cons_append, List.nil_append]; rfl⟩
  · have hf := hX true
    simp only [if_true, List.nil_append, List.length_nil, List.length_cons] at hlen hf
    have hl2 := congrArg List.length hf
    simp only [List.length_append, leI_len, List.length_cons, List.length_nil] at hl2
    have hmi := ht.mi
    have hne : (b ++ X true).length ≠ 0 := by simp only [List.length_append]; omega
    simp (config := {dsimp := false}) only [↓vp0, vz, vn, nq, tys, cellD, wideIR, if_true, if_false, implies_true, forall_const, ne_eq, reduceIte, reduceCtorEq, Nat.reduceEqDiff, Nat.reduceAdd, Nat.reduceMul, Nat.reduceLT, Nat.reduceSub, Nat.reduceLeDiff, Nat.reduceBNe, Nat.reduceBEq, Nat.reduceBeqDiff, List.range, List.range.loop, gl0, Tryz.ntmps52, Tryz.results52, retB, vb, u1, spec_num, sp_num, c_num, b_num, spec_layIn, sp_layIn, c_layIn, b_layIn, spec_layOut, sp_layOut, c_layOut, b_layOut]
    refine ⟨.inl ⟨rfl, rfl⟩, .inl trivial, ht.ver.1, ht.ver.2, by omega, by simp [leI_len], by simp [leI_len] <;> omega, by simp [leI_len], by simp [leI_len], hi, by simp only [List.length_append, List.length_cons, List.length_nil, leI_len, t4]; omega, by simp [leI_len], ho, by simp only [List.length_append, List.length_cons, List.length_nil, leI_len, t4]; omega, ?_⟩
    refine loopI (Fin (t.ins.length + 1)) (fun k => [(29, .int .i64 (k.1 : Nat)), (28, .int .i64 (t.ins.length : Nat)), (27, .sl .no 36 (insD t.ins)), (0, .sli (.tok 32) .u8 (b ++ (X true ++ (t.ins.take k.1).flatMap witI))), (2, .bool true), (4, .bp 8 0)]) (fun k => ⟨[(8, .agg [.int .u32 t.ver, .sl .no 36 (insD t.ins), .sl .no 2 (outsD t.outs), .int .u32 t.lock])], [(32, ((b ++ (X true ++ (t.ins.take k.1).flatMap witI)).length, 1))], 116⟩) (fun k => t.ins.length - k.1) 0 (fun _ => rfl) ?_ ?_
    · refine ⟨⟨wkD_eq rfl, rfl, wkD_eq rfl, rfl, wkD_eq rfl, rfl, wkD_eq ?_, rfl, wkD_eq rfl, rfl, wkD_eq rfl, rfl, trivial⟩, ⟨rfl, Nat.le_of_ble_eq_true rfl, rfl, trivial⟩, ⟨?_, Nat.le_of_ble_eq_true rfl, trivial⟩⟩
      · exact some_sli (by rw [hf]; simp [t4])
      · exact some_tok (by rw [hf]; simp only [List.length_append, List.length_cons, List.length_nil, leI_len, t4, Fin.val_zero, List.take_zero, List.flatMap_nil]; omega)
    rintro ⟨k, hk⟩
    simp (config := {dsimp := false}) only [↓vp0, vz, vn, nq, tys, cellD, wideIR, if_true, if_false, implies_true, forall_const, ne_eq, reduceIte, reduceCtorEq, Nat.reduceEqDiff, Nat.reduceAdd, Nat.reduceMul, Nat.reduceLT, Nat.reduceSub, Nat.reduceLeDiff, Nat.reduceBNe, Nat.reduceBEq, Nat.reduceBeqDiff, List.range, List.range.loop, gl0, Tryz.ntmps52, Tryz.results52]
    refine ⟨fun h => ?_, fun h => ?_⟩
    · have h := of_decide_eq_true h
      have hk' : k < t.ins.length := by omega
      have g1 := insD_get t.ins k hk'
      have hx := ht.ins _ (getD_memI hk')
      have hw : isWitL (slis (t.ins.getD k default).wit) := ⟨_, rfl, hx.wit, hx.many⟩
      have hfl := flat_le witI t.ins k hk'
      have hsn := flat_snoc witI t.ins k hk'
      have hwl : (witI (t.ins.getD k default)).length = (countI (t.ins.getD k default).wit.length).length + ((t.ins.getD k default).wit.flatMap textI).length := by simp only [witI, List.length_append]
      have hwe : witI (t.ins.getD k default) = countI (t.ins.getD k default).wit.length ++ (t.ins.getD k default).wit.flatMap textI := rfl
      simp (config := {dsimp := false}) only [↓vp0, vz, vn, nq, tys, cellD, wideIR, if_true, if_false, implies_true, forall_const, ne_eq, reduceIte, reduceCtorEq, Nat.reduceEqDiff, Nat.reduceAdd, Nat.reduceMul, Nat.reduceLT, Nat.reduceSub, Nat.reduceLeDiff, Nat.reduceBNe, Nat.reduceBEq, Nat.reduceBeqDiff, List.range, List.range.loop, gl0, Tryz.ntmps52, Tryz.results52, vb, Int.toNat_natCast, g1, inD, spec_layWit, sp_layWit, c_layWit, b_layWit]
      refine ⟨by omega, by omega, by simp only [List.length_append] at hne ⊢; omega, hw, by simp only [List.length_append]; omega, ⟨k + 1, by omega⟩, ⟨⟨wkD_eq ?_, rfl, wkD_eq rfl, rfl, wkD_eq rfl, rfl, wkD_eq ?_, rfl, wkD_eq rfl, rfl, wkD_eq rfl, rfl, trivial⟩, ⟨rfl, Nat.le_of_ble_eq_true rfl, rfl, trivial⟩, ⟨?_, Nat.le_of_ble_eq_true rfl, trivial⟩⟩, by (try simp only); omega⟩
      · exact some_i64 (by (try simp only); omega)
      · exact some_sli (by rw [hsn, hwe])
      · exact some_tok (by rw [hsn, hwe])
    · have h := of_decide_eq_false h
      obtain rfl : k = t.ins.length := by omega
      simp (config := {dsimp := false}) only [↓vp0, vz, vn, nq, tys, cellD, wideIR, if_true, if_false, implies_true, forall_const, ne_eq, reduceIte, reduceCtorEq, Nat.reduceEqDiff, Nat.reduceAdd, Nat.reduceMul, Nat.reduceLT, Nat.reduceSub, Nat.reduceLeDiff, Nat.reduceBNe, Nat.reduceBEq, Nat.reduceBeqDiff, List.range, List.range.loop, gl0, Tryz.ntmps52, Tryz.results52, retB, vb, u2, List.take_length, spec_num, sp_num, c_num, b_num]
      refine ⟨.inr ⟨rfl, rfl, by simp only [List.length_append, List.length_nil] at hne ⊢; omega⟩, .inl trivial, ht.lock.1, ht.lock.2, by simp only [List.length_append, List.length_nil]; omega, ?_⟩
      exact ⟨[], [136], [], ⟨rfl, rfl⟩, ⟨rfl, rfl⟩, ⟨by simp, by simp⟩, by simp, rfl, (show some [(_, 1)] = some [(_, 1)] from congrArg (fun n => some [(n, 1)]) (by rw [hf]; simp only [List.length_append, List.length_cons, List.length_nil, leI_len, t4]; omega)), ⟨_, rfl, rfl⟩, ⟨_, rfl, rfl⟩, by rw [hf]; simp only [List.append_assoc, List.cons_append, List.nil_append]; rfl⟩
end Go.Vi.CZ
end

section
set_option linter.unusedVariables false
set_option linter.unusedSimpArgs false
set_option maxHeartbeats 0
set_option maxRecDepth 20000
namespace Go.Vi.CZ
open Go.Proofs

theorem c_w1 : Contract E 59 := by
  refine contract_seeT hE hgl (show E.P.funcs[59]? = some Tryz.f59 from Tryz.func59) rfl (p := sp_w1) (fun _ _ _ => rfl) ?_
  intro args hv
  unfold sp_w1 at hv ⊢
  split at hv
  case h_2 => exact hv.elim
  rename_i p i s q w
  refine ⟨by simp, Nat.le_of_ble_eq_true rfl, ?_⟩
  simp (config := {dsimp := false}) only [↓vp0, vz, vn, nq, tys, cellD, wideIR, if_true, if_false, implies_true, forall_const, ne_eq, reduceIte, reduceCtorEq, Nat.reduceEqDiff, Nat.reduceAdd, Nat.reduceMul, Nat.reduceLT, Nat.reduceSub, Nat.reduceLeDiff, Nat.reduceBNe, Nat.reduceBEq, Nat.reduceBeqDiff, List.range, List.range.loop, gl0, Tryz.ntmps59, Tryz.results59]
  simp only [givesIf]
  congr 2
  exact propext (by omega)
theorem c_in1 : Contract E 96 := by
  refine contract_seeT hE hgl (show E.P.funcs[96]? = some Tryz.f96 from Tryz.func96) rfl (p := sp_in1) (fun _ _ _ => rfl) ?_
  intro args hv
  unfold sp_in1 at hv ⊢
  split at hv
  case h_2 => exact hv.elim
  rename_i s
  refine ⟨by simp, Nat.le_of_ble_eq_true rfl, ?_⟩
  simp (config := {dsimp := false}) only [↓vp0, vz, vn, nq, tys, cellD, wideIR, if_true, if_false, implies_true, forall_const, ne_eq, reduceIte, reduceCtorEq, Nat.reduceEqDiff, Nat.reduceAdd, Nat.reduceMul, Nat.reduceLT, Nat.reduceSub, Nat.reduceLeDiff, Nat.reduceBNe, Nat.reduceBEq, Nat.reduceBeqDiff, List.range, List.range.loop, gl0, Tryz.ntmps96, Tryz.results96]
  simp only [givesIf, longW]
  congr 2
  exact propext (by omega)
theorem c_tmany : Contract E 70 := by
  refine contract_seeT hE hgl (show E.P.funcs[70]? = some Tryz.f70 from Tryz.func70) rfl (p := sp_tmany) (fun _ _ _ => rfl) ?_
  intro args hv
  unfold sp_tmany at hv ⊢
  split at hv
  case h_2 => exact hv.elim
  rename_i n m
  refine ⟨by simp, Nat.le_of_ble_eq_true rfl, ?_⟩
  simp (config := {dsimp := false}) only [↓vp0, vz, vn, nq, tys, cellD, wideIR, if_true, if_false, implies_true, forall_const, ne_eq, reduceIte, reduceCtorEq, Nat.reduceEqDiff, Nat.reduceAdd, Nat.reduceMul, Nat.reduceLT, Nat.reduceSub, Nat.reduceLeDiff, Nat.reduceBNe, Nat.reduceBEq, Nat.reduceBeqDiff, List.range, List.range.loop, gl0, Tryz.ntmps70, Tryz.results70]
  simp only [gives, manyP, decide_eq_true_eq, decide_eq_false_iff_not]
  refine ⟨fun h => by rw [if_pos h], fun h => ⟨fun h2 => by rw [if_neg h, if_pos h2], fun h2 => by rw [if_neg h, if_neg h2]⟩⟩
theorem c_tout : Contract E 72 := by
  refine contract_seeT hE hgl (show E.P.funcs[72]? = some Tryz.f72 from Tryz.func72) rfl (p := sp_tout) (fun _ _ _ => rfl) ?_
  intro args hv
  unfold sp_tout at hv ⊢
  split at hv
  case h_2 => exact hv.elim
  rename_i v s
  refine ⟨by simp, Nat.le_of_ble_eq_true rfl, ?_⟩
  simp (config := {dsimp := false}) only [↓vp0, vz, vn, nq, tys, cellD, wideIR, if_true, if_false, implies_true, forall_const, ne_eq, reduceIte, reduceCtorEq, Nat.reduceEqDiff, Nat.reduceAdd, Nat.reduceMul, Nat.reduceLT, Nat.reduceSub, Nat.reduceLeDiff, Nat.reduceBNe, Nat.reduceBEq, Nat.reduceBeqDiff, List.range, List.range.loop, gl0, Tryz.ntmps72, Tryz.results72]
  simp only [givesIf]
  congr 2
  exact propext (by omega)
theorem idx_go {α : Type} [Inhabited α] (p : α → Bool) (l : List α) : (∀ k, k < l.length → (∀ j, j < k → p (l.getD j default) = false) → p (l.getD k default) = true → idxP p l = (k : Int)) ∧ ((∀ j, j < l.length → p (l.getD j default) = false) → idxP p l = -1) := by
  have hg : ∀ (i : Nat) (h : i < l.length), l.getD i default = l[i] := fun i h => by simp [List.getD, h]
  refine ⟨fun k hk hb hp => ?_, fun hb => ?_⟩
  · have : l.findIdx? p = some k := by
      rw [List.findIdx?_eq_some_iff_getElem]
      refine ⟨hk, by rw [← hg k hk]; exact hp, fun j hj => ?_⟩
      rw [← hg j (by omega), hb j hj]; decide
    simp only [idxP, this]
  · have : l.findIdx? p = none := by
      rw [List.findIdx?_eq_none_iff]
      intro x hx
      obtain ⟨i, h1, rfl⟩ := List.getElem_of_mem hx
      rw [← hg i h1]
      exact hb i h1
    simp only [idxP, this]
theorem idx_any {α : Type} (p : α → Bool) (l : List α) : decide (0 ≤ idxP p l) = l.any p := by
  cases h : l.findIdx? p with
  | none =>
    have h2 := List.findIdx?_eq_none_iff.1 h
    simp only [idxP, h]
    have : l.any p = false := List.any_eq_false.2 fun x hx => by rw [h2 x hx]; decide
    rw [this]; rfl
  | some k =>
    obtain ⟨h1, h2, _⟩ := List.findIdx?_eq_some_iff_getElem.1 h
    simp only [idxP, h]
    have : l.any p = true := List.any_eq_true.2 ⟨_, List.getElem_mem h1, h2⟩
    rw [this]; simp
theorem c_indexIn : Contract E 83 := by
  refine contract_seeT hE hgl (show E.P.funcs[83]? = some Tryz.f83 from Tryz.func83) rfl (p := (sp_indexIn 59)) (fun _ _ _ => rfl) ?_
  intro args hv
  unfold sp_indexIn at hv ⊢
  split at hv
  case h_2 => exact hv.elim
  rename_i es h
  refine ⟨by simp, Nat.le_of_ble_eq_true rfl, ?_⟩
  simp only [givesIf] at hv
  obtain ⟨rfl, l, rfl, hok, hl⟩ := hv
  obtain ⟨hI1, hI2⟩ := idx_go hasWit l
  simp (config := {dsimp := false}) only [↓vp0, vz, vn, nq, tys, cellD, wideIR, if_true, if_false, implies_true, forall_const, ne_eq, reduceIte, reduceCtorEq, Nat.reduceEqDiff, Nat.reduceAdd, Nat.reduceMul, Nat.reduceLT, Nat.reduceSub, Nat.reduceLeDiff, Nat.reduceBNe, Nat.reduceBEq, Nat.reduceBeqDiff, List.range, List.range.loop, gl0, Tryz.ntmps83, Tryz.results83]
  refine loopI {k : Nat // k ≤ l.length ∧ ∀ j, j < k → hasWit (l.getD j default) = false} (fun k => [(8, .int .i64 (k.1 : Nat)), (7, .int .i64 (l.length : Nat)), (0, .sl .no 36 (insD l)), (1, .fn 59 [])]) (fun _ => ⟨[], [], 16⟩) (fun k => l.length - k.1) ⟨0, by simp⟩ (fun _ => rfl) ?_ ?_
  · exact ⟨⟨wkD_eq rfl, rfl, wkD_eq rfl, rfl, wkD_eq rfl, rfl, wkD_eq rfl, rfl, trivial⟩, trivial, trivial⟩
  rintro ⟨k, hk, hb⟩
  simp (config := {dsimp := false}) only [↓vp0, vz, vn, nq, tys, cellD, wideIR, if_true, if_false, implies_true, forall_const, ne_eq, reduceIte, reduceCtorEq, Nat.reduceEqDiff, Nat.reduceAdd, Nat.reduceMul, Nat.reduceLT, Nat.reduceSub, Nat.reduceLeDiff, Nat.reduceBNe, Nat.reduceBEq, Nat.reduceBeqDiff, List.range, List.range.loop, gl0, Tryz.ntmps83, Tryz.results83]
  refine ⟨fun hh => ?_, fun hh => ?_⟩
  · have hh := of_decide_eq_true hh
    have hk' : k < l.length := by omega
    have g1 := insD_get l k hk'
    have hx := hok _ (getD_memI hk')
    cases hp : hasWit (l.getD k default)
    · have hq : decide (0 < (l.getD k default).wit.length) = false := hp
      simp (config := {dsimp := false}) only [↓vp0, vz, vn, nq, tys, cellD, wideIR, if_true, if_false, implies_true, forall_const, ne_eq, reduceIte, reduceCtorEq, Nat.reduceEqDiff, Nat.reduceAdd, Nat.reduceMul, Nat.reduceLT, Nat.reduceSub, Nat.reduceLeDiff, Nat.reduceBNe, Nat.reduceBEq, Nat.reduceBeqDiff, List.range, List.range.loop, gl0, Tryz.ntmps83, Tryz.results83, PF.toR, givesIf, Int.toNat_natCast, g1, inD, hq, spec_w1, sp_w1, c_w1, b_w1]
      refine ⟨by omega, by omega, hx.many, ⟨k + 1, by omega, fun j hj => ?_⟩, ⟨⟨wkD_eq ?_, rfl, wkD_eq rfl, rfl, wkD_eq rfl, rfl, wkD_eq rfl, rfl, trivial⟩, trivial, trivial⟩, by (try simp only); omega⟩
      · rcases Nat.lt_or_ge j k with h7 | h7
        · exact hb j h7
        · obtain rfl : j = k := by omega
          exact hp
      · exact some_i64 (by (try simp only); omega)
    · have hq : decide (0 < (l.getD k default).wit.length) = true := hp
      simp (config := {dsimp := false}) only [↓vp0, vz, vn, nq, tys, cellD, wideIR, if_true, if_false, implies_true, forall_const, ne_eq, reduceIte, reduceCtorEq, Nat.reduceEqDiff, Nat.reduceAdd, Nat.reduceMul, Nat.reduceLT, Nat.reduceSub, Nat.reduceLeDiff, Nat.reduceBNe, Nat.reduceBEq, Nat.reduceBeqDiff, List.range, List.range.loop, gl0, Tryz.ntmps83, Tryz.results83, PF.toR, givesIf, Int.toNat_natCast, g1, inD, hq, ins_D, hI1 k hk' hb hp, spec_w1, sp_w1, c_w1, b_w1]
      exact ⟨by omega, by omega, hx.many⟩
  · have hh := of_decide_eq_false hh
    obtain rfl : k = l.length := by omega
    simp (config := {dsimp := false}) only [↓vp0, vz, vn, nq, tys, cellD, wideIR, if_true, if_false, implies_true, forall_const, ne_eq, reduceIte, reduceCtorEq, Nat.reduceEqDiff, Nat.reduceAdd, Nat.reduceMul, Nat.reduceLT, Nat.reduceSub, Nat.reduceLeDiff, Nat.reduceBNe, Nat.reduceBEq, Nat.reduceBeqDiff, List.range, List.range.loop, gl0, Tryz.ntmps83, Tryz.results83, givesIf, ins_D, hI2 hb]
    all_goals rfl
theorem c_containsIn : Contract E 58 := by
  refine contract_seeT hE hgl (show E.P.funcs[58]? = some Tryz.f58 from Tryz.func58) rfl (p := (sp_containsIn 59)) (fun _ _ _ => rfl) ?_
  intro args hv
  unfold sp_containsIn at hv ⊢
  split at hv
  case h_2 => exact hv.elim
  rename_i es h
  refine ⟨by simp, Nat.le_of_ble_eq_true rfl, ?_⟩
  simp only [givesIf] at hv
  obtain ⟨rfl, l, rfl, hok, hl⟩ := hv
  simp (config := {dsimp := false}) only [↓vp0, vz, vn, nq, tys, cellD, wideIR, if_true, if_false, implies_true, forall_const, ne_eq, reduceIte, reduceCtorEq, Nat.reduceEqDiff, Nat.reduceAdd, Nat.reduceMul, Nat.reduceLT, Nat.reduceSub, Nat.reduceLeDiff, Nat.reduceBNe, Nat.reduceBEq, Nat.reduceBeqDiff, List.range, List.range.loop, gl0, Tryz.ntmps58, Tryz.results58, PF.toR, givesIf, ins_D, idx_any, spec_indexIn, sp_indexIn, c_indexIn, b_indexIn]
  exact ⟨_, rfl, hok, hl⟩
theorem c_twitnessed : Contract E 44 := by
  refine contract_seeT hE hgl (show E.P.funcs[44]? = some Tryz.f44 from Tryz.func44) rfl (p := sp_twitnessed) (fun _ _ _ => rfl) ?_
  intro args hv
  unfold sp_twitnessed at hv ⊢
  split at hv
  case h_2 => exact hv.elim
  rename_i v is os l
  refine ⟨by simp, Nat.le_of_ble_eq_true rfl, ?_⟩
  simp only [givesIf] at hv
  obtain ⟨t, rfl, rfl, rfl, rfl, ht, -⟩ := okT_tx hv
  simp (config := {dsimp := false}) only [↓vp0, vz, vn, nq, tys, cellD, wideIR, if_true, if_false, implies_true, forall_const, ne_eq, reduceIte, reduceCtorEq, Nat.reduceEqDiff, Nat.reduceAdd, Nat.reduceMul, Nat.reduceLT, Nat.reduceSub, Nat.reduceLeDiff, Nat.reduceBNe, Nat.reduceBEq, Nat.reduceBeqDiff, List.range, List.range.loop, gl0, Tryz.ntmps44, Tryz.results44, PF.toR, givesIf, spec_containsIn, sp_containsIn, c_containsIn, b_containsIn]
  exact ⟨_, rfl, ht.ins, ht.mi⟩
theorem c_indexB : Contract E 104 := by
  refine contract_seeT hE hgl (show E.P.funcs[104]? = some Tryz.f104 from Tryz.func104) rfl (p := (sp_indexB 96)) (fun _ _ _ => rfl) ?_
  intro args hv
  unfold sp_indexB at hv ⊢
  split at hv
  case h_2 => exact hv.elim
  rename_i es h
  refine ⟨by simp, Nat.le_of_ble_eq_true rfl, ?_⟩
  simp only [givesIf] at hv
  obtain ⟨rfl, l, rfl, hok, hl⟩ := hv
  obtain ⟨hI1, hI2⟩ := idx_go longW l
  simp (config := {dsimp := false}) only [↓vp0, vz, vn, nq, tys, cellD, wideIR, if_true, if_false, implies_true, forall_const, ne_eq, reduceIte, reduceCtorEq, Nat.reduceEqDiff, Nat.reduceAdd, Nat.reduceMul, Nat.reduceLT, Nat.reduceSub, Nat.reduceLeDiff, Nat.reduceBNe, Nat.reduceBEq, Nat.reduceBeqDiff, List.range, List.range.loop, gl0, Tryz.ntmps104, Tryz.results104]
  refine loopI {k : Nat // k ≤ l.length ∧ ∀ j, j < k → longW (l.getD j default) = false} (fun k => [(8, .int .i64 (k.1 : Nat)), (7, .int .i64 (l.length : Nat)), (0, .sl .no 1 (slis l)), (1, .fn 96 [])]) (fun _ => ⟨[], [], 16⟩) (fun k => l.length - k.1) ⟨0, by simp⟩ (fun _ => rfl) ?_ ?_
  · exact ⟨⟨wkD_eq rfl, rfl, wkD_eq rfl, rfl, wkD_eq rfl, rfl, wkD_eq rfl, rfl, trivial⟩, trivial, trivial⟩
  rintro ⟨k, hk, hb⟩
  simp (config := {dsimp := false}) only [↓vp0, vz, vn, nq, tys, cellD, wideIR, if_true, if_false, implies_true, forall_const, ne_eq, reduceIte, reduceCtorEq, Nat.reduceEqDiff, Nat.reduceAdd, Nat.reduceMul, Nat.reduceLT, Nat.reduceSub, Nat.reduceLeDiff, Nat.reduceBNe, Nat.reduceBEq, Nat.reduceBeqDiff, List.range, List.range.loop, gl0, Tryz.ntmps104, Tryz.results104]
  refine ⟨fun hh => ?_, fun hh => ?_⟩
  · have hh := of_decide_eq_true hh
    have hk' : k < l.length := by omega
    have g1 : (slis l).getD k .any = .sli .no .u8 (l.getD k default) := slis_get l k hk'
    have hx := hok _ (getD_memI hk')
    cases hp : longW (l.getD k default)
    · have hq : longW (l.getD k default) = false := hp
      simp (config := {dsimp := false}) only [↓vp0, vz, vn, nq, tys, cellD, wideIR, if_true, if_false, implies_true, forall_const, ne_eq, reduceIte, reduceCtorEq, Nat.reduceEqDiff, Nat.reduceAdd, Nat.reduceMul, Nat.reduceLT, Nat.reduceSub, Nat.reduceLeDiff, Nat.reduceBNe, Nat.reduceBEq, Nat.reduceBeqDiff, List.range, List.range.loop, gl0, Tryz.ntmps104, Tryz.results104, PF.toR, givesIf, Int.toNat_natCast, g1, hq, spec_in1, sp_in1, c_in1, b_in1]
      refine ⟨by omega, by omega, hx.2, ⟨k + 1, by omega, fun j hj => ?_⟩, ⟨⟨wkD_eq ?_, rfl, wkD_eq rfl, rfl, wkD_eq rfl, rfl, wkD_eq rfl, rfl, trivial⟩, trivial, trivial⟩, by (try simp only); omega⟩
      · rcases Nat.lt_or_ge j k with h7 | h7
        · exact hb j h7
        · obtain rfl : j = k := by omega
          exact hp
      · exact some_i64 (by (try simp only); omega)
    · have hq : longW (l.getD k default) = true := hp
      simp (config := {dsimp := false}) only [↓vp0, vz, vn, nq, tys, cellD, wideIR, if_true, if_false, implies_true, forall_const, ne_eq, reduceIte, reduceCtorEq, Nat.reduceEqDiff, Nat.reduceAdd, Nat.reduceMul, Nat.reduceLT, Nat.reduceSub, Nat.reduceLeDiff, Nat.reduceBNe, Nat.reduceBEq, Nat.reduceBeqDiff, List.range, List.range.loop, gl0, Tryz.ntmps104, Tryz.results104, PF.toR, givesIf, Int.toNat_natCast, g1, hq, ts_slis, hI1 k hk' hb hp, spec_in1, sp_in1, c_in1, b_in1]
      exact ⟨by omega, by omega, hx.2⟩
  · have hh := of_decide_eq_false hh
    obtain rfl : k = l.length := by omega
    simp (config := {dsimp := false}) only [↓vp0, vz, vn, nq, tys, cellD, wideIR, if_true, if_false, implies_true, forall_const, ne_eq, reduceIte, reduceCtorEq, Nat.reduceEqDiff, Nat.reduceAdd, Nat.reduceMul, Nat.reduceLT, Nat.reduceSub, Nat.reduceLeDiff, Nat.reduceBNe, Nat.reduceBEq, Nat.reduceBeqDiff, List.range, List.range.loop, gl0, Tryz.ntmps104, Tryz.results104, givesIf, ts_slis, hI2 hb]
    all_goals rfl
theorem c_containsB : Contract E 95 := by
  refine contract_seeT hE hgl (show E.P.funcs[95]? = some Tryz.f95 from Tryz.func95) rfl (p := (sp_containsB 96)) (fun _ _ _ => rfl) ?_
  intro args hv
  unfold sp_containsB at hv ⊢
  split at hv
  case h_2 => exact hv.elim
  rename_i es h
  refine ⟨by simp, Nat.le_of_ble_eq_true rfl, ?_⟩
  simp only [givesIf] at hv
  obtain ⟨rfl, l, rfl, hok, hl⟩ := hv
  simp (config := {dsimp := false}) only [↓vp0, vz, vn, nq, tys, cellD, wideIR, if_true, if_false, implies_true, forall_const, ne_eq, reduceIte, reduceCtorEq, Nat.reduceEqDiff, Nat.reduceAdd, Nat.reduceMul, Nat.reduceLT, Nat.reduceSub, Nat.reduceLeDiff, Nat.reduceBNe, Nat.reduceBEq, Nat.reduceBeqDiff, List.range, List.range.loop, gl0, Tryz.ntmps95, Tryz.results95, PF.toR, givesIf, ts_slis, idx_any, spec_indexB, sp_indexB, c_indexB, b_indexB]
  exact ⟨_, rfl, hok, hl⟩
theorem c_tin : Contract E 71 := by
  refine contract_seeT hE hgl (show E.P.funcs[71]? = some Tryz.f71 from Tryz.func71) rfl (p := sp_tin) (fun _ _ _ => rfl) ?_
  intro args hv
  unfold sp_tin at hv ⊢
  split at hv
  case h_2 => exact hv.elim
  rename_i p i s q w
  refine ⟨by simp, Nat.le_of_ble_eq_true rfl, ?_⟩
  simp only [givesIf] at hv
  obtain ⟨⟨l, rfl, hok, hl⟩, hs⟩ := hv
  have d1 : decide ((s.length : Int) ≤ 128) = decide (s.length ≤ 128) := by congr 1; exact propext (by omega)
  have d2 : decide ((l.length : Int) ≤ 8) = decide (l.length ≤ 8) := by congr 1; exact propext (by omega)
  have hw : isWitL (slis l) := ⟨_, rfl, hok, hl⟩
  cases h1 : decide (s.length ≤ 128) <;> cases h2 : decide (l.length ≤ 8)
  all_goals simp (config := {dsimp := false}) only [↓vp0, vz, vn, nq, tys, cellD, wideIR, if_true, if_false, implies_true, forall_const, ne_eq, reduceIte, reduceCtorEq, Nat.reduceEqDiff, Nat.reduceAdd, Nat.reduceMul, Nat.reduceLT, Nat.reduceSub, Nat.reduceLeDiff, Nat.reduceBNe, Nat.reduceBEq, Nat.reduceBeqDiff, List.range, List.range.loop, gl0, Tryz.ntmps71, Tryz.results71, PF.toR, givesIf, d1, d2, h1, h2, spec_containsB, sp_containsB, c_containsB, b_containsB]
  exact hw
theorem check_1 {t : TxP} (h : ¬ manyP t.ins.length 16 = 0) : checkP t = manyP t.ins.length 16 := by unfold checkP; rw [if_pos h]
theorem check_2 {t : TxP} (h : manyP t.ins.length 16 = 0) (h2 : ¬ manyP t.outs.length 16 = 0) : checkP t = manyP t.outs.length 16 := by unfold checkP; rw [if_neg (by simp [h]), if_pos h2]
theorem check_3 {t : TxP} (h : manyP t.ins.length 16 = 0) (h2 : manyP t.outs.length 16 = 0) {x : InP} (hx : x ∈ t.ins) (hb : inOkP x = false) : checkP t = 3 := by
  unfold checkP
  rw [if_neg (by simp [h]), if_neg (by simp [h2]), if_pos (List.all_eq_false.2 ⟨x, hx, by rw [hb]; decide⟩)]
theorem check_4 {t : TxP} (h : manyP t.ins.length 16 = 0) (h2 : manyP t.outs.length 16 = 0) (hi : ∀ j, j < t.ins.length → inOkP (t.ins.getD j default) = true) {x : OutP} (hx : x ∈ t.outs) (hb : outOkP x = false) : checkP t = 3 := by
  unfold checkP
  rw [if_neg (by simp [h]), if_neg (by simp [h2]), if_neg, if_pos (List.all_eq_false.2 ⟨x, hx, by rw [hb]; decide⟩)]
  rw [List.all_eq_true.2 fun x hx => by
    obtain ⟨i, h1, rfl⟩ := List.getElem_of_mem hx
    have := hi i h1
    simpa [List.getD, h1] using this]
  decide
theorem check_5 {t : TxP} (h : manyP t.ins.length 16 = 0) (h2 : manyP t.outs.length 16 = 0) (hi : ∀ j, j < t.ins.length → inOkP (t.ins.getD j default) = true) (ho : ∀ j, j < t.outs.length → outOkP (t.outs.getD j default) = true) : checkP t = 0 := by
  unfold checkP
  rw [if_neg (by simp [h]), if_neg (by simp [h2]), if_neg, if_neg]
  · rw [List.all_eq_true.2 fun x hx => by
      obtain ⟨i, h1, rfl⟩ := List.getElem_of_mem hx
      have := ho i h1
      simpa [List.getD, h1] using this]
    decide
  · rw [List.all_eq_true.2 fun x hx => by
      obtain ⟨i, h1, rfl⟩ := List.getElem_of_mem hx
      have := hi i h1
      simpa [List.getD, h1] using this]
    decide
theorem c_tcheck : Contract E 51 := by
  refine contract_seeT hE hgl (show E.P.funcs[51]? = some Tryz.f51 from Tryz.func51) rfl (p := sp_tcheck) (fun _ _ _ => rfl) ?_
  intro args hv
  unfold sp_tcheck at hv ⊢
  split at hv
  case h_2 => exact hv.elim
  rename_i v is os l
  refine ⟨by simp, Nat.le_of_ble_eq_true rfl, ?_⟩
  simp only [givesIf] at hv
  obtain ⟨t, rfl, rfl, rfl, rfl, ht, he⟩ := okT_tx hv
  have hmi := ht.mi
  have hmo := ht.mo
  have eta : (⟨t.ver, t.ins, t.outs, t.lock⟩ : TxP) = t := rfl
  by_cases h1 : manyP t.ins.length 16 = 0
  case neg => simp (config := {dsimp := false}) only [↓vp0, vz, vn, nq, tys, cellD, wideIR, if_true, if_false, implies_true, forall_const, ne_eq, reduceIte, reduceCtorEq, Nat.reduceEqDiff, Nat.reduceAdd, Nat.reduceMul, Nat.reduceLT, Nat.reduceSub, Nat.reduceLeDiff, Nat.reduceBNe, Nat.reduceBEq, Nat.reduceBeqDiff, List.range, List.range.loop, gl0, Tryz.ntmps51, Tryz.results51, PF.toR, givesIf, gives, h1, decide_false, eta, check_1 h1, spec_tmany, sp_tmany, c_tmany, b_tmany]
  by_cases h2 : manyP t.outs.length 16 = 0
  case neg => simp (config := {dsimp := false}) only [↓vp0, vz, vn, nq, tys, cellD, wideIR, if_true, if_false, implies_true, forall_const, ne_eq, reduceIte, reduceCtorEq, Nat.reduceEqDiff, Nat.reduceAdd, Nat.reduceMul, Nat.reduceLT, Nat.reduceSub, Nat.reduceLeDiff, Nat.reduceBNe, Nat.reduceBEq, Nat.reduceBeqDiff, List.range, List.range.loop, gl0, Tryz.ntmps51, Tryz.results51, PF.toR, givesIf, gives, h1, h2, eq_self, decide_true, decide_false, eta, check_2 h1 h2, spec_tmany, sp_tmany, c_tmany, b_tmany]
  simp (config := {dsimp := false}) only [↓vp0, vz, vn, nq, tys, cellD, wideIR, if_true, if_false, implies_true, forall_const, ne_eq, reduceIte, reduceCtorEq, Nat.reduceEqDiff, Nat.reduceAdd, Nat.reduceMul, Nat.reduceLT, Nat.reduceSub, Nat.reduceLeDiff, Nat.reduceBNe, Nat.reduceBEq, Nat.reduceBeqDiff, List.range, List.range.loop, gl0, Tryz.ntmps51, Tryz.results51, PF.toR, givesIf, gives, h1, h2, eq_self, decide_true, eta, spec_tmany, sp_tmany, c_tmany, b_tmany]
  refine loopI {k : Nat // k ≤ t.ins.length ∧ ∀ j, j < k → inOkP (t.ins.getD j default) = true} (fun k => [(26, .int .i64 (k.1 : Nat)), (25, .int .i64 (t.ins.length : Nat)), (24, .sl .no 36 (insD t.ins)), (1, .bp 0 0)]) (fun _ => ⟨[(0, .agg [.int .u32 t.ver, .sl .no 36 (insD t.ins), .sl .no 2 (outsD t.outs), .int .u32 t.lock])], [], 80⟩) (fun k => t.ins.length - k.1) ⟨0, by simp⟩ (fun _ => rfl) ?_ ?_
  · exact ⟨⟨wkD_eq rfl, rfl, wkD_eq rfl, rfl, wkD_eq rfl, rfl, wkD_eq rfl, rfl, trivial⟩, ⟨rfl, Nat.le_of_ble_eq_true rfl, rfl, trivial⟩, trivial⟩
  rintro ⟨k, hk, hb⟩
  simp (config := {dsimp := false}) only [↓vp0, vz, vn, nq, tys, cellD, wideIR, if_true, if_false, implies_true, forall_const, ne_eq, reduceIte, reduceCtorEq, Nat.reduceEqDiff, Nat.reduceAdd, Nat.reduceMul, Nat.reduceLT, Nat.reduceSub, Nat.reduceLeDiff, Nat.reduceBNe, Nat.reduceBEq, Nat.reduceBeqDiff, List.range, List.range.loop, gl0, Tryz.ntmps51, Tryz.results51]
  refine ⟨fun hh => ?_, fun hh => ?_⟩
  · have hh := of_decide_eq_true hh
    have hk' : k < t.ins.length := by omega
    have g1 := insD_get t.ins k hk'
    have hx := ht.ins _ (getD_memI hk')
    have hw : isWitL (slis (t.ins.getD k default).wit) := ⟨_, rfl, hx.wit, hx.many⟩
    cases hp : inOkP (t.ins.getD k default)
    · have hq : (decide ((t.ins.getD k default).script.length ≤ 128) && (decide ((t.ins.getD k default).wit.length ≤ 8) && !(t.ins.getD k default).wit.any longW)) = false := hp
      simp (config := {dsimp := false}) only [↓vp0, vz, vn, nq, tys, cellD, wideIR, if_true, if_false, implies_true, forall_const, ne_eq, reduceIte, reduceCtorEq, Nat.reduceEqDiff, Nat.reduceAdd, Nat.reduceMul, Nat.reduceLT, Nat.reduceSub, Nat.reduceLeDiff, Nat.reduceBNe, Nat.reduceBEq, Nat.reduceBeqDiff, List.range, List.range.loop, gl0, Tryz.ntmps51, Tryz.results51, PF.toR, givesIf, Int.toNat_natCast, g1, inD, hq, check_3 h1 h2 (getD_memI hk') hp, spec_tin, sp_tin, c_tin, b_tin]
      exact ⟨by omega, by omega, hw, hx.script.2⟩
    · have hq : (decide ((t.ins.getD k default).script.length ≤ 128) && (decide ((t.ins.getD k default).wit.length ≤ 8) && !(t.ins.getD k default).wit.any longW)) = true := hp
      simp (config := {dsimp := false}) only [↓vp0, vz, vn, nq, tys, cellD, wideIR, if_true, if_false, implies_true, forall_const, ne_eq, reduceIte, reduceCtorEq, Nat.reduceEqDiff, Nat.reduceAdd, Nat.reduceMul, Nat.reduceLT, Nat.reduceSub, Nat.reduceLeDiff, Nat.reduceBNe, Nat.reduceBEq, Nat.reduceBeqDiff, List.range, List.range.loop, gl0, Tryz.ntmps51, Tryz.results51, PF.toR, givesIf, Int.toNat_natCast, g1, inD, hq, spec_tin, sp_tin, c_tin, b_tin]
      refine ⟨by omega, by omega, hw, hx.script.2, ⟨k + 1, by omega, fun j hj => ?_⟩, ⟨⟨wkD_eq ?_, rfl, wkD_eq rfl, rfl, wkD_eq rfl, rfl, wkD_eq rfl, rfl, trivial⟩, ⟨rfl, Nat.le_of_ble_eq_true rfl, rfl, trivial⟩, trivial⟩, by (try simp only); omega⟩
      · rcases Nat.lt_or_ge j k with h7 | h7
        · exact hb j h7
        · obtain rfl : j = k := by omega
          exact hp
      · exact some_i64 (by (try simp only); omega)
  have hh := of_decide_eq_false hh
  obtain rfl : k = t.ins.length := by omega
  have hbi := hb
  refine loopI {k : Nat // k ≤ t.outs.length ∧ ∀ j, j < k → outOkP (t.outs.getD j default) = true} (fun k => [(37, .int .i64 (k.1 : Nat)), (36, .int .i64 (t.outs.length : Nat)), (35, .sl .no 2 (outsD t.outs)), (1, .bp 0 0)]) (fun _ => ⟨[(0, .agg [.int .u32 t.ver, .sl .no 36 (insD t.ins), .sl .no 2 (outsD t.outs), .int .u32 t.lock])], [], 100⟩) (fun k => t.outs.length - k.1) ⟨0, by simp⟩ (fun _ => rfl) ?_ ?_
  · exact ⟨⟨wkD_eq rfl, rfl, wkD_eq rfl, rfl, wkD_eq rfl, rfl, wkD_eq rfl, rfl, trivial⟩, ⟨rfl, Nat.le_of_ble_eq_true rfl, rfl, trivial⟩, trivial⟩
  rintro ⟨k, hk, hb⟩
  simp (config := {dsimp := false}) only [↓vp0, vz, vn, nq, tys, cellD, wideIR, if_true, if_false, implies_true, forall_const, ne_eq, reduceIte, reduceCtorEq, Nat.reduceEqDiff, Nat.reduceAdd, Nat.reduceMul, Nat.reduceLT, Nat.reduceSub, Nat.reduceLeDiff, Nat.reduceBNe, Nat.reduceBEq, Nat.reduceBeqDiff, List.range, List.range.loop, gl0, Tryz.ntmps51, Tryz.results51]
  refine ⟨fun hh => ?_, fun hh => ?_⟩
  · have hh := of_decide_eq_true hh
    have hk' : k < t.outs.length := by omega
    have g1 := outsD_get t.outs k hk'
    have hx := ht.outs _ (getD_memI hk')
    skip
    cases hp : outOkP (t.outs.getD k default)
    · have hq : decide ((t.outs.getD k default).script.length ≤ 128) = false := hp
      simp (config := {dsimp := false}) only [↓vp0, vz, vn, nq, tys, cellD, wideIR, if_true, if_false, implies_true, forall_const, ne_eq, reduceIte, reduceCtorEq, Nat.reduceEqDiff, Nat.reduceAdd, Nat.reduceMul, Nat.reduceLT, Nat.reduceSub, Nat.reduceLeDiff, Nat.reduceBNe, Nat.reduceBEq, Nat.reduceBeqDiff, List.range, List.range.loop, gl0, Tryz.ntmps51, Tryz.results51, PF.toR, givesIf, Int.toNat_natCast, g1, outD, hq, check_4 h1 h2 hbi (getD_memI hk') hp, spec_tout, sp_tout, c_tout, b_tout]
      exact ⟨by omega, by omega, hx.script.2⟩
    · have hq : decide ((t.outs.getD k default).script.length ≤ 128) = true := hp
      simp (config := {dsimp := false}) only [↓vp0, vz, vn, nq, tys, cellD, wideIR, if_true, if_false, implies_true, forall_const, ne_eq, reduceIte, reduceCtorEq, Nat.reduceEqDiff, Nat.reduceAdd, Nat.reduceMul, Nat.reduceLT, Nat.reduceSub, Nat.reduceLeDiff, Nat.reduceBNe, Nat.reduceBEq, Nat.reduceBeqDiff, List.range, List.range.loop, gl0, Tryz.ntmps51, Tryz.results51, PF.toR, givesIf, Int.toNat_natCast, g1, outD, hq, spec_tout, sp_tout, c_tout, b_tout]
      refine ⟨by omega, by omega, hx.script.2, ⟨k + 1, by omega, fun j hj => ?_⟩, ⟨⟨wkD_eq ?_, rfl, wkD_eq rfl, rfl, wkD_eq rfl, rfl, wkD_eq rfl, rfl, trivial⟩, ⟨rfl, Nat.le_of_ble_eq_true rfl, rfl, trivial⟩, trivial⟩, by (try simp only); omega⟩
      · rcases Nat.lt_or_ge j k with h7 | h7
        · exact hb j h7
        · obtain rfl : j = k := by omega
          exact hp
      · exact some_i64 (by (try simp only); omega)
  have hh := of_decide_eq_false hh
  obtain rfl : k = t.outs.length := by omega
  simp (config := {dsimp := false}) only [↓vp0, vz, vn, nq, tys, cellD, wideIR, if_true, if_false, implies_true, forall_const, ne_eq, reduceIte, reduceCtorEq, Nat.reduceEqDiff, Nat.reduceAdd, Nat.reduceMul, Nat.reduceLT, Nat.reduceSub, Nat.reduceLeDiff, Nat.reduceBNe, Nat.reduceBEq, Nat.reduceBeqDiff, List.range, List.range.loop, gl0, Tryz.ntmps51, Tryz.results51, check_5 h1 h2 hbi hb]
  all_goals rfl
end Go.Vi.CZ
end

section
set_option linter.unusedVariables false
set_option linter.unusedSimpArgs false
set_option maxHeartbeats 0
set_option maxRecDepth 20000
namespace Go.Vi.CZ
open Go.Proofs

theorem u64_ge (n : Int) : 0 ≤ IntKind.wrap .u64 n := by rw [IntKind.wrap_u64]; omega
theorem turnedI_take (x : Int) (ns : List Int) (i : Nat) (h : i < ns.length) : turnedI x (ns.take (i + 1)) = xorI .u32 (turnedI x (ns.take i)) (rotl x (IntKind.wrap .i64 (-(ns[i]?.getD 0)))) := by
  unfold turnedI
  rw [List.take_add_one, List.foldl_append]
  simp [h]
theorem c_first : Contract E 93 := by
  refine contract_seeT hE hgl (show E.P.funcs[93]? = some Tryz.f93 from Tryz.func93) rfl (p := sp_first) (fun _ _ _ => rfl) ?_
  intro args hv
  unfold sp_first at hv ⊢
  split at hv
  case h_2 => exact hv.elim
  refine ⟨by simp, by simp, ?_⟩
  simp (config := {dsimp := false}) only [↓vp0, vz, vn, nq, tys, cellD, wideIR, if_true, if_false, implies_true, forall_const, ne_eq, reduceIte, reduceCtorEq, Nat.reduceEqDiff, Nat.reduceAdd, Nat.reduceMul, Nat.reduceLT, Nat.reduceSub, Nat.reduceLeDiff, Nat.reduceBNe, Nat.reduceBEq, Nat.reduceBeqDiff, List.range, List.range.loop, gl0, Tryz.ntmps93, Tryz.results93, gives, u32s, h0]
theorem c_plus : Contract E 110 := by
  refine contract_seeT hE hgl (show E.P.funcs[110]? = some Tryz.f110 from Tryz.func110) rfl (p := sp_plus) (fun _ _ _ => rfl) ?_
  intro args hv
  unfold sp_plus at hv ⊢
  split at hv
  case h_2 => exact hv.elim
  refine ⟨by simp, Nat.le_of_ble_eq_true rfl, ?_⟩
  simp (config := {dsimp := false}) only [↓vp0, vz, vn, nq, tys, cellD, wideIR, if_true, if_false, implies_true, forall_const, ne_eq, reduceIte, reduceCtorEq, Nat.reduceEqDiff, Nat.reduceAdd, Nat.reduceMul, Nat.reduceLT, Nat.reduceSub, Nat.reduceLeDiff, Nat.reduceBNe, Nat.reduceBEq, Nat.reduceBeqDiff, List.range, List.range.loop, gl0, Tryz.ntmps110, Tryz.results110]
  rfl
theorem c_rotl : Contract E 113 := by
  refine contract_seeT hE hgl (show E.P.funcs[113]? = some Tryz.f113 from Tryz.func113) rfl (p := sp_rotl) (fun _ _ _ => rfl) ?_
  intro args hv
  unfold sp_rotl at hv ⊢
  split at hv
  case h_2 => exact hv.elim
  refine ⟨by simp, Nat.le_of_ble_eq_true rfl, ?_⟩
  simp (config := {dsimp := false}) only [↓vp0, vz, vn, nq, tys, cellD, wideIR, if_true, if_false, implies_true, forall_const, ne_eq, reduceIte, reduceCtorEq, Nat.reduceEqDiff, Nat.reduceAdd, Nat.reduceMul, Nat.reduceLT, Nat.reduceSub, Nat.reduceLeDiff, Nat.reduceBNe, Nat.reduceBEq, Nat.reduceBeqDiff, List.range, List.range.loop, gl0, Tryz.ntmps113, Tryz.results113]
  exact ⟨u64_ge _, u64_ge _, rfl⟩
theorem c_turned : Contract E 112 := by
  refine contract_seeT hE hgl (show E.P.funcs[112]? = some Tryz.f112 from Tryz.func112) rfl (p := sp_turned) (fun _ _ _ => rfl) ?_
  intro args hv
  unfold sp_turned at hv ⊢
  split at hv
  case h_2 => exact hv.elim
  rename_i x ns
  refine ⟨by simp, Nat.le_of_ble_eq_true rfl, ?_⟩
  simp (config := {dsimp := false}) only [↓vp0, vz, vn, nq, tys, cellD, wideIR, if_true, if_false, implies_true, forall_const, ne_eq, reduceIte, reduceCtorEq, Nat.reduceEqDiff, Nat.reduceAdd, Nat.reduceMul, Nat.reduceLT, Nat.reduceSub, Nat.reduceLeDiff, Nat.reduceBNe, Nat.reduceBEq, Nat.reduceBeqDiff, List.range, List.range.loop, gl0, Tryz.ntmps112, Tryz.results112]
  refine loopI (Fin (ns.length + 1)) (fun i => [(4, .int .u32 (turnedI x (ns.take i))), (0, .int .u32 x), (7, .sli .no .i64 ns), (8, .int .i64 ns.length), (9, .int .i64 (i : Nat))]) (fun _ => ⟨[], [], 16⟩) (fun i => ns.length - i) 0 (fun _ => rfl) ?_ ?_
  · simp [Wk, wkSl, wkD, wkBs, wkTs, look, D.under, underO, turnedI]
  intro i
  simp (config := {dsimp := false}) only [↓vp0, vz, vn, nq, tys, cellD, wideIR, if_true, if_false, implies_true, forall_const, ne_eq, reduceIte, reduceCtorEq, Nat.reduceEqDiff, Nat.reduceAdd, Nat.reduceMul, Nat.reduceLT, Nat.reduceSub, Nat.reduceLeDiff, Nat.reduceBNe, Nat.reduceBEq, Nat.reduceBeqDiff, List.range, List.range.loop, gl0, Tryz.ntmps112, Tryz.results112, PF.toR, gives, spec_rotl, sp_rotl, c_rotl, b_rotl]
  obtain ⟨i, hi⟩ := i
  simp only [givesIf] at hv
  refine ⟨fun h => ?_, fun h => ?_⟩
  · have h := of_decide_eq_true h
    simp only at h
    refine ⟨by simp, h, ⟨i + 1, by omega⟩, ?_, by simp only; omega⟩
    simp [Wk, wkSl, wkD, wkBs, wkTs, look, D.under, underO, turnedI_take x ns i (by omega), IntWalk.i64_in ((i : Int) + 1) (by omega)]
  · have h := of_decide_eq_false h
    simp only at h
    change D.int .u32 (turnedI x (ns.take i)) = D.int .u32 (turnedI x ns)
    rw [List.take_of_length_le (by omega)]
theorem c_round : Contract E 109 := by
  refine contract_seeT hE hgl (show E.P.funcs[109]? = some Tryz.f109 from Tryz.func109) rfl (p := sp_round) (fun _ _ _ => rfl) ?_
  intro args hv
  unfold sp_round at hv ⊢
  split at hv
  case h_2 => exact hv.elim
  refine ⟨by simp, Nat.le_of_ble_eq_true rfl, ?_⟩
  simp (config := {dsimp := false}) only [↓vp0, vz, vn, nq, tys, cellD, wideIR, if_true, if_false, implies_true, forall_const, ne_eq, reduceIte, reduceCtorEq, Nat.reduceEqDiff, Nat.reduceAdd, Nat.reduceMul, Nat.reduceLT, Nat.reduceSub, Nat.reduceLeDiff, Nat.reduceBNe, Nat.reduceBEq, Nat.reduceBeqDiff, List.range, List.range.loop, gl0, Tryz.ntmps109, Tryz.results109]
  refine drawI [2, 4, 1] (by kernel_rfl) ?_
  simp (config := {dsimp := false}) only [↓vp0, vz, vn, nq, tys, cellD, wideIR, if_true, if_false, implies_true, forall_const, ne_eq, reduceIte, reduceCtorEq, Nat.reduceEqDiff, Nat.reduceAdd, Nat.reduceMul, Nat.reduceLT, Nat.reduceSub, Nat.reduceLeDiff, Nat.reduceBNe, Nat.reduceBEq, Nat.reduceBeqDiff, List.range, List.range.loop, gl0, Tryz.ntmps109, Tryz.results109, PF.toR, givesIf, spec_turned, sp_turned, c_turned, b_turned]
  refine drawI [2, 4, 5] (by kernel_rfl) ?_
  simp (config := {dsimp := false}) only [↓vp0, vz, vn, nq, tys, cellD, wideIR, if_true, if_false, implies_true, forall_const, ne_eq, reduceIte, reduceCtorEq, Nat.reduceEqDiff, Nat.reduceAdd, Nat.reduceMul, Nat.reduceLT, Nat.reduceSub, Nat.reduceLeDiff, Nat.reduceBNe, Nat.reduceBEq, Nat.reduceBeqDiff, List.range, List.range.loop, gl0, Tryz.ntmps109, Tryz.results109, PF.toR, givesIf, spec_turned, sp_turned, c_turned, b_turned]
  rfl
theorem be_take (n : Int) (i : Nat) (h : i < 8) : (beBytes n).take (i + 1) = (beBytes n).take i ++ [IntKind.wrap .u8 (shrI .u64 (shlI .u64 (IntKind.wrap .u64 n) 3) (56 - 8 * (i : Int)))] := by
  match i, h with
  | 0, _ => rfl
  | 1, _ => rfl
  | 2, _ => rfl
  | 3, _ => rfl
  | 4, _ => rfl
  | 5, _ => rfl
  | 6, _ => rfl
  | 7, _ => rfl
theorem c_closing : Contract E 102 := by
  refine contract_seeT hE hgl (show E.P.funcs[102]? = some Tryz.f102 from Tryz.func102) rfl (p := sp_closing) (fun _ _ _ => rfl) ?_
  intro args hv
  unfold sp_closing at hv ⊢
  split at hv
  case h_2 => exact hv.elim
  rename_i n
  refine ⟨by simp, Nat.le_of_ble_eq_true rfl, ?_⟩
  simp (config := {dsimp := false}) only [↓vp0, vz, vn, nq, tys, cellD, wideIR, if_true, if_false, implies_true, forall_const, ne_eq, reduceIte, reduceCtorEq, Nat.reduceEqDiff, Nat.reduceAdd, Nat.reduceMul, Nat.reduceLT, Nat.reduceSub, Nat.reduceLeDiff, Nat.reduceBNe, Nat.reduceBEq, Nat.reduceBeqDiff, List.range, List.range.loop, gl0, Tryz.ntmps102, Tryz.results102]
  simp only [givesIf] at hv
  have hm : n.tmod 64 = n % 64 := Int.tmod_eq_emod_of_nonneg hv.1
  have hp : (IntKind.wrap .i64 (119 - n.tmod 64)).tmod 64 = (119 - n % 64) % 64 := by
    rw [hm, IntWalk.i64_in _ (by omega), Int.tmod_eq_emod_of_nonneg (by omega)]
  have hpad : ((IntKind.wrap .i64 (119 - n.tmod 64)).tmod 64).toNat = pad n := by rw [hp]; rfl
  have hp0 : 0 ≤ (IntKind.wrap .i64 (119 - n.tmod 64)).tmod 64 := by rw [hp]; omega
  have hp1 : pad n < 64 := by unfold pad; omega
  rw [hpad]
  refine ⟨by decide, by decide, by simp; omega, fun kk m e => by cases e; exact hp0, ?_⟩
  refine loopI (Fin 9) (fun i => [(5, .int .i64 (56 - 8 * (i.1 : Int))), (4, .sli (.tok 32) .u8 (128 :: List.replicate (pad n) 0 ++ (beBytes n).take i.1)), (0, .int .i64 n)]) (fun i => ⟨[], [(32, (1 + pad n + i.1, 1))], 44⟩) (fun i => 8 - i.1) 0 (fun _ => rfl) ?_ ?_
  · simp [Wk, wkSl, wkD, wkBs, wkTs, look, D.under, underO, S.tok]
  rintro ⟨i, hi⟩
  simp (config := {dsimp := false}) only [↓vp0, vz, vn, nq, tys, cellD, wideIR, if_true, if_false, implies_true, forall_const, ne_eq, reduceIte, reduceCtorEq, Nat.reduceEqDiff, Nat.reduceAdd, Nat.reduceMul, Nat.reduceLT, Nat.reduceSub, Nat.reduceLeDiff, Nat.reduceBNe, Nat.reduceBEq, Nat.reduceBeqDiff, List.range, List.range.loop, gl0, Tryz.ntmps102, Tryz.results102]
  have hbl : (beBytes n).length = 8 := rfl
  refine ⟨fun h => ?_, fun h => ?_⟩
  · have h := of_decide_eq_true h
    have hi8 : i < 8 := by omega
    have hlen : (List.replicate (pad n) (0 : Int) ++ (beBytes n).take i).length = pad n + i := by simp; omega
    refine ⟨by decide, h, by rw [hlen]; simp; omega, by rw [hlen]; omega, ⟨i + 1, by omega⟩, ?_, by simp only; omega⟩
    have e1 : IntKind.wrap .i64 (56 - 8 * (i : Int) - 8) = 56 - 8 * ((i : Int) + 1) := by rw [IntWalk.i64_in _ (by omega)]; omega
    simp [Wk, wkSl, wkD, wkBs, wkTs, look, D.under, underO, S.tok, e1, be_take n i hi8]
    omega
  · have h := of_decide_eq_false h
    obtain rfl : i = 8 := by omega
    rfl
end Go.Vi.CZ
end

section
set_option linter.unusedVariables false
set_option linter.unusedSimpArgs false
set_option maxHeartbeats 0
set_option maxRecDepth 20000
namespace Go.Vi.CZ
open Go.Proofs

theorem c_numbers : Contract E 108 := by
  refine contract_boxT hE hgl (show E.P.funcs[108]? = some Tryz.f108 from Tryz.func108) rfl (p := (sp_numbers 111)) (fun _ _ _ => rfl) ?_
  intro args ds tv hv hdl htl
  unfold sp_numbers at hv ⊢
  split at hv
  case h_2 => exact hv.elim
  rename_i b
  refine ⟨by simp, Nat.le_of_ble_eq_true rfl, ?_⟩
  simp (config := {dsimp := false}) only [↓vp0, vz, vn, nq, tys, cellD, wideIR, if_true, if_false, implies_true, forall_const, ne_eq, reduceIte, reduceCtorEq, Nat.reduceEqDiff, Nat.reduceAdd, Nat.reduceMul, Nat.reduceLT, Nat.reduceSub, Nat.reduceLeDiff, Nat.reduceBNe, Nat.reduceBEq, Nat.reduceBeqDiff, List.range, List.range.loop, gl0, Tryz.ntmps108, Tryz.results108, retB, vb]
  exact ⟨[20, 8, 16], [], [], ⟨rfl, rfl⟩, ⟨rfl, rfl⟩, ⟨by decide, by decide⟩, by simp, rfl, rfl, ⟨_, rfl, rfl⟩, ⟨_, rfl, rfl⟩, id rfl⟩
theorem c_next : Contract E 111 := by
  refine contract_boxT hE hgl (show E.P.funcs[111]? = some Tryz.f111 from Tryz.func111) rfl (p := sp_next) (fun _ _ _ => rfl) ?_
  intro args ds tv hv hdl htl
  unfold sp_next at hv ⊢
  split at hv
  case h_2 => exact hv.elim
  rename_i n b ws
  refine ⟨by simp, Nat.le_of_ble_eq_true rfl, ?_⟩
  simp (config := {dsimp := false}) only [↓vp0, vz, vn, nq, tys, cellD, wideIR, if_true, if_false, implies_true, forall_const, ne_eq, reduceIte, reduceCtorEq, Nat.reduceEqDiff, Nat.reduceAdd, Nat.reduceMul, Nat.reduceLT, Nat.reduceSub, Nat.reduceLeDiff, Nat.reduceBNe, Nat.reduceBEq, Nat.reduceBeqDiff, List.range, List.range.loop, gl0, Tryz.ntmps111, Tryz.results111, retB, vb]
  obtain ⟨⟨h0, h64⟩, hb, hw⟩ := hv
  refine ⟨fun h => ?_, fun h => ?_⟩
  · have h := of_decide_eq_true h
    have e4 : IntKind.wrap .i64 (4 * n) = 4 * n := IntWalk.i64_in _ (by omega)
    have ht : List.take (b.length : Int).toNat b = b := List.take_of_length_le (by omega)
    rw [e4, ht]
    refine ⟨by omega, by omega, Int.le_refl _, ?_⟩
    refine drawI [4, 0, 1, 2] (by kernel_rfl) ?_
    simp (config := {dsimp := false}) only [↓vp0, vz, vn, nq, tys, cellD, wideIR, if_true, if_false, implies_true, forall_const, ne_eq, reduceIte, reduceCtorEq, Nat.reduceEqDiff, Nat.reduceAdd, Nat.reduceMul, Nat.reduceLT, Nat.reduceSub, Nat.reduceLeDiff, Nat.reduceBNe, Nat.reduceBEq, Nat.reduceBeqDiff, List.range, List.range.loop, gl0, Tryz.ntmps111, Tryz.results111, retB, vb]
    have hd : ∀ j, (List.drop (4 * n).toNat b).getD j 0 = b.getD (4 * n.toNat + j) 0 := by
      intro j
      rw [show (4 * n).toNat = 4 * n.toNat by omega]
      simp [List.getD]
    have hdl2 : ((List.drop (4 * n).toNat b).length : Int) ≥ 4 := by simp; omega
    have e1 : IntKind.wrap .i64 (n + 1) = n + 1 := IntWalk.i64_in _ (by omega)
    have e2 : IntKind.wrap .i64 (n + 1 - 1) = n := by rw [IntWalk.i64_in _ (by omega)]; omega
    have hgs : ∀ x, (ws.set n.toNat x).getD n.toNat 0 = x := by intro x; simp [List.getD, List.getElem?_set_self (show n.toNat < ws.length by omega)]
    have hn16 : n.toNat < 16 := by omega
    have hnx : nextP b ws n.toNat = wordP b n.toNat := if_pos hn16
    simp only [hd, e1, e2, hgs, hnx, show Int.toNat 3 = 3 from rfl, show Int.toNat 2 = 2 from rfl, show Int.toNat 1 = 1 from rfl, show Int.toNat 0 = 0 from rfl, Nat.add_zero]
    refine ⟨by decide, by omega, by decide, by omega, by decide, by decide, by omega, by decide, by decide, by omega, by decide, by omega, by omega, by kernel_rfl, by omega, by omega, ?_⟩
    exact ⟨[], [], [], ⟨rfl, rfl⟩, ⟨rfl, rfl⟩, ⟨by simp, by simp⟩, by simp, rfl, rfl, ⟨_, rfl, rfl⟩, ⟨_, rfl, rfl⟩, id rfl⟩
  · have h := of_decide_eq_false h
    refine drawI [0, 1, 2] (by kernel_rfl) ?_
    simp (config := {dsimp := false}) only [↓vp0, vz, vn, nq, tys, cellD, wideIR, if_true, if_false, implies_true, forall_const, ne_eq, reduceIte, reduceCtorEq, Nat.reduceEqDiff, Nat.reduceAdd, Nat.reduceMul, Nat.reduceLT, Nat.reduceSub, Nat.reduceLeDiff, Nat.reduceBNe, Nat.reduceBEq, Nat.reduceBeqDiff, List.range, List.range.loop, gl0, Tryz.ntmps111, Tryz.results111, retB, vb]
    have e1 : IntKind.wrap .i64 (n + 1) = n + 1 := IntWalk.i64_in _ (by omega)
    have e2 : IntKind.wrap .i64 (n + 1 - 1) = n := by rw [IntWalk.i64_in _ (by omega)]; omega
    have e15 : IntKind.wrap .i64 (n - 15) = n - 15 := IntWalk.i64_in _ (by omega)
    have e3 : IntKind.wrap .i64 (n - 2) = n - 2 := IntWalk.i64_in _ (by omega)
    have e16 : IntKind.wrap .i64 (n - 16) = n - 16 := IntWalk.i64_in _ (by omega)
    have e7 : IntKind.wrap .i64 (n - 7) = n - 7 := IntWalk.i64_in _ (by omega)
    rw [e15, e3]
    refine ⟨by omega, by omega, by omega, by omega, ?_⟩
    refine drawI [0, 1, 2, 5, 6] (by kernel_rfl) ?_
    simp (config := {dsimp := false}) only [↓vp0, vz, vn, nq, tys, cellD, wideIR, if_true, if_false, implies_true, forall_const, ne_eq, reduceIte, reduceCtorEq, Nat.reduceEqDiff, Nat.reduceAdd, Nat.reduceMul, Nat.reduceLT, Nat.reduceSub, Nat.reduceLeDiff, Nat.reduceBNe, Nat.reduceBEq, Nat.reduceBeqDiff, List.range, List.range.loop, gl0, Tryz.ntmps111, Tryz.results111, retB, vb, PF.toR, gives, givesIf, e16, e7, spec_turned, sp_turned, c_turned, b_turned]
    have hgs : ∀ x, (ws.set n.toNat x).getD n.toNat 0 = x := by intro x; simp [List.getD, List.getElem?_set_self (show n.toNat < ws.length by omega)]
    have n15 : (n - 15).toNat = n.toNat - 15 := by omega
    have n2 : (n - 2).toNat = n.toNat - 2 := by omega
    have n16 : (n - 16).toNat = n.toNat - 16 := by omega
    have n7 : (n - 7).toNat = n.toNat - 7 := by omega
    have nn : ¬ n.toNat < 16 := by omega
    have hnx : nextP b ws n.toNat = _ := if_neg nn
    simp only [e1, e2, hgs, hnx, n15, n2, n16, n7]
    refine ⟨by omega, by omega, by decide, by omega, by omega, by decide, by omega, by omega, by kernel_rfl, by omega, by omega, ?_⟩
    exact ⟨[], [], [], ⟨rfl, rfl⟩, ⟨rfl, rfl⟩, ⟨by simp, by simp⟩, by simp, rfl, rfl, ⟨_, rfl, rfl⟩, ⟨_, rfl, rfl⟩, id rfl⟩
end Go.Vi.CZ
end

section
set_option linter.unusedVariables false
set_option linter.unusedSimpArgs false
set_option maxHeartbeats 0
set_option maxRecDepth 20000
namespace Go.Vi.CZ
open Go.Proofs

theorem nextP_len (b s : List Int) : ∀ n, (runP b s n).1.length = 64
  | 0 => rfl
  | n + 1 => by simp [runP, nextP_len b s n]
theorem eight (l : List Int) (h : l.length = 8) : l = [l.getD 0 0, l.getD 1 0, l.getD 2 0, l.getD 3 0, l.getD 4 0, l.getD 5 0, l.getD 6 0, l.getD 7 0] := by
  match l, h with
  | [a, b, c, d, e, f, g, i], _ => rfl
theorem c_change : Contract E 103 := by
  refine contract_seeT hE hgl (show E.P.funcs[103]? = some Tryz.f103 from Tryz.func103) rfl (p := sp_change) (fun _ _ _ => rfl) ?_
  intro args hv
  unfold sp_change at hv ⊢
  split at hv
  case h_2 => exact hv.elim
  rename_i a b c d e f g h x
  refine ⟨by simp, Nat.le_of_ble_eq_true rfl, ?_⟩
  simp only [givesIf] at hv
  simp (config := {dsimp := false}) only [↓vp0, vz, vn, nq, tys, cellD, wideIR, if_true, if_false, implies_true, forall_const, ne_eq, reduceIte, reduceCtorEq, Nat.reduceEqDiff, Nat.reduceAdd, Nat.reduceMul, Nat.reduceLT, Nat.reduceSub, Nat.reduceLeDiff, Nat.reduceBNe, Nat.reduceBEq, Nat.reduceBeqDiff, List.range, List.range.loop, gl0, Tryz.ntmps103, Tryz.results103]
  refine drawX [1, 2, 4] [(1, [2, 3]), (3, [0, 1, 2])] [] (by kernel_rfl) (wild_of rfl) ?_
  simp (config := {dsimp := false}) only [↓vp0, vz, vn, nq, tys, cellD, wideIR, if_true, if_false, implies_true, forall_const, ne_eq, reduceIte, reduceCtorEq, Nat.reduceEqDiff, Nat.reduceAdd, Nat.reduceMul, Nat.reduceLT, Nat.reduceSub, Nat.reduceLeDiff, Nat.reduceBNe, Nat.reduceBEq, Nat.reduceBeqDiff, List.range, List.range.loop, gl0, Tryz.ntmps103, Tryz.results103, vb, ↓vy0, vx0, spec_numbers, sp_numbers, c_numbers, b_numbers]
  refine ⟨okUps_of (by kernel_rfl) rfl, okUps_of (by kernel_rfl) rfl, okUps_all rfl (by kernel_rfl), ?_⟩
  refine loopI (Fin 65) (fun i => [(13, .int .i64 (i.1 : Int)), (12, .arr .u32 64 kList), (5, .fn 111 [.bp 12 0, .bp 13 0, .bp 14 0]), (6, .bp 20 0), (2, .bp 0 0), (4, .bp 4 0)])
    (fun i => ⟨[(0, st8 [a, b, c, d, e, f, g, h]), (4, st8 []), (12, .int .i64 (i.1 : Int)), (13, .sli .no .u8 x), (14, .arr .u32 64 (runP x [a, b, c, d, e, f, g, h] i.1).1), (20, st8 (runP x [a, b, c, d, e, f, g, h] i.1).2)], [], 40⟩) (fun i => 64 - i.1) 0 (fun _ => rfl) ?_ ?_
  · exact ⟨⟨wkD_eq rfl, rfl, wkD_eq rfl, rfl, wkD_eq rfl, rfl, wkD_eq rfl, rfl, wkD_eq rfl, rfl, wkD_eq rfl, rfl, trivial⟩, ⟨rfl, Nat.le_of_ble_eq_true rfl, rfl, rfl, Nat.le_of_ble_eq_true rfl, rfl, rfl, Nat.le_of_ble_eq_true rfl, rfl, rfl, Nat.le_of_ble_eq_true rfl, rfl, rfl, Nat.le_of_ble_eq_true rfl, rfl, rfl, Nat.le_of_ble_eq_true rfl, rfl, trivial⟩, trivial⟩
  rintro ⟨i, hi⟩
  simp (config := {dsimp := false}) only [↓vp0, vz, vn, nq, tys, cellD, wideIR, if_true, if_false, implies_true, forall_const, ne_eq, reduceIte, reduceCtorEq, Nat.reduceEqDiff, Nat.reduceAdd, Nat.reduceMul, Nat.reduceLT, Nat.reduceSub, Nat.reduceLeDiff, Nat.reduceBNe, Nat.reduceBEq, Nat.reduceBeqDiff, List.range, List.range.loop, gl0, Tryz.ntmps103, Tryz.results103, st8]
  refine ⟨fun hh => ?_, fun hh => ?_⟩
  · have hh := of_decide_eq_true hh
    have hw := nextP_len x [a, b, c, d, e, f, g, h] i
    refine ⟨by omega, by omega, ?_⟩
    refine drawX [2, 4, 5, 6, 8, 12, 13] [(3, [0, 1])] [(3, [12, 13, 14])] (by kernel_rfl) (wild_of rfl) ?_
    simp (config := {dsimp := false}) only [↓vp0, vz, vn, nq, tys, cellD, wideIR, if_true, if_false, implies_true, forall_const, ne_eq, reduceIte, reduceCtorEq, Nat.reduceEqDiff, Nat.reduceAdd, Nat.reduceMul, Nat.reduceLT, Nat.reduceSub, Nat.reduceLeDiff, Nat.reduceBNe, Nat.reduceBEq, Nat.reduceBeqDiff, List.range, List.range.loop, gl0, Tryz.ntmps103, Tryz.results103, vb, ↓vy0, vx0, PF.toR, gives, u32s, roundI, spec_next, sp_next, c_next, b_next, spec_round, sp_round, c_round, b_round]
    refine ⟨by omega, by omega, hv, hw, okUps_of (by kernel_rfl) rfl, okUps_all rfl (by kernel_rfl), ⟨i + 1, by omega⟩, ⟨⟨wkD_eq ?_, rfl, wkD_eq rfl, rfl, wkD_eq rfl, rfl, wkD_eq rfl, rfl, wkD_eq rfl, rfl, wkD_eq rfl, rfl, trivial⟩, ⟨rfl, Nat.le_of_ble_eq_true rfl, rfl, rfl, Nat.le_of_ble_eq_true rfl, rfl, rfl, Nat.le_of_ble_eq_true rfl, rfl, rfl, Nat.le_of_ble_eq_true rfl, rfl, rfl, Nat.le_of_ble_eq_true rfl, rfl, rfl, Nat.le_of_ble_eq_true rfl, rfl, trivial⟩, trivial⟩, by (try simp only); omega⟩
    exact some_i64 (by (try simp only); omega)
  · have hh := of_decide_eq_false hh
    obtain rfl : i = 64 := by omega
    simp (config := {dsimp := false}) only [↓vp0, vz, vn, nq, tys, cellD, wideIR, if_true, if_false, implies_true, forall_const, ne_eq, reduceIte, reduceCtorEq, Nat.reduceEqDiff, Nat.reduceAdd, Nat.reduceMul, Nat.reduceLT, Nat.reduceSub, Nat.reduceLeDiff, Nat.reduceBNe, Nat.reduceBEq, Nat.reduceBeqDiff, List.range, List.range.loop, gl0, Tryz.ntmps103, Tryz.results103, vb, PF.toR, gives, u32s, spec_plus, sp_plus, c_plus, b_plus]
    rfl
theorem closingI_len (n : Int) : (closingI n).length = pad n + 9 := by simp [closingI]; rfl
theorem paddedP_len (gone : Int) (r : List Int) (h : r.length < 1000000000) (h0 : 0 ≤ gone) (h1 : gone < 1000000000) (h2 : gone % 64 = 0) : ∃ m, (paddedP gone r).length = 64 * m ∧ m < 16000000 := by
  refine ⟨(paddedP gone r).length / 64, ?_, ?_⟩ <;> simp [paddedP, closingI_len] <;> unfold pad <;> omega
theorem changeP_len (s b : List Int) : (changeP s b).length = 8 := by simp [changeP, plusL]
theorem blocksP_len (all s : List Int) (h : s.length = 8) : ∀ i, (blocksP all s i).length = 8
  | 0 => h
  | i + 1 => changeP_len _ _
theorem outP_len (s : List Int) : (outP s).length = 32 := by simp [outP]
theorem set4 (L : List Int) (j : Nat) (hL : L.length = 32) (hj : j < 8) (a b c d : Int) (ha : L[4 * j]? = some a) (hb : L[4 * j + 1]? = some b) (hc : L[4 * j + 2]? = some c) (hd : L[4 * j + 3]? = some d) :
    ((((L.take (4 * j) ++ List.replicate (32 - 4 * j) 0).set (4 * j) a).set (4 * j + 1) b).set (4 * j + 2) c).set (4 * j + 3) d = L.take (4 * (j + 1)) ++ List.replicate (32 - 4 * (j + 1)) 0 := by
  have hT : (L.take (4 * j)).length = 4 * j := by simp; omega
  have e1 : 4 * (j + 1) = 4 * j + 1 + 1 + 1 + 1 := by omega
  have e2 : 32 - 4 * j = (32 - (4 * j + 1 + 1 + 1 + 1)) + 1 + 1 + 1 + 1 := by omega
  rw [e2, e1]
  simp only [List.replicate_succ]
  rw [List.set_append_right _ _ (by omega), List.set_append_right _ _ (by omega), List.set_append_right _ _ (by omega), List.set_append_right _ _ (by omega), hT]
  simp only [Nat.sub_self, List.set_cons_zero, show 4 * j + 1 - 4 * j = 1 by omega, show 4 * j + 2 - 4 * j = 2 by omega, show 4 * j + 3 - 4 * j = 3 by omega, List.set_cons_succ]
  simp only [List.take_add_one, ha, hb, hc, hd, Option.toList, List.append_assoc, List.cons_append, List.nil_append]
theorem outP_at (s : List Int) (j r : Nat) (hj : j < 8) (hr : r < 4) : (outP s)[4 * j + r]? = some (IntKind.wrap .u8 (if r = 3 then s.getD j 0 else shrI .u32 (s.getD j 0) (24 - 8 * (r : Int)))) := by
  have h1 : (4 * j + r) % 4 = r := by omega
  have h2 : (4 * j + r) / 4 = j := by omega
  simp only [outP, List.getElem?_map, List.getElem?_range (show 4 * j + r < 32 by omega), Option.map_some, h1, h2]
theorem c_digest : Contract E 94 := by
  refine contract_seeT hE hgl (show E.P.funcs[94]? = some Tryz.f94 from Tryz.func94) rfl (p := sp_digest) (fun _ _ _ => rfl) ?_
  intro args hv
  unfold sp_digest at hv ⊢
  split at hv
  case h_2 => exact hv.elim
  rename_i a b c d e f g h n x
  refine ⟨by simp, Nat.le_of_ble_eq_true rfl, ?_⟩
  simp only [givesIf] at hv
  obtain ⟨hx, h0', h1, h2⟩ := hv
  obtain ⟨m, hm, hm2⟩ := paddedP_len n x hx h0' h1 h2
  have e1 : IntKind.wrap .i64 (n + (x.length : Int)) = n + x.length := IntWalk.i64_in _ (by omega)
  simp (config := {dsimp := false}) only [↓vp0, vz, vn, nq, tys, cellD, wideIR, if_true, if_false, implies_true, forall_const, ne_eq, reduceIte, reduceCtorEq, Nat.reduceEqDiff, Nat.reduceAdd, Nat.reduceMul, Nat.reduceLT, Nat.reduceSub, Nat.reduceLeDiff, Nat.reduceBNe, Nat.reduceBEq, Nat.reduceBeqDiff, List.range, List.range.loop, gl0, Tryz.ntmps94, Tryz.results94, PF.toR, gives, givesIf, e1, spec_closing, sp_closing, c_closing, b_closing]
  have hpd : x ++ 128 :: (List.replicate (pad (n + ↑x.length)) 0 ++ beBytes (n + ↑x.length)) = paddedP n x := by simp [paddedP, closingI]
  have hlen : x.length + ((List.replicate (pad (n + ↑x.length)) (0 : Int) ++ beBytes (n + ↑x.length)).length + 1) = (paddedP n x).length := by rw [← hpd]; simp
  have hlen2 : x.length ≤ (paddedP n x).length := by rw [← hlen]; omega
  rw [hpd, hlen]
  refine ⟨by omega, by omega, by omega, by simp, by omega, ?_⟩
  generalize hst : [a, b, c, d, e, f, g, h] = s0
  have hs0 : s0.length = 8 := by rw [← hst]; rfl
  refine loopI (Fin (m + 1)) (fun i => [(7, .sli .no .u8 ((paddedP n x).drop (64 * i.1))), (3, .bp 0 0), (6, .bp 4 0)]) (fun i => ⟨[(0, st8 (blocksP (paddedP n x) s0 i.1)), (4, .arr .u8 32 (List.replicate 32 0))], [], 48⟩) (fun i => m - i.1) 0 (fun _ => rfl) ?_ ?_
  · refine ⟨⟨.inr ⟨_, rfl⟩, rfl, wkD_eq rfl, rfl, wkD_eq rfl, rfl, trivial⟩, ⟨?_, Nat.le_of_ble_eq_true rfl, rfl, rfl, Nat.le_of_ble_eq_true rfl, rfl, trivial⟩, trivial⟩
    subst hst
    rfl
  rintro ⟨i, hi⟩
  simp (config := {dsimp := false}) only [↓vp0, vz, vn, nq, tys, cellD, wideIR, if_true, if_false, implies_true, forall_const, ne_eq, reduceIte, reduceCtorEq, Nat.reduceEqDiff, Nat.reduceAdd, Nat.reduceMul, Nat.reduceLT, Nat.reduceSub, Nat.reduceLeDiff, Nat.reduceBNe, Nat.reduceBEq, Nat.reduceBeqDiff, List.range, List.range.loop, gl0, Tryz.ntmps94, Tryz.results94, PF.toR, givesIf, st8, u32s, spec_change, sp_change, c_change, b_change]
  have hdl : ((paddedP n x).drop (64 * i)).length = 64 * (m - i) := by simp; omega
  rw [hdl]
  have hb8 := blocksP_len (paddedP n x) s0 hs0 i
  refine ⟨fun hh => ?_, fun hh => ?_⟩
  · have hh := of_decide_eq_true hh
    have hlt : i < m := by omega
    refine ⟨by omega, by decide, by omega, Int.le_refl _, ⟨i + 1, by omega⟩, ⟨⟨wkD_eq ?_, rfl, wkD_eq rfl, rfl, wkD_eq rfl, rfl, trivial⟩, ⟨?_, Nat.le_of_ble_eq_true rfl, rfl, rfl, Nat.le_of_ble_eq_true rfl, rfl, trivial⟩, trivial⟩, by (try simp only); omega⟩
    · refine some_sli ?_
      rw [List.take_of_length_le (by omega), List.drop_drop]
      rfl
    · exact congrArg (fun l => some (st8 (changeP l ((paddedP n x).drop (64 * i))))) (eight _ hb8).symm
  · have hh := of_decide_eq_false hh
    obtain rfl : i = m := by omega
    generalize hbs : blocksP (paddedP n x) s0 i = st at hb8 ⊢
    refine loopI (Fin 9) (fun j => [(44, .int .i64 (j.1 : Int)), (43, .arr .u32 8 [st.getD 0 0, st.getD 1 0, st.getD 2 0, st.getD 3 0, st.getD 4 0, st.getD 5 0, st.getD 6 0, st.getD 7 0]), (6, .bp 4 0)]) (fun j => ⟨[(4, .arr .u8 32 ((outP st).take (4 * j.1) ++ List.replicate (32 - 4 * j.1) 0))], [], 132⟩) (fun j => 8 - j.1) 0 (fun _ => rfl) ?_ ?_
    · exact ⟨⟨wkD_eq rfl, rfl, wkD_eq rfl, rfl, wkD_eq rfl, rfl, trivial⟩, ⟨rfl, Nat.le_of_ble_eq_true rfl, rfl, trivial⟩, trivial⟩
    rw [← eight _ hb8]
    rintro ⟨j, hj⟩
    simp (config := {dsimp := false}) only [↓vp0, vz, vn, nq, tys, cellD, wideIR, if_true, if_false, implies_true, forall_const, ne_eq, reduceIte, reduceCtorEq, Nat.reduceEqDiff, Nat.reduceAdd, Nat.reduceMul, Nat.reduceLT, Nat.reduceSub, Nat.reduceLeDiff, Nat.reduceBNe, Nat.reduceBEq, Nat.reduceBeqDiff, List.range, List.range.loop, gl0, Tryz.ntmps94, Tryz.results94]
    refine ⟨fun hh => ?_, fun hh => ?_⟩
    · have hh := of_decide_eq_true hh
      have e4 : IntKind.wrap .i64 (4 * (j : Int)) = 4 * j := IntWalk.i64_in _ (by omega)
      rw [e4]
      have e5 : IntKind.wrap .i64 (4 * (j : Int) + 1) = 4 * j + 1 := IntWalk.i64_in _ (by omega)
      have e6 : IntKind.wrap .i64 (4 * (j : Int) + 2) = 4 * j + 2 := IntWalk.i64_in _ (by omega)
      have e7 : IntKind.wrap .i64 (4 * (j : Int) + 3) = 4 * j + 3 := IntWalk.i64_in _ (by omega)
      rw [e5, e6, e7]
      refine ⟨by omega, by omega, by decide, by decide, by decide, by omega, by omega, by omega, by omega, by omega, by omega, by omega, by omega, ⟨j + 1, by omega⟩, ⟨⟨wkD_eq ?_, rfl, wkD_eq rfl, rfl, wkD_eq rfl, rfl, trivial⟩, ⟨?_, Nat.le_of_ble_eq_true rfl, rfl, trivial⟩, trivial⟩, by (try simp only); omega⟩
      · exact some_i64 (by (try simp only); omega)
      · refine some_arr ?_
        rw [show (4 * (j : Int) + 1).toNat = 4 * j + 1 by omega, show (4 * (j : Int) + 2).toNat = 4 * j + 2 by omega, show (4 * (j : Int) + 3).toNat = 4 * j + 3 by omega, show (4 * (j : Int)).toNat = 4 * j by omega]
        exact set4 (outP st) j (outP_len st) (by omega) _ _ _ _ (outP_at st j 0 (by omega) (by omega)) (outP_at st j 1 (by omega) (by omega)) (outP_at st j 2 (by omega) (by omega)) (outP_at st j 3 (by omega) (by omega))
    · have hh := of_decide_eq_false hh
      obtain rfl : j = 8 := by omega
      subst hbs hst
      have : (paddedP n x).length / 64 = i := by omega
      rw [List.take_of_length_le (by rw [outP_len]; decide)]
      simp [digestP, this, givesIf]
theorem c_sum : Contract E 69 := by
  refine contract_seeT hE hgl (show E.P.funcs[69]? = some Tryz.f69 from Tryz.func69) rfl (p := sp_sum) (fun _ _ _ => rfl) ?_
  intro args hv
  unfold sp_sum at hv ⊢
  split at hv
  case h_2 => exact hv.elim
  rename_i b
  refine ⟨by simp, Nat.le_of_ble_eq_true rfl, ?_⟩
  simp only [givesIf] at hv
  simp (config := {dsimp := false}) only [↓vp0, vz, vn, nq, tys, cellD, wideIR, if_true, if_false, implies_true, forall_const, ne_eq, reduceIte, reduceCtorEq, Nat.reduceEqDiff, Nat.reduceAdd, Nat.reduceMul, Nat.reduceLT, Nat.reduceSub, Nat.reduceLeDiff, Nat.reduceBNe, Nat.reduceBEq, Nat.reduceBeqDiff, List.range, List.range.loop, gl0, Tryz.ntmps69, Tryz.results69, PF.toR, gives, givesIf, u32s, h0, spec_first, sp_first, c_first, b_first, spec_digest, sp_digest, c_digest, b_digest]
  exact ⟨hv, by decide, by decide, by decide, rfl⟩
theorem c_again : Contract E 68 := by
  refine contract_seeT hE hgl (show E.P.funcs[68]? = some Tryz.f68 from Tryz.func68) rfl (p := sp_again) (fun _ _ _ => rfl) ?_
  intro args hv
  unfold sp_again at hv ⊢
  split at hv
  case h_2 => exact hv.elim
  rename_i h
  refine ⟨by simp, Nat.le_of_ble_eq_true rfl, ?_⟩
  simp only [givesIf] at hv
  simp (config := {dsimp := false}) only [↓vp0, vz, vn, nq, tys, cellD, wideIR, if_true, if_false, implies_true, forall_const, ne_eq, reduceIte, reduceCtorEq, Nat.reduceEqDiff, Nat.reduceAdd, Nat.reduceMul, Nat.reduceLT, Nat.reduceSub, Nat.reduceLeDiff, Nat.reduceBNe, Nat.reduceBEq, Nat.reduceBeqDiff, List.range, List.range.loop, gl0, Tryz.ntmps68, Tryz.results68, PF.toR, gives, givesIf, spec_sum, sp_sum, c_sum, b_sum]
  have e : List.take ((32 : Nat) - 0 : Int).toNat (List.drop (Int.toNat 0) h) = h := by
    rw [show Int.toNat 0 = 0 from rfl, List.drop_zero]
    exact List.take_of_length_le (by rw [hv]; decide)
  rw [e]
  exact ⟨by decide, by decide, by decide, by omega, rfl⟩
theorem c_twice : Contract E 50 := by
  refine contract_seeT hE hgl (show E.P.funcs[50]? = some Tryz.f50 from Tryz.func50) rfl (p := sp_twice) (fun _ _ _ => rfl) ?_
  intro args hv
  unfold sp_twice at hv ⊢
  split at hv
  case h_2 => exact hv.elim
  rename_i b
  refine ⟨by simp, Nat.le_of_ble_eq_true rfl, ?_⟩
  simp only [givesIf] at hv
  simp (config := {dsimp := false}) only [↓vp0, vz, vn, nq, tys, cellD, wideIR, if_true, if_false, implies_true, forall_const, ne_eq, reduceIte, reduceCtorEq, Nat.reduceEqDiff, Nat.reduceAdd, Nat.reduceMul, Nat.reduceLT, Nat.reduceSub, Nat.reduceLeDiff, Nat.reduceBNe, Nat.reduceBEq, Nat.reduceBeqDiff, List.range, List.range.loop, gl0, Tryz.ntmps50, Tryz.results50, PF.toR, gives, givesIf, spec_sum, sp_sum, c_sum, b_sum, spec_again, sp_again, c_again, b_again]
  exact ⟨hv, outP_len _⟩
end Go.Vi.CZ
end

section
set_option linter.unusedVariables false
set_option linter.unusedSimpArgs false
set_option maxHeartbeats 0
set_option maxRecDepth 20000
namespace Go.Vi.CZ
open Go.Proofs

theorem put_0 {b : List Int} {t : TxP} {f : Bool} (h : checkP t = 0) : putV b t f = .tup [.sli .no .u8 (b ++ layI t f), .int .i64 0] := if_pos h
theorem put_e {b : List Int} {t : TxP} {f : Bool} (h : ¬ checkP t = 0) : putV b t f = .tup [.sl .full 0 [], .int .i64 (checkP t)] := if_neg h
theorem c_tput : Contract E 99 := by
  refine contract_seeT hE hgl (show E.P.funcs[99]? = some Tryz.f99 from Tryz.func99) rfl (p := sp_tput) (fun _ _ _ => rfl) ?_
  intro args hv
  unfold sp_tput at hv ⊢
  split at hv
  case h_2 => exact hv.elim
  rename_i b v is os l
  refine ⟨by simp, Nat.le_of_ble_eq_true rfl, ?_⟩
  simp only [givesIf] at hv
  obtain ⟨hok, hb⟩ := hv
  obtain ⟨t, rfl, rfl, rfl, rfl, ht, -⟩ := okT_tx hok
  have eta : (⟨t.ver, t.ins, t.outs, t.lock⟩ : TxP) = t := rfl
  have hc : okT t.ver (insD t.ins) (outsD t.outs) t.lock := hok
  obtain ⟨W, hW⟩ : ∃ W, witnessedP t = W := ⟨_, rfl⟩
  have hW' : t.ins.any hasWit = W := hW
  by_cases h : checkP t = 0
  · have hlen := lay_len ht h W
    have hd : decide (checkP t = 0) = true := decide_eq_true h
    simp (config := {dsimp := false}) only [↓vp0, vz, vn, nq, tys, cellD, wideIR, if_true, if_false, implies_true, forall_const, ne_eq, reduceIte, reduceCtorEq, Nat.reduceEqDiff, Nat.reduceAdd, Nat.reduceMul, Nat.reduceLT, Nat.reduceSub, Nat.reduceLeDiff, Nat.reduceBNe, Nat.reduceBEq, Nat.reduceBeqDiff, List.range, List.range.loop, gl0, Tryz.ntmps99, Tryz.results99, PF.toR, givesIf, eta, hd, hW, put_0 h, spec_tcheck, sp_tcheck, c_tcheck, b_tcheck]
    refine ⟨hc, ?_⟩
    refine drawX [0, 3] [] [] (by kernel_rfl) (wild_of rfl) ?_
    simp (config := {dsimp := false}) only [↓vp0, vz, vn, nq, tys, cellD, wideIR, if_true, if_false, implies_true, forall_const, ne_eq, reduceIte, reduceCtorEq, Nat.reduceEqDiff, Nat.reduceAdd, Nat.reduceMul, Nat.reduceLT, Nat.reduceSub, Nat.reduceLeDiff, Nat.reduceBNe, Nat.reduceBEq, Nat.reduceBeqDiff, List.range, List.range.loop, gl0, Tryz.ntmps99, Tryz.results99, vb, ↓vy0, vx0, PF.toR, givesIf, eta, hW', spec_twitnessed, sp_twitnessed, c_twitnessed, b_twitnessed, spec_laid, sp_laid, c_laid, b_laid]
    refine ⟨hc, hc, by simp only [List.length_append]; omega, okUps_all rfl (by kernel_rfl), ?_⟩
    rw [hW, put_0 h]
  · have hd : decide (checkP t = 0) = false := decide_eq_false h
    simp (config := {dsimp := false}) only [↓vp0, vz, vn, nq, tys, cellD, wideIR, if_true, if_false, implies_true, forall_const, ne_eq, reduceIte, reduceCtorEq, Nat.reduceEqDiff, Nat.reduceAdd, Nat.reduceMul, Nat.reduceLT, Nat.reduceSub, Nat.reduceLeDiff, Nat.reduceBNe, Nat.reduceBEq, Nat.reduceBeqDiff, List.range, List.range.loop, gl0, Tryz.ntmps99, Tryz.results99, PF.toR, givesIf, eta, hd, put_e h, spec_tcheck, sp_tcheck, c_tcheck, b_tcheck]
    exact hc
theorem c_tname : Contract E 36 := by
  refine contract_seeT hE hgl (show E.P.funcs[36]? = some Tryz.f36 from Tryz.func36) rfl (p := sp_tname) (fun _ _ _ => rfl) ?_
  intro args hv
  unfold sp_tname at hv ⊢
  split at hv
  case h_2 => exact hv.elim
  rename_i b e
  refine ⟨by simp, Nat.le_of_ble_eq_true rfl, ?_⟩
  simp only [givesIf] at hv
  by_cases h : e = 0
  · subst h
    simp (config := {dsimp := false}) only [↓vp0, vz, vn, nq, tys, cellD, wideIR, if_true, if_false, implies_true, forall_const, ne_eq, reduceIte, reduceCtorEq, Nat.reduceEqDiff, Nat.reduceAdd, Nat.reduceMul, Nat.reduceLT, Nat.reduceSub, Nat.reduceLeDiff, Nat.reduceBNe, Nat.reduceBEq, Nat.reduceBeqDiff, List.range, List.range.loop, gl0, Tryz.ntmps36, Tryz.results36, PF.toR, givesIf, eq_self, decide_true, spec_twice, sp_twice, c_twice, b_twice]
    exact hv
  · simp (config := {dsimp := false}) only [↓vp0, vz, vn, nq, tys, cellD, wideIR, if_true, if_false, implies_true, forall_const, ne_eq, reduceIte, reduceCtorEq, Nat.reduceEqDiff, Nat.reduceAdd, Nat.reduceMul, Nat.reduceLT, Nat.reduceSub, Nat.reduceLeDiff, Nat.reduceBNe, Nat.reduceBEq, Nat.reduceBeqDiff, List.range, List.range.loop, gl0, Tryz.ntmps36, Tryz.results36, PF.toR, givesIf, h, decide_false, spec_twice, sp_twice, c_twice, b_twice]
    all_goals rfl
theorem c_tfull : Contract E 85 := by
  refine contract_seeT hE hgl (show E.P.funcs[85]? = some Tryz.f85 from Tryz.func85) rfl (p := sp_tfull) (fun _ _ _ => rfl) ?_
  intro args hv
  unfold sp_tfull at hv ⊢
  split at hv
  case h_2 => exact hv.elim
  rename_i v is os l
  refine ⟨by simp, Nat.le_of_ble_eq_true rfl, ?_⟩
  simp only [givesIf] at hv
  have hok := hv
  obtain ⟨t, rfl, rfl, rfl, rfl, ht, -⟩ := okT_tx hok
  have eta : (⟨t.ver, t.ins, t.outs, t.lock⟩ : TxP) = t := rfl
  by_cases h : checkP t = 0
  · have hlen := lay_len ht h (witnessedP t)
    have hf : fullP t = sumP (sumP (layI t (witnessedP t))) := if_pos h
    simp (config := {dsimp := false}) only [↓vp0, vz, vn, nq, tys, cellD, wideIR, if_true, if_false, implies_true, forall_const, ne_eq, reduceIte, reduceCtorEq, Nat.reduceEqDiff, Nat.reduceAdd, Nat.reduceMul, Nat.reduceLT, Nat.reduceSub, Nat.reduceLeDiff, Nat.reduceBNe, Nat.reduceBEq, Nat.reduceBeqDiff, List.range, List.range.loop, gl0, Tryz.ntmps85, Tryz.results85, PF.toR, givesIf, eta, put_0 h, hf, eq_self, spec_tput, sp_tput, c_tput, b_tput, spec_tname, sp_tname, c_tname, b_tname]
    exact ⟨hok, by omega⟩
  · have hf : fullP t = List.replicate 32 0 := if_neg h
    simp (config := {dsimp := false}) only [↓vp0, vz, vn, nq, tys, cellD, wideIR, if_true, if_false, implies_true, forall_const, ne_eq, reduceIte, reduceCtorEq, Nat.reduceEqDiff, Nat.reduceAdd, Nat.reduceMul, Nat.reduceLT, Nat.reduceSub, Nat.reduceLeDiff, Nat.reduceBNe, Nat.reduceBEq, Nat.reduceBeqDiff, List.range, List.range.loop, gl0, Tryz.ntmps85, Tryz.results85, PF.toR, givesIf, eta, put_e h, hf, h, spec_tput, sp_tput, c_tput, b_tput, spec_tname, sp_tname, c_tname, b_tname]
    exact hok
end Go.Vi.CZ
end
