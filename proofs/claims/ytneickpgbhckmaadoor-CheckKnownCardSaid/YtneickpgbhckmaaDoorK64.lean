/- Lemmas for the law proved in the text whose name ends with Law. -/
import Derived.Test.YtneickpgbhckmaaDoorK63
import Derived.Test.YtneickpgbhckmaaDoorProg
import Derived.Maps.OwnSet
import Derived.Maps.OwnOps
import Derived.DeepKeys4
import Derived.WideKeyEntry
import Derived.Deep.WholeRow
import Derived.WalkKit
import Derived.Laws.Cells
import Derived.KernelRfl

section
/-
  THE REWRITINGS, in larger packs.
-/
set_option maxRecDepth 10000
namespace Go.Vi
theorem vp0 : (type_of% @a_range) ∧ (type_of% @roundQ_normal) ∧ (type_of% @roundQ_ret) ∧ (type_of% @roundQ_exit) ∧ (type_of% @roundA_normal) ∧ (type_of% @roundA_ret) ∧ (type_of% @roundA_exit) ∧ (type_of% @a_skip) ∧ (type_of% @a_exit) ∧ (type_of% @a_ret) ∧ (type_of% @a_seq) ∧ (type_of% @a_cond) ∧ (type_of% @a_block) ∧ (type_of% @a_loop) ∧ (type_of% @a_region) ∧ (type_of% @a_draw) ∧ (type_of% @a_region') ∧ (type_of% @a_draw') ∧ (type_of% @then_key) ∧ (type_of% @with_key) ∧ (type_of% @withY_key) ∧ (type_of% @cond_key) ∧ (type_of% @one_key) ∧ (type_of% @thenQ_normal) ∧ (type_of% @thenQ_exit) ∧ (type_of% @thenQ_ret) ∧ (type_of% @blockQ_normal) ∧ (type_of% @blockQ_exit) ∧ (type_of% @blockQ_ret) ∧ (type_of% @imp_tt) ∧ (type_of% @imp_ff) ∧ (type_of% @imp_tf) ∧ (type_of% @imp_ft) ∧ (type_of% @imp_tnt) ∧ (type_of% @imp_tnf) ∧ (type_of% @imp_fnt) ∧ (type_of% @imp_fnf) ∧ (type_of% @aops.eq_1) ∧ (type_of% @aops.eq_2) ∧ (type_of% @aopsD.eq_1) ∧ (type_of% @aopsD.eq_2) :=
  ⟨@a_range, @roundQ_normal, @roundQ_ret, @roundQ_exit, @roundA_normal, @roundA_ret, @roundA_exit, @a_skip, @a_exit, @a_ret, @a_seq, @a_cond, @a_block, @a_loop, @a_region, @a_draw, @a_region', @a_draw', @then_key, @with_key, @withY_key, @cond_key, @one_key, @thenQ_normal, @thenQ_exit, @thenQ_ret, @blockQ_normal, @blockQ_exit, @blockQ_ret, @imp_tt, @imp_ff, @imp_tf, @imp_ft, @imp_tnt, @imp_tnf, @imp_fnt, @imp_fnf, @aops.eq_1, @aops.eq_2, @aopsD.eq_1, @aopsD.eq_2⟩
theorem vc0 : (type_of% @List.foldl_nil.{0, 0}) ∧ (type_of% @List.foldl_cons.{0, 0}) ∧ (type_of% @Option.getD_some.{0}) ∧ (type_of% @Option.getD_none.{0}) ∧ (type_of% @true_and) ∧ (type_of% @and_true) ∧ (type_of% @List.map_cons.{0, 0}) ∧ (type_of% @List.map_nil.{0, 0}) ∧ (type_of% @List.size_toArray.{0}) ∧ (type_of% @List.length_cons.{0}) ∧ (type_of% @List.length_nil.{0}) ∧ (type_of% @Option.map_some.{0, 0}) ∧ (type_of% @Option.map_none.{0, 0}) ∧ (type_of% @Option.bind_some.{0, 0}) ∧ (type_of% @true_implies) ∧ (type_of% @Bool.false_eq_true) ∧ (type_of% @Bool.true_eq_false) ∧ (type_of% @false_implies) ∧ (type_of% @Bool.not_true) ∧ (type_of% @Bool.not_false) ∧ (type_of% @List.getElem?_cons_zero.{0}) ∧ (type_of% @List.getElem?_cons_succ.{0}) ∧ (type_of% @and_self) ∧ (type_of% @Bool.and_true) ∧ (type_of% @Bool.true_and) ∧ (type_of% @BEq.rfl.{0}) ∧ (type_of% @and_assoc) ∧ (type_of% @Option.isSome_some.{0}) ∧ (type_of% @Option.isSome_none.{0}) ∧ (type_of% @List.take_succ_cons.{0}) ∧ (type_of% @List.take_zero.{0}) ∧ (type_of% @List.set_cons_zero.{0}) ∧ (type_of% @List.set_cons_succ.{0}) ∧ (type_of% @List.forall_mem_cons.{0}) ∧ (type_of% @List.not_mem_nil.{0}) ∧ (type_of% @not_false_eq_true) ∧ (type_of% @not_true_eq_false) ∧ (type_of% @List.cons.injEq.{0}) ∧ (type_of% @Prod.mk.injEq.{0, 0}) ∧ (type_of% @List.append_nil.{0}) :=
  ⟨@List.foldl_nil.{0, 0}, @List.foldl_cons.{0, 0}, @Option.getD_some.{0}, @Option.getD_none.{0}, @true_and, @and_true, @List.map_cons.{0, 0}, @List.map_nil.{0, 0}, @List.size_toArray.{0}, @List.length_cons.{0}, @List.length_nil.{0}, @Option.map_some.{0, 0}, @Option.map_none.{0, 0}, @Option.bind_some.{0, 0}, @true_implies, @Bool.false_eq_true, @Bool.true_eq_false, @false_implies, @Bool.not_true, @Bool.not_false, @List.getElem?_cons_zero.{0}, @List.getElem?_cons_succ.{0}, @and_self, @Bool.and_true, @Bool.true_and, @BEq.rfl.{0}, @and_assoc, @Option.isSome_some.{0}, @Option.isSome_none.{0}, @List.take_succ_cons.{0}, @List.take_zero.{0}, @List.set_cons_zero.{0}, @List.set_cons_succ.{0}, @List.forall_mem_cons.{0}, @List.not_mem_nil.{0}, @not_false_eq_true, @not_true_eq_false, @List.cons.injEq.{0}, @Prod.mk.injEq.{0, 0}, @List.append_nil.{0}⟩
theorem vc1 : (type_of% @List.nil_append.{0}) ∧ (type_of% @List.cons_append.{0}) ∧ (type_of% @false_and) ∧ (type_of% @and_false) ∧ (type_of% @Bool.false_and) ∧ (type_of% @Bool.and_false) ∧ (type_of% @beq_self_eq_true.{0}) ∧ (type_of% @bne_self_eq_false.{0}) ∧ (type_of% @Bool.or_false) ∧ (type_of% @Bool.false_or) ∧ (type_of% @Bool.or_true) ∧ (type_of% @Bool.true_or) :=
  ⟨@List.nil_append.{0}, @List.cons_append.{0}, @false_and, @and_false, @Bool.false_and, @Bool.and_false, @beq_self_eq_true.{0}, @bne_self_eq_false.{0}, @Bool.or_false, @Bool.false_or, @Bool.or_true, @Bool.true_or⟩
theorem ve0 : (type_of% @look.eq_1) ∧ (type_of% @look.eq_2) ∧ (type_of% @setL.eq_1) ∧ (type_of% @setL.eq_2) ∧ (type_of% @resQ.eq_1) ∧ (type_of% @resQ.eq_2) ∧ (type_of% @resQ.eq_3) ∧ (type_of% @argSlots.eq_1) ∧ (type_of% @argSlots.eq_2) ∧ (type_of% @buildSt.eq_1) ∧ (type_of% @buildSt.eq_2) ∧ (type_of% @buildArr.eq_1) ∧ (type_of% @buildArr.eq_2) ∧ (type_of% @buildArr.eq_3) ∧ (type_of% @intsOf.eq_1) ∧ (type_of% @intsOf.eq_2) ∧ (type_of% @intsOf.eq_3) ∧ (type_of% @eqB.eq_1) ∧ (type_of% @eqB.eq_2) ∧ (type_of% @keepSl.eq_1) ∧ (type_of% @keepSl.eq_2) ∧ (type_of% @bindM.eq_1) ∧ (type_of% @bindM.eq_2) ∧ (type_of% @bindP.eq_1) ∧ (type_of% @bindP.eq_2) ∧ (type_of% @opR.eq_1) ∧ (type_of% @opR.eq_2) ∧ (type_of% @opR.eq_3) ∧ (type_of% @opR.eq_4) ∧ (type_of% @opR.eq_5) ∧ (type_of% @opR.eq_6) ∧ (type_of% @opR.eq_7) ∧ (type_of% @opR.eq_8) ∧ (type_of% @opR.eq_9) ∧ (type_of% @opR.eq_10) ∧ (type_of% @opR.eq_11) ∧ (type_of% @opR.eq_12) ∧ (type_of% @opR.eq_13) ∧ (type_of% @opR.eq_14) ∧ (type_of% @opR.eq_15) :=
  ⟨@look.eq_1, @look.eq_2, @setL.eq_1, @setL.eq_2, @resQ.eq_1, @resQ.eq_2, @resQ.eq_3, @argSlots.eq_1, @argSlots.eq_2, @buildSt.eq_1, @buildSt.eq_2, @buildArr.eq_1, @buildArr.eq_2, @buildArr.eq_3, @intsOf.eq_1, @intsOf.eq_2, @intsOf.eq_3, @eqB.eq_1, @eqB.eq_2, @keepSl.eq_1, @keepSl.eq_2, @bindM.eq_1, @bindM.eq_2, @bindP.eq_1, @bindP.eq_2, @opR.eq_1, @opR.eq_2, @opR.eq_3, @opR.eq_4, @opR.eq_5, @opR.eq_6, @opR.eq_7, @opR.eq_8, @opR.eq_9, @opR.eq_10, @opR.eq_11, @opR.eq_12, @opR.eq_13, @opR.eq_14, @opR.eq_15⟩
theorem ve1 : (type_of% @opR.eq_16) ∧ (type_of% @opR.eq_17) ∧ (type_of% @opR.eq_18) ∧ (type_of% @opR.eq_19) ∧ (type_of% @opR.eq_20) ∧ (type_of% @opR.eq_21) ∧ (type_of% @opR.eq_22) ∧ (type_of% @opR.eq_23) ∧ (type_of% @okIf.eq_1) ∧ (type_of% @ok.eq_1) ∧ (type_of% @bad.eq_1) ∧ (type_of% @ev.eq_1) ∧ (type_of% @ev.eq_2) ∧ (type_of% @ev.eq_3) ∧ (type_of% @ev.eq_4) ∧ (type_of% @ofConst.eq_1) ∧ (type_of% @ofConst.eq_2) ∧ (type_of% @ofConst.eq_3) ∧ (type_of% @ofConst.eq_4) ∧ (type_of% @ofConst.eq_5) ∧ (type_of% @ofConst.eq_6) ∧ (type_of% @ofConst.eq_7) ∧ (type_of% @ofConst.eq_8) ∧ (type_of% @putS.eq_1) ∧ (type_of% @putS.eq_2) ∧ (type_of% @updS.eq_1) ∧ (type_of% @S.upd.eq_1) ∧ (type_of% @dstOk.eq_1) ∧ (type_of% @dstOk.eq_2) ∧ (type_of% @yieldD.eq_1) ∧ (type_of% @yieldY.eq_1) ∧ (type_of% @strBin.eq_1) ∧ (type_of% @strBin.eq_2) ∧ (type_of% @strBin.eq_3) ∧ (type_of% @strBin.eq_4) ∧ (type_of% @isShift.eq_1) ∧ (type_of% @isShift.eq_2) ∧ (type_of% @isShift.eq_3) ∧ (type_of% @retQ.eq_1) ∧ (type_of% @retQ.eq_2) :=
  ⟨@opR.eq_16, @opR.eq_17, @opR.eq_18, @opR.eq_19, @opR.eq_20, @opR.eq_21, @opR.eq_22, @opR.eq_23, @okIf.eq_1, @ok.eq_1, @bad.eq_1, @ev.eq_1, @ev.eq_2, @ev.eq_3, @ev.eq_4, @ofConst.eq_1, @ofConst.eq_2, @ofConst.eq_3, @ofConst.eq_4, @ofConst.eq_5, @ofConst.eq_6, @ofConst.eq_7, @ofConst.eq_8, @putS.eq_1, @putS.eq_2, @updS.eq_1, @S.upd.eq_1, @dstOk.eq_1, @dstOk.eq_2, @yieldD.eq_1, @yieldY.eq_1, @strBin.eq_1, @strBin.eq_2, @strBin.eq_3, @strBin.eq_4, @isShift.eq_1, @isShift.eq_2, @isShift.eq_3, @retQ.eq_1, @retQ.eq_2⟩
theorem ve2 : (type_of% @retQ.eq_3) ∧ (type_of% @resD.eq_1) ∧ (type_of% @resD.eq_2) ∧ (type_of% @stripO.eq_1) ∧ (type_of% @stripO.eq_2) ∧ (type_of% @stripO.eq_3) ∧ (type_of% @convR.eq_1) ∧ (type_of% @conv2R.eq_1) ∧ (type_of% @conv2R.eq_2) ∧ (type_of% @conv2R.eq_3) ∧ (type_of% @makeR.eq_1) ∧ (type_of% @indexR.eq_1) ∧ (type_of% @indexAddrR.eq_1) ∧ (type_of% @fieldAddrR.eq_1) ∧ (type_of% @loadR.eq_1) ∧ (type_of% @storeR.eq_1) ∧ (type_of% @allocR.eq_1) ∧ (type_of% @boxR.eq_1) ∧ (type_of% @pickR.eq_1) ∧ (type_of% @pickR.eq_2) ∧ (type_of% @pickR.eq_3) ∧ (type_of% @buildR.eq_1) ∧ (type_of% @buildSliceR.eq_1) ∧ (type_of% @lenR.eq_1) ∧ (type_of% @nilCheckR.eq_1) ∧ (type_of% @nilCheckR.eq_2) ∧ (type_of% @nilCheckR.eq_3) ∧ (type_of% @nilCheckR.eq_4) ∧ (type_of% @extractR.eq_1) ∧ (type_of% @extractR.eq_2) ∧ (type_of% @funcR.eq_1) ∧ (type_of% @funcR.eq_2) ∧ (type_of% @ipSlice.eq_1) ∧ (type_of% @ipSlice.eq_2) ∧ (type_of% @sliceR.eq_1) ∧ (type_of% @appendR.eq_1) ∧ (type_of% @callR.eq_1) ∧ (type_of% @callR.eq_2) ∧ (type_of% @minR.eq_1) ∧ (type_of% @minR.eq_2) :=
  ⟨@retQ.eq_3, @resD.eq_1, @resD.eq_2, @stripO.eq_1, @stripO.eq_2, @stripO.eq_3, @convR.eq_1, @conv2R.eq_1, @conv2R.eq_2, @conv2R.eq_3, @makeR.eq_1, @indexR.eq_1, @indexAddrR.eq_1, @fieldAddrR.eq_1, @loadR.eq_1, @storeR.eq_1, @allocR.eq_1, @boxR.eq_1, @pickR.eq_1, @pickR.eq_2, @pickR.eq_3, @buildR.eq_1, @buildSliceR.eq_1, @lenR.eq_1, @nilCheckR.eq_1, @nilCheckR.eq_2, @nilCheckR.eq_3, @nilCheckR.eq_4, @extractR.eq_1, @extractR.eq_2, @funcR.eq_1, @funcR.eq_2, @ipSlice.eq_1, @ipSlice.eq_2, @sliceR.eq_1, @appendR.eq_1, @callR.eq_1, @callR.eq_2, @minR.eq_1, @minR.eq_2⟩
theorem ve3 : (type_of% @maxR.eq_1) ∧ (type_of% @maxR.eq_2) ∧ (type_of% @S.box.eq_1) ∧ (type_of% @S.tok.eq_1) ∧ (type_of% @TK.sh.eq_1) ∧ (type_of% @TK.sh.eq_2) ∧ (type_of% @TK.sh.eq_3) ∧ (type_of% @known.eq_1) ∧ (type_of% @tsize.eq_1) ∧ (type_of% @destI.eq_1) ∧ (type_of% @destI.eq_2) ∧ (type_of% @destI.eq_3) ∧ (type_of% @ownTok.eq_1) ∧ (type_of% @ownTok.eq_2) ∧ (type_of% @ownTok.eq_3) ∧ (type_of% @ownTok.eq_4) ∧ (type_of% @srcI.eq_1) ∧ (type_of% @srcI.eq_2) ∧ (type_of% @srcI.eq_3) ∧ (type_of% @srcI.eq_4) ∧ (type_of% @srcI.eq_5) ∧ (type_of% @isIn.eq_1) ∧ (type_of% @isSl.eq_1) ∧ (type_of% @isSt.eq_1) ∧ (type_of% @appendI.eq_1) ∧ (type_of% @appendI.eq_2) ∧ (type_of% @appendL.eq_1) ∧ (type_of% @appendL.eq_2) ∧ (type_of% @bnd.eq_1) ∧ (type_of% @bnd.eq_2) ∧ (type_of% @bnd.eq_3) ∧ (type_of% @aggBin.eq_1) ∧ (type_of% @aggBin.eq_2) ∧ (type_of% @aggBin.eq_3) ∧ (type_of% @nilD.eq_1) ∧ (type_of% @nilD.eq_2) ∧ (type_of% @nilD.eq_3) ∧ (type_of% @nilD.eq_4) ∧ (type_of% @isPtr.eq_1) ∧ (type_of% @fieldOf.eq_1) :=
  ⟨@maxR.eq_1, @maxR.eq_2, @S.box.eq_1, @S.tok.eq_1, @TK.sh.eq_1, @TK.sh.eq_2, @TK.sh.eq_3, @known.eq_1, @tsize.eq_1, @destI.eq_1, @destI.eq_2, @destI.eq_3, @ownTok.eq_1, @ownTok.eq_2, @ownTok.eq_3, @ownTok.eq_4, @srcI.eq_1, @srcI.eq_2, @srcI.eq_3, @srcI.eq_4, @srcI.eq_5, @isIn.eq_1, @isSl.eq_1, @isSt.eq_1, @appendI.eq_1, @appendI.eq_2, @appendL.eq_1, @appendL.eq_2, @bnd.eq_1, @bnd.eq_2, @bnd.eq_3, @aggBin.eq_1, @aggBin.eq_2, @aggBin.eq_3, @nilD.eq_1, @nilD.eq_2, @nilD.eq_3, @nilD.eq_4, @isPtr.eq_1, @fieldOf.eq_1⟩
theorem ve4 : (type_of% @sized.eq_1) ∧ (type_of% @enumS.eq_1) ∧ (type_of% @enumS.eq_2) ∧ (type_of% @seeR.eq_1) ∧ (type_of% @seeL.eq_1) ∧ (type_of% @seeL.eq_2) ∧ (type_of% @hasB.eq_1) ∧ (type_of% @hasB.eq_2) ∧ (type_of% @flat.eq_1) ∧ (type_of% @flat.eq_2) ∧ (type_of% @flat.eq_3) ∧ (type_of% @flat.eq_4) ∧ (type_of% @flat.eq_5) ∧ (type_of% @flat.eq_6) ∧ (type_of% @flat.eq_7) ∧ (type_of% @flat.eq_8) ∧ (type_of% @flat.eq_9) ∧ (type_of% @flats.eq_1) ∧ (type_of% @flats.eq_2) ∧ (type_of% @bin2R.eq_1) ∧ (type_of% @isNilC.eq_1) ∧ (type_of% @isNilC.eq_2) ∧ (type_of% @isNilC.eq_3) ∧ (type_of% @isNilC.eq_4) ∧ (type_of% @isNilV.eq_1) ∧ (type_of% @isNilV.eq_2) ∧ (type_of% @nilS.eq_1) ∧ (type_of% @nilS.eq_2) ∧ (type_of% @nilS.eq_3) ∧ (type_of% @nilS.eq_4) ∧ (type_of% @nilS.eq_5) ∧ (type_of% @nilS.eq_6) ∧ (type_of% @nilS.eq_7) ∧ (type_of% @nilS.eq_8) ∧ (type_of% @nilS.eq_9) ∧ (type_of% @nilSR.eq_1) ∧ (type_of% @arrPR.eq_1) :=
  ⟨@sized.eq_1, @enumS.eq_1, @enumS.eq_2, @seeR.eq_1, @seeL.eq_1, @seeL.eq_2, @hasB.eq_1, @hasB.eq_2, @flat.eq_1, @flat.eq_2, @flat.eq_3, @flat.eq_4, @flat.eq_5, @flat.eq_6, @flat.eq_7, @flat.eq_8, @flat.eq_9, @flats.eq_1, @flats.eq_2, @bin2R.eq_1, @isNilC.eq_1, @isNilC.eq_2, @isNilC.eq_3, @isNilC.eq_4, @isNilV.eq_1, @isNilV.eq_2, @nilS.eq_1, @nilS.eq_2, @nilS.eq_3, @nilS.eq_4, @nilS.eq_5, @nilS.eq_6, @nilS.eq_7, @nilS.eq_8, @nilS.eq_9, @nilSR.eq_1, @arrPR.eq_1⟩
theorem vb0 : (type_of% @retB.eq_1) ∧ (type_of% @retB.eq_2) ∧ (type_of% @retB.eq_3) ∧ (type_of% @boxF.eq_1) ∧ (type_of% @reach.eq_1) ∧ (type_of% @reach.eq_2) ∧ (type_of% @getAll.eq_1) ∧ (type_of% @getAll.eq_2) ∧ (type_of% @posN.eq_1) ∧ (type_of% @posN.eq_2) ∧ (type_of% @addN.eq_1) ∧ (type_of% @D.ids.eq_1) ∧ (type_of% @D.ids.eq_2) ∧ (type_of% @D.ids.eq_3) ∧ (type_of% @D.ids.eq_4) ∧ (type_of% @D.ids.eq_5) ∧ (type_of% @D.ids.eq_6) ∧ (type_of% @D.ids.eq_7) ∧ (type_of% @D.idsL.eq_1) ∧ (type_of% @D.idsL.eq_2) ∧ (type_of% @D.tks.eq_1) ∧ (type_of% @D.tks.eq_2) ∧ (type_of% @D.tks.eq_3) ∧ (type_of% @D.tks.eq_4) ∧ (type_of% @D.tks.eq_5) ∧ (type_of% @D.tks.eq_6) ∧ (type_of% @D.tksL.eq_1) ∧ (type_of% @D.tksL.eq_2) ∧ (type_of% @ownTk.eq_1) ∧ (type_of% @ownTk.eq_2) ∧ (type_of% @backN.eq_1) ∧ (type_of% @zipS.eq_1) ∧ (type_of% @zipS.eq_2) ∧ (type_of% @BF.toR.eq_1) ∧ (type_of% @D.ren.eq_1) ∧ (type_of% @D.ren.eq_2) ∧ (type_of% @D.ren.eq_3) ∧ (type_of% @D.ren.eq_4) ∧ (type_of% @D.ren.eq_5) ∧ (type_of% @D.ren.eq_6) :=
  ⟨@retB.eq_1, @retB.eq_2, @retB.eq_3, @boxF.eq_1, @reach.eq_1, @reach.eq_2, @getAll.eq_1, @getAll.eq_2, @posN.eq_1, @posN.eq_2, @addN.eq_1, @D.ids.eq_1, @D.ids.eq_2, @D.ids.eq_3, @D.ids.eq_4, @D.ids.eq_5, @D.ids.eq_6, @D.ids.eq_7, @D.idsL.eq_1, @D.idsL.eq_2, @D.tks.eq_1, @D.tks.eq_2, @D.tks.eq_3, @D.tks.eq_4, @D.tks.eq_5, @D.tks.eq_6, @D.tksL.eq_1, @D.tksL.eq_2, @ownTk.eq_1, @ownTk.eq_2, @backN.eq_1, @zipS.eq_1, @zipS.eq_2, @BF.toR.eq_1, @D.ren.eq_1, @D.ren.eq_2, @D.ren.eq_3, @D.ren.eq_4, @D.ren.eq_5, @D.ren.eq_6⟩
theorem vb1 : (type_of% @D.ren.eq_7) ∧ (type_of% @D.ren.eq_8) ∧ (type_of% @D.ren.eq_9) ∧ (type_of% @D.ren.eq_10) ∧ (type_of% @D.rens.eq_1) ∧ (type_of% @D.rens.eq_2) ∧ (type_of% @renO.eq_1) ∧ (type_of% @renO.eq_2) ∧ (type_of% @renO.eq_3) ∧ (type_of% @renO.eq_4) ∧ (type_of% @nodupB.eq_1) ∧ (type_of% @nodupB.eq_2) ∧ (type_of% @List.contains_cons.{0}) ∧ (type_of% @List.contains_nil.{0}) ∧ (type_of% @List.getElem?_nil.{0}) ∧ (type_of% @List.append_assoc.{0}) ∧ (type_of% @List.elem_cons.{0}) ∧ (type_of% @List.elem_nil.{0}) :=
  ⟨@D.ren.eq_7, @D.ren.eq_8, @D.ren.eq_9, @D.ren.eq_10, @D.rens.eq_1, @D.rens.eq_2, @renO.eq_1, @renO.eq_2, @renO.eq_3, @renO.eq_4, @nodupB.eq_1, @nodupB.eq_2, @List.contains_cons.{0}, @List.contains_nil.{0}, @List.getElem?_nil.{0}, @List.append_assoc.{0}, @List.elem_cons.{0}, @List.elem_nil.{0}⟩
theorem vx0 : (type_of% @stateAt.eq_1) ∧ (type_of% @stateAt.eq_2) ∧ (type_of% @S.drop.eq_1) ∧ (type_of% @dropK.eq_1) ∧ (type_of% @wildIds.eq_1) ∧ (type_of% @finalS.eq_1) ∧ (type_of% @finalS.eq_2) ∧ (type_of% @okX_nil) ∧ (type_of% @okX_u) ∧ (type_of% @okX_t) ∧ (type_of% @List.filter_cons.{0}) ∧ (type_of% @List.filter_nil.{0}) ∧ (type_of% @List.flatMap_cons.{0, 0}) ∧ (type_of% @List.flatMap_nil.{0, 0}) :=
  ⟨@stateAt.eq_1, @stateAt.eq_2, @S.drop.eq_1, @dropK.eq_1, @wildIds.eq_1, @finalS.eq_1, @finalS.eq_2, @okX_nil, @okX_u, @okX_t, @List.filter_cons.{0}, @List.filter_nil.{0}, @List.flatMap_cons.{0, 0}, @List.flatMap_nil.{0, 0}⟩
theorem vy0 : (type_of% @aopsX.eq_1) ∧ (type_of% @aopsX.eq_2) :=
  ⟨@aopsX.eq_1, @aopsX.eq_2⟩
theorem vz : (type_of% @vs0) ∧ (type_of% @vs1) ∧ (type_of% @vs2) ∧ (type_of% @vs3) ∧ (type_of% @vs4) ∧ (type_of% @vc0) ∧ (type_of% @vc1) ∧ (type_of% @ve0) ∧ (type_of% @ve1) ∧ (type_of% @ve2) ∧ (type_of% @ve3) ∧ (type_of% @ve4) := ⟨vs0, vs1, vs2, vs3, vs4, vc0, vc1, ve0, ve1, ve2, ve3, ve4⟩
theorem vb : (type_of% @vb0) ∧ (type_of% @vb1) := ⟨vb0, vb1⟩
end Go.Vi
end

section
/-
  THE REWRITINGS of evened arguments and of rows that moved.
-/
set_option maxRecDepth 10000
namespace Go.Vi
theorem vn : (type_of% @normD.eq_1) ∧ (type_of% @normD.eq_2) ∧ (type_of% @normD.eq_3) ∧ (type_of% @normD.eq_4) ∧ (type_of% @normI.eq_1) ∧ (type_of% @normI.eq_2) ∧ (type_of% @normS.eq_2) ∧ (type_of% @normA.eq_1) ∧ (type_of% @normA.eq_2) ∧ (type_of% @normP.eq_1) ∧ (type_of% @normP.eq_2) ∧ (type_of% @normL.eq_1) ∧ (type_of% @normL.eq_2) ∧ (type_of% @normS_nil) ∧ (type_of% @normS_cons) ∧ (type_of% @norm_slid) ∧ (type_of% @norm_slis) :=
  ⟨@normD.eq_1, @normD.eq_2, @normD.eq_3, @normD.eq_4, @normI.eq_1, @normI.eq_2, @normS.eq_2, @normA.eq_1, @normA.eq_2, @normP.eq_1, @normP.eq_2, @normL.eq_1, @normL.eq_2, @normS_nil, @normS_cons, @norm_slid, @norm_slis⟩
end Go.Vi
end

section
/-
  A FUNCTION WALKED IN THE KIT's OWN WAY, its arguments made even.
-/
set_option linter.unusedVariables false
namespace Go.Vi
open Go.RowKit

theorem contract_callsT {E : Env} {f : FuncId} {p : List D → PF} {ts : List NT} (hT : ∀ args s nm, E.T f args s nm = seeR p (normL ts args) s)
    (hc : ∀ xs, (p xs).vc → ∀ g w vs, (∀ b, w.heap.size ≤ b → g.lim b = 0) → RepL g w xs vs → Calls E.P f vs.toArray w fun e w' => ∃ v, e = .returned v ∧ Rep (g.newer w w') w' (p xs).val v ∧ Below w.heap.size w w') : Contract E f := by
  refine ⟨fun args s s' nm h hv => ?_, fun args s nm g w F vs hv hg hi hF hr => ?_⟩
  · simp only [hT, seeR] at hv ⊢
    cases h1 : seeL s (normL ts args) with
    | none => simp [h1, bad] at hv
    | some zs =>
      simp only [h1, seeL_mono h h1] at hv ⊢
      exact ⟨hv, trivial, trivial, trivial⟩
  · simp only [hT, seeR] at hv ⊢
    have hr := normL_rep (ts := ts) hr
    generalize normL ts args = args at hv hr ⊢
    cases hse : seeL s args with
    | none => simp [hse, bad] at hv
    | some zs =>
      simp only [hse] at hv ⊢
      have hr1 : RepL (g.lent s w (hasB args)) w zs vs := seeL_rep hi hse (fun h => h) hr
      refine (hc zs hv.1 _ w vs (fun b hb => ?_) hr1).mono ?_
      · simp only [Gh.lent]
        split
        · exact rowSize_none hb
        · exact hi.lim b hb
      rintro e w' ⟨v, rfl, hrep, hb⟩
      have hi' := inv_newer hi hb
      refine ⟨v, g.newer w w', rfl, ?_, hi'.less fun i h => h.1, keeps_newer hi hb⟩
      by_cases hB : hasB args = true
      · exact flat_repV (hv.2 hB) hrep
      · refine Rep.ext (g := (g.lent s w (hasB args)).newer w w') (w := w') ⟨fun b => ?_, fun _ _ _ => rfl, fun _ _ h => by simp [Gh.newer, Gh.lent] at h, fun _ _ _ _ h => by simp [Gh.newer, Gh.lent] at h, fun _ _ h => by simp [Gh.newer, Gh.lent] at h⟩ hrep
        simp only [Gh.newer, Gh.lent, hB, false_and, if_false, Bool.false_eq_true]
        exact Nat.le_refl _
end Go.Vi
end

section
set_option linter.unusedVariables false
set_option linter.unusedSimpArgs false
set_option maxHeartbeats 0
set_option maxRecDepth 20000
namespace Go.Vi.CK
open Go.Proofs

def tyC (t : Nat) : Option TI :=
  match t with
  | 1 => some ⟨.other, 1, 8, .raw .nilFunc, false⟩
  | 2 => some ⟨.int .i64, 1, 8, .int .i64 0, true⟩
  | 3 => some ⟨.int .i64, 1, 8, .int .i64 0, true⟩
  | 4 => some ⟨.bool, 1, 1, .bool false, true⟩
  | 5 => some ⟨.int .u8, 1, 1, .int .u8 0, true⟩
  | 9 => some ⟨.str, 1, 16, .str ⟨#[]⟩, true⟩
  | 12 => some ⟨.int .u64, 1, 8, .int .u64 0, true⟩
  | 20 => some ⟨.other, 1, 16, .raw .nilIface, false⟩
  | 21 => some ⟨.int .i32, 1, 4, .int .i32 0, true⟩
  | 22 => some ⟨.int .u32, 1, 4, .int .u32 0, true⟩
  | 23 => some ⟨.slice 52, 1, 24, .sl .full 0 [], false⟩
  | 24 => some ⟨.slice 59, 1, 24, .sl .full 0 [], false⟩
  | 25 => some ⟨.st [(0, 22), (1, 23), (2, 24), (3, 22)], 4, 64, .agg [.int .u32 0, .sl .full 0 [], .sl .full 0 [], .int .u32 0], false⟩
  | 26 => some ⟨.st [(0, 22), (1, 23), (2, 24), (3, 22)], 4, 64, .agg [.int .u32 0, .sl .full 0 [], .sl .full 0 [], .int .u32 0], false⟩
  | 28 => some ⟨.other, 1, 8, .raw .nilFunc, false⟩
  | 29 => some ⟨.other, 1, 8, .raw .nilFunc, false⟩
  | 30 => some ⟨.other, 1, 8, .raw .nilFunc, false⟩
  | 31 => some ⟨.arr 32 5, 32, 32, .arr .u8 32 (List.replicate 32 0), true⟩
  | 32 => some ⟨.arr 32 5, 32, 32, .arr .u8 32 (List.replicate 32 0), true⟩
  | 33 => some ⟨.st [(0, 22), (1, 32), (33, 32), (65, 22), (66, 22), (67, 22)], 68, 80, .agg [.int .u32 0, .arr .u8 32 (List.replicate 32 0), .arr .u8 32 (List.replicate 32 0), .int .u32 0, .int .u32 0, .int .u32 0], true⟩
  | 34 => some ⟨.st [(0, 22), (1, 32), (33, 32), (65, 22), (66, 22), (67, 22)], 68, 80, .agg [.int .u32 0, .arr .u8 32 (List.replicate 32 0), .arr .u8 32 (List.replicate 32 0), .int .u32 0, .int .u32 0, .int .u32 0], true⟩
  | 35 => some ⟨.slice 26, 1, 24, .sl .full 0 [], false⟩
  | 36 => some ⟨.st [(0, 34), (68, 35)], 69, 104, .agg [.agg [.int .u32 0, .arr .u8 32 (List.replicate 32 0), .arr .u8 32 (List.replicate 32 0), .int .u32 0, .int .u32 0, .int .u32 0], .sl .full 0 []], false⟩
  | 37 => some ⟨.st [(0, 34), (68, 35)], 69, 104, .agg [.agg [.int .u32 0, .arr .u8 32 (List.replicate 32 0), .arr .u8 32 (List.replicate 32 0), .int .u32 0, .int .u32 0, .int .u32 0], .sl .full 0 []], false⟩
  | 38 => some ⟨.other, 1, 8, .raw .nilFunc, false⟩
  | 39 => some ⟨.int .i64, 1, 8, .int .i64 0, true⟩
  | 40 => some ⟨.other, 1, 8, .raw .nilFunc, false⟩
  | 42 => some ⟨.other, 1, 8, .raw .nilFunc, false⟩
  | 43 => some ⟨.slice 32, 1, 24, .sl .full 0 [], false⟩
  | 44 => some ⟨.other, 1, 8, .raw .nilFunc, false⟩
  | 45 => some ⟨.other, 1, 8, .raw .nilFunc, false⟩
  | 46 => some ⟨.other, 1, 8, .raw .nilFunc, false⟩
  | 47 => some ⟨.st [(0, 32), (32, 22)], 33, 36, .agg [.arr .u8 32 (List.replicate 32 0), .int .u32 0], true⟩
  | 48 => some ⟨.st [(0, 32), (32, 22)], 33, 36, .agg [.arr .u8 32 (List.replicate 32 0), .int .u32 0], true⟩
  | 49 => some ⟨.slice 5, 1, 24, .sl .full 0 [], false⟩
  | 50 => some ⟨.slice 49, 1, 24, .sl .full 0 [], false⟩
  | 51 => some ⟨.st [(0, 48), (33, 49), (34, 22), (35, 50)], 36, 96, .agg [.agg [.arr .u8 32 (List.replicate 32 0), .int .u32 0], .sl .full 0 [], .int .u32 0, .sl .full 0 []], false⟩
  | 52 => some ⟨.st [(0, 48), (33, 49), (34, 22), (35, 50)], 36, 96, .agg [.agg [.arr .u8 32 (List.replicate 32 0), .int .u32 0], .sl .full 0 [], .int .u32 0, .sl .full 0 []], false⟩
  | 53 => some ⟨.other, 1, 8, .raw .nilFunc, false⟩
  | 54 => some ⟨.other, 1, 8, .raw .nilFunc, false⟩
  | 55 => some ⟨.other, 1, 8, .raw .nilFunc, false⟩
  | 56 => some ⟨.other, 1, 8, .raw .nilFunc, false⟩
  | 57 => some ⟨.other, 1, 8, .raw .nilFunc, false⟩
  | 58 => some ⟨.st [(0, 2), (1, 49)], 2, 32, .agg [.int .i64 0, .sl .full 0 []], false⟩
  | 59 => some ⟨.st [(0, 2), (1, 49)], 2, 32, .agg [.int .i64 0, .sl .full 0 []], false⟩
  | 60 => some ⟨.slice 63, 1, 24, .sl .full 0 [], false⟩
  | 61 => some ⟨.other, 1, 8, .raw .nilFunc, false⟩
  | 62 => some ⟨.st [(0, 38), (1, 39)], 2, 16, .agg [.raw .nilFunc, .int .i64 0], false⟩
  | 63 => some ⟨.st [(0, 38), (1, 39)], 2, 16, .agg [.raw .nilFunc, .int .i64 0], false⟩
  | 64 => some ⟨.other, 1, 8, .raw .nilFunc, false⟩
  | 65 => some ⟨.other, 1, 8, .raw .nilFunc, false⟩
  | 66 => some ⟨.other, 1, 8, .raw .nilFunc, false⟩
  | 67 => some ⟨.other, 1, 8, .raw .nilFunc, false⟩
  | 68 => some ⟨.other, 1, 8, .raw .nilFunc, false⟩
  | 69 => some ⟨.other, 1, 8, .raw .nilFunc, false⟩
  | 70 => some ⟨.other, 1, 8, .raw .nilFunc, false⟩
  | 71 => some ⟨.other, 1, 8, .raw .nilFunc, false⟩
  | 72 => some ⟨.other, 1, 8, .raw .nilFunc, false⟩
  | 73 => some ⟨.other, 1, 8, .raw .nilFunc, false⟩
  | 74 => some ⟨.other, 1, 8, .raw .nilFunc, false⟩
  | 75 => some ⟨.slice 2, 1, 24, .sl .full 0 [], false⟩
  | 76 => some ⟨.other, 1, 8, .raw .nilFunc, false⟩
  | 77 => some ⟨.other, 1, 8, .raw .nilFunc, false⟩
  | 78 => some ⟨.other, 1, 8, .raw .nilFunc, false⟩
  | 79 => some ⟨.other, 1, 8, .raw .nilFunc, false⟩
  | 80 => some ⟨.other, 1, 8, .raw .nilFunc, false⟩
  | 81 => some ⟨.other, 1, 8, .raw .nilFunc, false⟩
  | 82 => some ⟨.other, 1, 8, .raw .nilFunc, false⟩
  | 84 => some ⟨.other, 1, 8, .raw .nilFunc, false⟩
  | 85 => some ⟨.other, 1, 8, .raw .nilFunc, false⟩
  | 86 => some ⟨.other, 1, 8, .raw .nilFunc, false⟩
  | 87 => some ⟨.st [(0, 22), (1, 22), (2, 22), (3, 22), (4, 22), (5, 22), (6, 22), (7, 22)], 8, 32, .agg [.int .u32 0, .int .u32 0, .int .u32 0, .int .u32 0, .int .u32 0, .int .u32 0, .int .u32 0, .int .u32 0], true⟩
  | 88 => some ⟨.st [(0, 22), (1, 22), (2, 22), (3, 22), (4, 22), (5, 22), (6, 22), (7, 22)], 8, 32, .agg [.int .u32 0, .int .u32 0, .int .u32 0, .int .u32 0, .int .u32 0, .int .u32 0, .int .u32 0, .int .u32 0], true⟩
  | 89 => some ⟨.other, 1, 8, .raw .nilFunc, false⟩
  | 90 => some ⟨.other, 1, 8, .raw .nilFunc, false⟩
  | 92 => some ⟨.other, 1, 8, .raw .nilFunc, false⟩
  | 93 => some ⟨.other, 1, 8, .raw .nilFunc, false⟩
  | 94 => some ⟨.other, 1, 8, .raw .nilFunc, false⟩
  | 95 => some ⟨.other, 1, 8, .raw .nilFunc, false⟩
  | 96 => some ⟨.other, 1, 8, .raw .nilFunc, false⟩
  | 97 => some ⟨.arr 8 22, 8, 32, .arr .u32 8 (List.replicate 8 0), true⟩
  | 98 => some ⟨.int .u64, 1, 8, .int .u64 0, true⟩
  | 99 => some ⟨.other, 1, 8, .raw .nilFunc, false⟩
  | 100 => some ⟨.other, 1, 8, .raw .nilFunc, false⟩
  | 101 => some ⟨.other, 1, 8, .raw .nilFunc, false⟩
  | 102 => some ⟨.other, 1, 8, .raw .nilFunc, false⟩
  | 103 => some ⟨.int .u64, 1, 8, .int .u64 0, true⟩
  | 104 => some ⟨.other, 1, 8, .raw .nilFunc, false⟩
  | 105 => some ⟨.other, 1, 8, .raw .nilFunc, false⟩
  | 106 => some ⟨.other, 1, 8, .raw .nilFunc, false⟩
  | 107 => some ⟨.other, 1, 8, .raw .nilFunc, false⟩
  | 108 => some ⟨.other, 1, 8, .raw .nilFunc, false⟩
  | 109 => some ⟨.other, 1, 8, .raw .nilFunc, false⟩
  | 110 => some ⟨.other, 1, 8, .raw .nilFunc, false⟩
  | 111 => some ⟨.other, 1, 8, .raw .nilFunc, false⟩
  | 112 => some ⟨.arr 64 22, 64, 256, .arr .u32 64 (List.replicate 64 0), true⟩
  | 113 => some ⟨.other, 1, 8, .raw .nilFunc, false⟩
  | 114 => some ⟨.other, 1, 8, .raw .nilFunc, false⟩
  | 115 => some ⟨.other, 1, 8, .raw .nilFunc, false⟩
  | 116 => some ⟨.other, 1, 8, .raw .nilFunc, false⟩
  | 117 => some ⟨.other, 1, 8, .raw .nilFunc, false⟩
  | 118 => some ⟨.other, 1, 8, .raw .nilFunc, false⟩
  | 119 => some ⟨.other, 1, 8, .raw .nilFunc, false⟩
  | 120 => some ⟨.other, 1, 8, .raw .nilFunc, false⟩
  | 121 => some ⟨.other, 1, 8, .raw .nilFunc, false⟩
  | 122 => some ⟨.other, 1, 8, .raw .nilFunc, false⟩
  | 123 => some ⟨.other, 1, 8, .raw .nilFunc, false⟩
  | 124 => some ⟨.slice 3, 1, 24, .sl .full 0 [], false⟩
  | 125 => some ⟨.other, 1, 8, .raw .nilFunc, false⟩
  | 126 => some ⟨.other, 1, 8, .raw .nilFunc, false⟩
  | 132 => some ⟨.other, 1, 8, .raw .nilFunc, false⟩
  | 135 => some ⟨.other, 1, 8, .raw .nilFunc, false⟩
  | 136 => some ⟨.ptr 5, 1, 8, .raw (.pointer none), false⟩
  | 139 => some ⟨.st [(0, 12), (1, 12), (2, 22), (3, 133), (4, 5), (5, 5), (6, 134), (7, 135), (8, 136), (9, 137), (10, 138)], 11, 48, .agg [.int .u64 0, .int .u64 0, .int .u32 0, .int .u8 0, .int .u8 0, .int .u8 0, .int .u8 0, .raw .nilFunc, .raw (.pointer none), .int .i32 0, .int .i32 0], false⟩
  | _ => none
def spec (f : Nat) : FS2 :=
  match f with
  | 52 => .pure [] sp_first
  | 59 => .pure [] sp_closing
  | 74 => .pure [] sp_round
  | 75 => .pure [] sp_plus
  | 83 => .pure [.id, .ints .i64] sp_turned
  | 89 => .pure [] sp_rotl
  | 73 => .box [.ints .u8] (sp_numbers 82)
  | 82 => .box [] sp_next
  | 60 => .pure [.id, .ints .u8] sp_change
  | 53 => .pure [.id, .id, .ints .u8] sp_digest
  | 35 => .pure [.ints .u8] sp_sum
  | 34 => .pure [] sp_again
  | 22 => .pure [.ints .u8] sp_twice
  | 46 => .pure [] sp_pair
  | 45 => .pure [] (sp_chunk 56)
  | 25 => .box [.id, .id, .id, .ints .u8] sp_rootEach
  | 33 => .box [.id, .id, .id, .ints .u8] sp_textsEach
  | 24 => .box [] (sp_rows 25 33 0)
  | 15 => .pure [] sp_root
  | 87 => .boxE [.ints .u8] sp_clone
  | 86 => .pure [] sp_bwidth
  | 80 => .box [.ints .u8] sp_bput
  | 66 => .box [.ints .u8] sp_num
  | 88 => .pure [] sp_csize
  | 81 => .box [.ints .u8] sp_cput
  | 72 => .box [.ints .u8, .ints .u8] sp_putText
  | 68 => .box [.ints .u8, .st [.id, .ints .u8, .id, .sl 1 (.ints .u8)]] sp_putIn
  | 70 => .box [.ints .u8, .st [.id, .ints .u8]] sp_putOut
  | 67 => .box [.ints .u8, .sl 36 (.st [.id, .ints .u8, .id, .sl 1 (.ints .u8)])] (sp_layIn 68)
  | 69 => .box [.ints .u8, .sl 2 (.st [.id, .ints .u8])] (sp_layOut 70)
  | 71 => .box [.ints .u8] (sp_layWit 72)
  | 58 => .box [.ints .u8, .st [.id, .sl 36 (.st [.id, .ints .u8, .id, .sl 1 (.ints .u8)]), .sl 2 (.st [.id, .ints .u8])]] sp_laid
  | 32 => .pure [.st [.id, .ints .u8, .id, .sl 1 (.ints .u8)]] sp_w1
  | 51 => .pure [.sl 36 (.st [.id, .ints .u8, .id, .sl 1 (.ints .u8)])] (sp_indexIn 32)
  | 31 => .pure [.sl 36 (.st [.id, .ints .u8, .id, .sl 1 (.ints .u8)])] (sp_containsIn 32)
  | 18 => .pure [.st [.id, .sl 36 (.st [.id, .ints .u8, .id, .sl 1 (.ints .u8)]), .sl 2 (.st [.id, .ints .u8])]] sp_twitnessed
  | 79 => .pure [.ints .u8] sp_in1
  | 85 => .pure [] (sp_indexB 79)
  | 78 => .pure [] (sp_containsB 79)
  | 64 => .pure [.st [.id, .ints .u8, .id, .sl 1 (.ints .u8)]] sp_tin
  | 65 => .pure [.st [.id, .ints .u8]] sp_tout
  | 63 => .pure [] sp_tmany
  | 57 => .pure [.st [.id, .sl 36 (.st [.id, .ints .u8, .id, .sl 1 (.ints .u8)]), .sl 2 (.st [.id, .ints .u8])]] sp_tcheck
  | 84 => .pure [.ints .u8, .st [.id, .sl 36 (.st [.id, .ints .u8, .id, .sl 1 (.ints .u8)]), .sl 2 (.st [.id, .ints .u8])]] sp_tput
  | 48 => .pure [.ints .u8, .st [.id, .sl 36 (.st [.id, .ints .u8, .id, .sl 1 (.ints .u8)]), .sl 2 (.st [.id, .ints .u8])]] sp_tbare
  | 47 => .pure [.ints .u8] sp_tname
  | 28 => .pure [.st [.id, .sl 36 (.st [.id, .ints .u8, .id, .sl 1 (.ints .u8)]), .sl 2 (.st [.id, .ints .u8])]] sp_tid
  | 77 => .pure [.st [.id, .sl 36 (.st [.id, .ints .u8, .id, .sl 1 (.ints .u8)]), .sl 2 (.st [.id, .ints .u8])]] sp_tfull
  | 76 => .pure [.id, .st [.id, .sl 36 (.st [.id, .ints .u8, .id, .sl 1 (.ints .u8)]), .sl 2 (.st [.id, .ints .u8])]] sp_fulls1
  | 27 => .pure [.id, .st [.id, .sl 36 (.st [.id, .ints .u8, .id, .sl 1 (.ints .u8)]), .sl 2 (.st [.id, .ints .u8])]] sp_ids1
  | 26 => .pure [.st [.id, .sl 4 (.st [.id, .sl 36 (.st [.id, .ints .u8, .id, .sl 1 (.ints .u8)]), .sl 2 (.st [.id, .ints .u8])])]] (sp_names 76 27)
  | 62 => .pure [.st [.id, .sl 4 (.st [.id, .sl 36 (.st [.id, .ints .u8, .id, .sl 1 (.ints .u8)]), .sl 2 (.st [.id, .ints .u8])])]] sp_fulls
  | 16 => .pure [.st [.id, .sl 4 (.st [.id, .sl 36 (.st [.id, .ints .u8, .id, .sl 1 (.ints .u8)]), .sl 2 (.st [.id, .ints .u8])])]] sp_ids
  | 50 => .pure [] sp_hp2
  | 30 => .pure [] sp_hasPrefix
  | 17 => .pure [.st [.id, .sl 4 (.st [.id, .sl 36 (.st [.id, .ints .u8, .id, .sl 1 (.ints .u8)]), .sl 2 (.st [.id, .ints .u8])])]] sp_gcommit
  | 55 => .pure [.st [.id, .sl 4 (.st [.id, .sl 36 (.st [.id, .ints .u8, .id, .sl 1 (.ints .u8)]), .sl 2 (.st [.id, .ints .u8])])]] sp_gwanted
  | 29 => .pure [.sl 2 (.st [.id, .ints .u8])] (sp_back 49)
  | 13 => .pure [.st [.id, .sl 4 (.st [.id, .sl 36 (.st [.id, .ints .u8, .id, .sl 1 (.ints .u8)]), .sl 2 (.st [.id, .ints .u8])])]] sp_small
  | 10 => .pure [.st [.id, .sl 36 (.st [.id, .ints .u8, .id, .sl 1 (.ints .u8)]), .sl 2 (.st [.id, .ints .u8])]] sp_cbase
  | 8 => .pure [.st [.id, .sl 36 (.st [.id, .ints .u8, .id, .sl 1 (.ints .u8)]), .sl 2 (.st [.id, .ints .u8])]] sp_csum
  | 41 => .pure [.st [.id, .sl 36 (.st [.id, .ints .u8, .id, .sl 1 (.ints .u8)]), .sl 2 (.st [.id, .ints .u8])]] sp_cval
  | 39 => .pure [.st [.id, .sl 36 (.st [.id, .ints .u8, .id, .sl 1 (.ints .u8)]), .sl 2 (.st [.id, .ints .u8])]] sp_double
  | 61 => .pure [.sl 4 (.st [.id, .sl 36 (.st [.id, .ints .u8, .id, .sl 1 (.ints .u8)]), .sl 2 (.st [.id, .ints .u8])])] (sp_indexTx 10 39 41 18)
  | 54 => .pure [.sl 4 (.st [.id, .sl 36 (.st [.id, .ints .u8, .id, .sl 1 (.ints .u8)]), .sl 2 (.st [.id, .ints .u8])])] (sp_containsTx 10 39 41 18)
  | 38 => .pure [.sl 4 (.st [.id, .sl 36 (.st [.id, .ints .u8, .id, .sl 1 (.ints .u8)]), .sl 2 (.st [.id, .ints .u8])])] (sp_none 10 39 41 18)
  | 36 => .pure [.st [.id, .sl 4 (.st [.id, .sl 36 (.st [.id, .ints .u8, .id, .sl 1 (.ints .u8)]), .sl 2 (.st [.id, .ints .u8])])]] sp_coinbase
  | 37 => .pure [.st [.id, .sl 4 (.st [.id, .sl 36 (.st [.id, .ints .u8, .id, .sl 1 (.ints .u8)]), .sl 2 (.st [.id, .ints .u8])])]] sp_rule1
  | 40 => .pure [.st [.id, .sl 4 (.st [.id, .sl 36 (.st [.id, .ints .u8, .id, .sl 1 (.ints .u8)]), .sl 2 (.st [.id, .ints .u8])])]] sp_rule2
  | 42 => .pure [.st [.id, .sl 4 (.st [.id, .sl 36 (.st [.id, .ints .u8, .id, .sl 1 (.ints .u8)]), .sl 2 (.st [.id, .ints .u8])])]] sp_rule3
  | 43 => .pure [.st [.id, .sl 4 (.st [.id, .sl 36 (.st [.id, .ints .u8, .id, .sl 1 (.ints .u8)]), .sl 2 (.st [.id, .ints .u8])])]] sp_rule4
  | 44 => .pure [.st [.id, .sl 4 (.st [.id, .sl 36 (.st [.id, .ints .u8, .id, .sl 1 (.ints .u8)]), .sl 2 (.st [.id, .ints .u8])])]] sp_cwitnessed
  | 23 => .pure [] (sp_rules 36 37 40 42 43 44)
  | 14 => .pure [.st [.id, .sl 4 (.st [.id, .sl 36 (.st [.id, .ints .u8, .id, .sl 1 (.ints .u8)]), .sl 2 (.st [.id, .ints .u8])])]] sp_cblock
  | 19 => .pure [] sp_plain
  | 12 => .pure [] sp_cworks
  | 11 => .pure [.st [.id, .sl 36 (.st [.id, .ints .u8, .id, .sl 1 (.ints .u8)]), .sl 2 (.st [.id, .ints .u8])]] sp_rcbase
  | 9 => .pure [.st [.id, .sl 36 (.st [.id, .ints .u8, .id, .sl 1 (.ints .u8)]), .sl 2 (.st [.id, .ints .u8])]] sp_rcsum
  | 3 => .pure [.st [.id, .sl 36 (.st [.id, .ints .u8, .id, .sl 1 (.ints .u8)]), .sl 2 (.st [.id, .ints .u8])]] sp_lawCheckTxs
  | 4 => .pure [.st [.id, .sl 4 (.st [.id, .sl 36 (.st [.id, .ints .u8, .id, .sl 1 (.ints .u8)]), .sl 2 (.st [.id, .ints .u8])])]] sp_lawCheckHeader
  | 5 => .pure [.st [.id, .sl 4 (.st [.id, .sl 36 (.st [.id, .ints .u8, .id, .sl 1 (.ints .u8)]), .sl 2 (.st [.id, .ints .u8])])]] sp_lawCheckValues
  | 7 => .pure [.st [.id, .sl 4 (.st [.id, .sl 36 (.st [.id, .ints .u8, .id, .sl 1 (.ints .u8)]), .sl 2 (.st [.id, .ints .u8])])], .st [.id, .sl 4 (.st [.id, .sl 36 (.st [.id, .ints .u8, .id, .sl 1 (.ints .u8)]), .sl 2 (.st [.id, .ints .u8])])]] sp_lawCheckSame
  | 6 => .pure [] sp_lawCheckKnown
  | 21 => .pure [] sp_texts
  | 20 => .pure [.ints .u8, .ints .i64] sp_cwith
  | _ => .pure [] fun _ => noPF
def glC (i : Nat) : Option D :=
  match i with
  | 0 => some (.arr .u32 64 kList)
  | _ => none
noncomputable def E : Env where
  P := Tryd.prog
  ty := tyC
  gl := glC
  T := fun f args s nm => (spec f).T args s nm
theorem ty_ok : ∀ t i, E.ty t = some i → TIOk E.P t i := by
  intro t i h
  change tyC t = some i at h
  unfold tyC at h
  split at h <;> (try cases h)
  · exact ⟨⟨Tryd.t1, _, rfl, rfl, rfl, rfl, zero_ok rfl rfl, rfl⟩, ⟨_, Tryd.underlying1, rfl⟩, fun h => by cases h⟩
  · exact ⟨⟨Tryd.t2, _, rfl, rfl, rfl, rfl, zero_ok rfl rfl, rfl⟩, Tryd.underlying2, fun _ => ⟨by kernel_rfl, fun fs h => by rw [show E.P.underlying 2 = _ from Tryd.underlying2] at h; cases h⟩⟩
  · exact ⟨⟨Tryd.t3, _, rfl, rfl, rfl, rfl, zero_ok rfl rfl, rfl⟩, Tryd.underlying3, fun _ => ⟨by kernel_rfl, fun fs h => by rw [show E.P.underlying 3 = _ from Tryd.underlying3] at h; cases h⟩⟩
  · exact ⟨⟨Tryd.t4, _, rfl, rfl, rfl, rfl, zero_ok rfl rfl, rfl⟩, Tryd.underlying4, fun _ => ⟨by kernel_rfl, fun fs h => by rw [show E.P.underlying 4 = _ from Tryd.underlying4] at h; cases h⟩⟩
  · exact ⟨⟨Tryd.t5, _, rfl, rfl, rfl, rfl, zero_ok rfl rfl, rfl⟩, Tryd.underlying5, fun _ => ⟨by kernel_rfl, fun fs h => by rw [show E.P.underlying 5 = _ from Tryd.underlying5] at h; cases h⟩⟩
  · exact ⟨⟨Tryd.t9, _, rfl, rfl, rfl, rfl, zero_ok rfl rfl, rfl⟩, Tryd.underlying9, fun _ => ⟨by kernel_rfl, fun fs h => by rw [show E.P.underlying 9 = _ from Tryd.underlying9] at h; cases h⟩⟩
  · exact ⟨⟨Tryd.t12, _, rfl, rfl, rfl, rfl, zero_ok rfl rfl, rfl⟩, Tryd.underlying12, fun _ => ⟨by kernel_rfl, fun fs h => by rw [show E.P.underlying 12 = _ from Tryd.underlying12] at h; cases h⟩⟩
  · exact ⟨⟨Tryd.t20, _, rfl, rfl, rfl, rfl, zero_ok rfl rfl, rfl⟩, ⟨_, Tryd.underlying20, rfl⟩, fun h => by cases h⟩
  · exact ⟨⟨Tryd.t21, _, rfl, rfl, rfl, rfl, zero_ok rfl rfl, rfl⟩, Tryd.underlying21, fun _ => ⟨by kernel_rfl, fun fs h => by rw [show E.P.underlying 21 = _ from Tryd.underlying21] at h; cases h⟩⟩
  · exact ⟨⟨Tryd.t22, _, rfl, rfl, rfl, rfl, zero_ok rfl rfl, rfl⟩, Tryd.underlying22, fun _ => ⟨by kernel_rfl, fun fs h => by rw [show E.P.underlying 22 = _ from Tryd.underlying22] at h; cases h⟩⟩
  · exact ⟨⟨Tryd.t23, _, rfl, rfl, rfl, rfl, zero_ok rfl rfl, rfl⟩, Tryd.underlying23, fun h => by cases h⟩
  · exact ⟨⟨Tryd.t24, _, rfl, rfl, rfl, rfl, zero_ok rfl rfl, rfl⟩, Tryd.underlying24, fun h => by cases h⟩
  · exact ⟨⟨Tryd.t25, _, rfl, rfl, rfl, rfl, zero_ok rfl rfl, rfl⟩, ⟨_, Tryd.underlying25, rfl⟩, fun h => by cases h⟩
  · exact ⟨⟨Tryd.t26, _, rfl, rfl, rfl, rfl, zero_ok rfl rfl, rfl⟩, ⟨_, Tryd.underlying26, rfl⟩, fun h => by cases h⟩
  · exact ⟨⟨Tryd.t28, _, rfl, rfl, rfl, rfl, zero_ok rfl rfl, rfl⟩, ⟨_, Tryd.underlying28, rfl⟩, fun h => by cases h⟩
  · exact ⟨⟨Tryd.t29, _, rfl, rfl, rfl, rfl, zero_ok rfl rfl, rfl⟩, ⟨_, Tryd.underlying29, rfl⟩, fun h => by cases h⟩
  · exact ⟨⟨Tryd.t30, _, rfl, rfl, rfl, rfl, zero_ok rfl rfl, rfl⟩, ⟨_, Tryd.underlying30, rfl⟩, fun h => by cases h⟩
  · exact ⟨⟨Tryd.t31, _, rfl, rfl, rfl, rfl, zero_ok rfl rfl, rfl⟩, Tryd.underlying31, fun _ => ⟨by kernel_rfl, fun fs h => by rw [show E.P.underlying 31 = _ from Tryd.underlying31] at h; cases h⟩⟩
  · exact ⟨⟨Tryd.t32, _, rfl, rfl, rfl, rfl, zero_ok rfl rfl, rfl⟩, Tryd.underlying32, fun _ => ⟨by kernel_rfl, fun fs h => by rw [show E.P.underlying 32 = _ from Tryd.underlying32] at h; cases h⟩⟩
  · exact ⟨⟨Tryd.t33, _, rfl, rfl, rfl, rfl, zero_ok rfl rfl, rfl⟩, ⟨_, Tryd.underlying33, rfl⟩, fun _ => ⟨by kernel_rfl, fun fs h => by rw [show E.P.underlying 33 = _ from Tryd.underlying33] at h; cases h; intro f hf; simp at hf; rcases hf with rfl | rfl | rfl | rfl | rfl | rfl <;> decide⟩⟩
  · exact ⟨⟨Tryd.t34, _, rfl, rfl, rfl, rfl, zero_ok rfl rfl, rfl⟩, ⟨_, Tryd.underlying34, rfl⟩, fun _ => ⟨by kernel_rfl, fun fs h => by rw [show E.P.underlying 34 = _ from Tryd.underlying34] at h; cases h; intro f hf; simp at hf; rcases hf with rfl | rfl | rfl | rfl | rfl | rfl <;> decide⟩⟩
  · exact ⟨⟨Tryd.t35, _, rfl, rfl, rfl, rfl, zero_ok rfl rfl, rfl⟩, Tryd.underlying35, fun h => by cases h⟩
  · exact ⟨⟨Tryd.t36, _, rfl, rfl, rfl, rfl, zero_ok rfl rfl, rfl⟩, ⟨_, Tryd.underlying36, rfl⟩, fun h => by cases h⟩
  · exact ⟨⟨Tryd.t37, _, rfl, rfl, rfl, rfl, zero_ok rfl rfl, rfl⟩, ⟨_, Tryd.underlying37, rfl⟩, fun h => by cases h⟩
  · exact ⟨⟨Tryd.t38, _, rfl, rfl, rfl, rfl, zero_ok rfl rfl, rfl⟩, ⟨_, Tryd.underlying38, rfl⟩, fun h => by cases h⟩
  · exact ⟨⟨Tryd.t39, _, rfl, rfl, rfl, rfl, zero_ok rfl rfl, rfl⟩, Tryd.underlying39, fun _ => ⟨by kernel_rfl, fun fs h => by rw [show E.P.underlying 39 = _ from Tryd.underlying39] at h; cases h⟩⟩
  · exact ⟨⟨Tryd.t40, _, rfl, rfl, rfl, rfl, zero_ok rfl rfl, rfl⟩, ⟨_, Tryd.underlying40, rfl⟩, fun h => by cases h⟩
  · exact ⟨⟨Tryd.t42, _, rfl, rfl, rfl, rfl, zero_ok rfl rfl, rfl⟩, ⟨_, Tryd.underlying42, rfl⟩, fun h => by cases h⟩
  · exact ⟨⟨Tryd.t43, _, rfl, rfl, rfl, rfl, zero_ok rfl rfl, rfl⟩, Tryd.underlying43, fun h => by cases h⟩
  · exact ⟨⟨Tryd.t44, _, rfl, rfl, rfl, rfl, zero_ok rfl rfl, rfl⟩, ⟨_, Tryd.underlying44, rfl⟩, fun h => by cases h⟩
  · exact ⟨⟨Tryd.t45, _, rfl, rfl, rfl, rfl, zero_ok rfl rfl, rfl⟩, ⟨_, Tryd.underlying45, rfl⟩, fun h => by cases h⟩
  · exact ⟨⟨Tryd.t46, _, rfl, rfl, rfl, rfl, zero_ok rfl rfl, rfl⟩, ⟨_, Tryd.underlying46, rfl⟩, fun h => by cases h⟩
  · exact ⟨⟨Tryd.t47, _, rfl, rfl, rfl, rfl, zero_ok rfl rfl, rfl⟩, ⟨_, Tryd.underlying47, rfl⟩, fun _ => ⟨by kernel_rfl, fun fs h => by rw [show E.P.underlying 47 = _ from Tryd.underlying47] at h; cases h; intro f hf; simp at hf; rcases hf with rfl | rfl <;> decide⟩⟩
  · exact ⟨⟨Tryd.t48, _, rfl, rfl, rfl, rfl, zero_ok rfl rfl, rfl⟩, ⟨_, Tryd.underlying48, rfl⟩, fun _ => ⟨by kernel_rfl, fun fs h => by rw [show E.P.underlying 48 = _ from Tryd.underlying48] at h; cases h; intro f hf; simp at hf; rcases hf with rfl | rfl <;> decide⟩⟩
  · exact ⟨⟨Tryd.t49, _, rfl, rfl, rfl, rfl, zero_ok rfl rfl, rfl⟩, Tryd.underlying49, fun h => by cases h⟩
  · exact ⟨⟨Tryd.t50, _, rfl, rfl, rfl, rfl, zero_ok rfl rfl, rfl⟩, Tryd.underlying50, fun h => by cases h⟩
  · exact ⟨⟨Tryd.t51, _, rfl, rfl, rfl, rfl, zero_ok rfl rfl, rfl⟩, ⟨_, Tryd.underlying51, rfl⟩, fun h => by cases h⟩
  · exact ⟨⟨Tryd.t52, _, rfl, rfl, rfl, rfl, zero_ok rfl rfl, rfl⟩, ⟨_, Tryd.underlying52, rfl⟩, fun h => by cases h⟩
  · exact ⟨⟨Tryd.t53, _, rfl, rfl, rfl, rfl, zero_ok rfl rfl, rfl⟩, ⟨_, Tryd.underlying53, rfl⟩, fun h => by cases h⟩
  · exact ⟨⟨Tryd.t54, _, rfl, rfl, rfl, rfl, zero_ok rfl rfl, rfl⟩, ⟨_, Tryd.underlying54, rfl⟩, fun h => by cases h⟩
  · exact ⟨⟨Tryd.t55, _, rfl, rfl, rfl, rfl, zero_ok rfl rfl, rfl⟩, ⟨_, Tryd.underlying55, rfl⟩, fun h => by cases h⟩
  · exact ⟨⟨Tryd.t56, _, rfl, rfl, rfl, rfl, zero_ok rfl rfl, rfl⟩, ⟨_, Tryd.underlying56, rfl⟩, fun h => by cases h⟩
  · exact ⟨⟨Tryd.t57, _, rfl, rfl, rfl, rfl, zero_ok rfl rfl, rfl⟩, ⟨_, Tryd.underlying57, rfl⟩, fun h => by cases h⟩
  · exact ⟨⟨Tryd.t58, _, rfl, rfl, rfl, rfl, zero_ok rfl rfl, rfl⟩, ⟨_, Tryd.underlying58, rfl⟩, fun h => by cases h⟩
  · exact ⟨⟨Tryd.t59, _, rfl, rfl, rfl, rfl, zero_ok rfl rfl, rfl⟩, ⟨_, Tryd.underlying59, rfl⟩, fun h => by cases h⟩
  · exact ⟨⟨Tryd.t60, _, rfl, rfl, rfl, rfl, zero_ok rfl rfl, rfl⟩, Tryd.underlying60, fun h => by cases h⟩
  · exact ⟨⟨Tryd.t61, _, rfl, rfl, rfl, rfl, zero_ok rfl rfl, rfl⟩, ⟨_, Tryd.underlying61, rfl⟩, fun h => by cases h⟩
  · exact ⟨⟨Tryd.t62, _, rfl, rfl, rfl, rfl, zero_ok rfl rfl, rfl⟩, ⟨_, Tryd.underlying62, rfl⟩, fun h => by cases h⟩
  · exact ⟨⟨Tryd.t63, _, rfl, rfl, rfl, rfl, zero_ok rfl rfl, rfl⟩, ⟨_, Tryd.underlying63, rfl⟩, fun h => by cases h⟩
  · exact ⟨⟨Tryd.t64, _, rfl, rfl, rfl, rfl, zero_ok rfl rfl, rfl⟩, ⟨_, Tryd.underlying64, rfl⟩, fun h => by cases h⟩
  · exact ⟨⟨Tryd.t65, _, rfl, rfl, rfl, rfl, zero_ok rfl rfl, rfl⟩, ⟨_, Tryd.underlying65, rfl⟩, fun h => by cases h⟩
  · exact ⟨⟨Tryd.t66, _, rfl, rfl, rfl, rfl, zero_ok rfl rfl, rfl⟩, ⟨_, Tryd.underlying66, rfl⟩, fun h => by cases h⟩
  · exact ⟨⟨Tryd.t67, _, rfl, rfl, rfl, rfl, zero_ok rfl rfl, rfl⟩, ⟨_, Tryd.underlying67, rfl⟩, fun h => by cases h⟩
  · exact ⟨⟨Tryd.t68, _, rfl, rfl, rfl, rfl, zero_ok rfl rfl, rfl⟩, ⟨_, Tryd.underlying68, rfl⟩, fun h => by cases h⟩
  · exact ⟨⟨Tryd.t69, _, rfl, rfl, rfl, rfl, zero_ok rfl rfl, rfl⟩, ⟨_, Tryd.underlying69, rfl⟩, fun h => by cases h⟩
  · exact ⟨⟨Tryd.t70, _, rfl, rfl, rfl, rfl, zero_ok rfl rfl, rfl⟩, ⟨_, Tryd.underlying70, rfl⟩, fun h => by cases h⟩
  · exact ⟨⟨Tryd.t71, _, rfl, rfl, rfl, rfl, zero_ok rfl rfl, rfl⟩, ⟨_, Tryd.underlying71, rfl⟩, fun h => by cases h⟩
  · exact ⟨⟨Tryd.t72, _, rfl, rfl, rfl, rfl, zero_ok rfl rfl, rfl⟩, ⟨_, Tryd.underlying72, rfl⟩, fun h => by cases h⟩
  · exact ⟨⟨Tryd.t73, _, rfl, rfl, rfl, rfl, zero_ok rfl rfl, rfl⟩, ⟨_, Tryd.underlying73, rfl⟩, fun h => by cases h⟩
  · exact ⟨⟨Tryd.t74, _, rfl, rfl, rfl, rfl, zero_ok rfl rfl, rfl⟩, ⟨_, Tryd.underlying74, rfl⟩, fun h => by cases h⟩
  · exact ⟨⟨Tryd.t75, _, rfl, rfl, rfl, rfl, zero_ok rfl rfl, rfl⟩, Tryd.underlying75, fun h => by cases h⟩
  · exact ⟨⟨Tryd.t76, _, rfl, rfl, rfl, rfl, zero_ok rfl rfl, rfl⟩, ⟨_, Tryd.underlying76, rfl⟩, fun h => by cases h⟩
  · exact ⟨⟨Tryd.t77, _, rfl, rfl, rfl, rfl, zero_ok rfl rfl, rfl⟩, ⟨_, Tryd.underlying77, rfl⟩, fun h => by cases h⟩
  · exact ⟨⟨Tryd.t78, _, rfl, rfl, rfl, rfl, zero_ok rfl rfl, rfl⟩, ⟨_, Tryd.underlying78, rfl⟩, fun h => by cases h⟩
  · exact ⟨⟨Tryd.t79, _, rfl, rfl, rfl, rfl, zero_ok rfl rfl, rfl⟩, ⟨_, Tryd.underlying79, rfl⟩, fun h => by cases h⟩
  · exact ⟨⟨Tryd.t80, _, rfl, rfl, rfl, rfl, zero_ok rfl rfl, rfl⟩, ⟨_, Tryd.underlying80, rfl⟩, fun h => by cases h⟩
  · exact ⟨⟨Tryd.t81, _, rfl, rfl, rfl, rfl, zero_ok rfl rfl, rfl⟩, ⟨_, Tryd.underlying81, rfl⟩, fun h => by cases h⟩
  · exact ⟨⟨Tryd.t82, _, rfl, rfl, rfl, rfl, zero_ok rfl rfl, rfl⟩, ⟨_, Tryd.underlying82, rfl⟩, fun h => by cases h⟩
  · exact ⟨⟨Tryd.t84, _, rfl, rfl, rfl, rfl, zero_ok rfl rfl, rfl⟩, ⟨_, Tryd.underlying84, rfl⟩, fun h => by cases h⟩
  · exact ⟨⟨Tryd.t85, _, rfl, rfl, rfl, rfl, zero_ok rfl rfl, rfl⟩, ⟨_, Tryd.underlying85, rfl⟩, fun h => by cases h⟩
  · exact ⟨⟨Tryd.t86, _, rfl, rfl, rfl, rfl, zero_ok rfl rfl, rfl⟩, ⟨_, Tryd.underlying86, rfl⟩, fun h => by cases h⟩
  · exact ⟨⟨Tryd.t87, _, rfl, rfl, rfl, rfl, zero_ok rfl rfl, rfl⟩, ⟨_, Tryd.underlying87, rfl⟩, fun _ => ⟨by kernel_rfl, fun fs h => by rw [show E.P.underlying 87 = _ from Tryd.underlying87] at h; cases h; intro f hf; simp at hf; rcases hf with rfl | rfl | rfl | rfl | rfl | rfl | rfl | rfl <;> decide⟩⟩
  · exact ⟨⟨Tryd.t88, _, rfl, rfl, rfl, rfl, zero_ok rfl rfl, rfl⟩, ⟨_, Tryd.underlying88, rfl⟩, fun _ => ⟨by kernel_rfl, fun fs h => by rw [show E.P.underlying 88 = _ from Tryd.underlying88] at h; cases h; intro f hf; simp at hf; rcases hf with rfl | rfl | rfl | rfl | rfl | rfl | rfl | rfl <;> decide⟩⟩
  · exact ⟨⟨Tryd.t89, _, rfl, rfl, rfl, rfl, zero_ok rfl rfl, rfl⟩, ⟨_, Tryd.underlying89, rfl⟩, fun h => by cases h⟩
  · exact ⟨⟨Tryd.t90, _, rfl, rfl, rfl, rfl, zero_ok rfl rfl, rfl⟩, ⟨_, Tryd.underlying90, rfl⟩, fun h => by cases h⟩
  · exact ⟨⟨Tryd.t92, _, rfl, rfl, rfl, rfl, zero_ok rfl rfl, rfl⟩, ⟨_, Tryd.underlying92, rfl⟩, fun h => by cases h⟩
  · exact ⟨⟨Tryd.t93, _, rfl, rfl, rfl, rfl, zero_ok rfl rfl, rfl⟩, ⟨_, Tryd.underlying93, rfl⟩, fun h => by cases h⟩
  · exact ⟨⟨Tryd.t94, _, rfl, rfl, rfl, rfl, zero_ok rfl rfl, rfl⟩, ⟨_, Tryd.underlying94, rfl⟩, fun h => by cases h⟩
  · exact ⟨⟨Tryd.t95, _, rfl, rfl, rfl, rfl, zero_ok rfl rfl, rfl⟩, ⟨_, Tryd.underlying95, rfl⟩, fun h => by cases h⟩
  · exact ⟨⟨Tryd.t96, _, rfl, rfl, rfl, rfl, zero_ok rfl rfl, rfl⟩, ⟨_, Tryd.underlying96, rfl⟩, fun h => by cases h⟩
  · exact ⟨⟨Tryd.t97, _, rfl, rfl, rfl, rfl, zero_ok rfl rfl, rfl⟩, Tryd.underlying97, fun _ => ⟨by kernel_rfl, fun fs h => by rw [show E.P.underlying 97 = _ from Tryd.underlying97] at h; cases h⟩⟩
  · exact ⟨⟨Tryd.t98, _, rfl, rfl, rfl, rfl, zero_ok rfl rfl, rfl⟩, Tryd.underlying98, fun _ => ⟨by kernel_rfl, fun fs h => by rw [show E.P.underlying 98 = _ from Tryd.underlying98] at h; cases h⟩⟩
  · exact ⟨⟨Tryd.t99, _, rfl, rfl, rfl, rfl, zero_ok rfl rfl, rfl⟩, ⟨_, Tryd.underlying99, rfl⟩, fun h => by cases h⟩
  · exact ⟨⟨Tryd.t100, _, rfl, rfl, rfl, rfl, zero_ok rfl rfl, rfl⟩, ⟨_, Tryd.underlying100, rfl⟩, fun h => by cases h⟩
  · exact ⟨⟨Tryd.t101, _, rfl, rfl, rfl, rfl, zero_ok rfl rfl, rfl⟩, ⟨_, Tryd.underlying101, rfl⟩, fun h => by cases h⟩
  · exact ⟨⟨Tryd.t102, _, rfl, rfl, rfl, rfl, zero_ok rfl rfl, rfl⟩, ⟨_, Tryd.underlying102, rfl⟩, fun h => by cases h⟩
  · exact ⟨⟨Tryd.t103, _, rfl, rfl, rfl, rfl, zero_ok rfl rfl, rfl⟩, Tryd.underlying103, fun _ => ⟨by kernel_rfl, fun fs h => by rw [show E.P.underlying 103 = _ from Tryd.underlying103] at h; cases h⟩⟩
  · exact ⟨⟨Tryd.t104, _, rfl, rfl, rfl, rfl, zero_ok rfl rfl, rfl⟩, ⟨_, Tryd.underlying104, rfl⟩, fun h => by cases h⟩
  · exact ⟨⟨Tryd.t105, _, rfl, rfl, rfl, rfl, zero_ok rfl rfl, rfl⟩, ⟨_, Tryd.underlying105, rfl⟩, fun h => by cases h⟩
  · exact ⟨⟨Tryd.t106, _, rfl, rfl, rfl, rfl, zero_ok rfl rfl, rfl⟩, ⟨_, Tryd.underlying106, rfl⟩, fun h => by cases h⟩
  · exact ⟨⟨Tryd.t107, _, rfl, rfl, rfl, rfl, zero_ok rfl rfl, rfl⟩, ⟨_, Tryd.underlying107, rfl⟩, fun h => by cases h⟩
  · exact ⟨⟨Tryd.t108, _, rfl, rfl, rfl, rfl, zero_ok rfl rfl, rfl⟩, ⟨_, Tryd.underlying108, rfl⟩, fun h => by cases h⟩
  · exact ⟨⟨Tryd.t109, _, rfl, rfl, rfl, rfl, zero_ok rfl rfl, rfl⟩, ⟨_, Tryd.underlying109, rfl⟩, fun h => by cases h⟩
  · exact ⟨⟨Tryd.t110, _, rfl, rfl, rfl, rfl, zero_ok rfl rfl, rfl⟩, ⟨_, Tryd.underlying110, rfl⟩, fun h => by cases h⟩
  · exact ⟨⟨Tryd.t111, _, rfl, rfl, rfl, rfl, zero_ok rfl rfl, rfl⟩, ⟨_, Tryd.underlying111, rfl⟩, fun h => by cases h⟩
  · exact ⟨⟨Tryd.t112, _, rfl, rfl, rfl, rfl, zero_ok rfl rfl, rfl⟩, Tryd.underlying112, fun _ => ⟨by kernel_rfl, fun fs h => by rw [show E.P.underlying 112 = _ from Tryd.underlying112] at h; cases h⟩⟩
  · exact ⟨⟨Tryd.t113, _, rfl, rfl, rfl, rfl, zero_ok rfl rfl, rfl⟩, ⟨_, Tryd.underlying113, rfl⟩, fun h => by cases h⟩
  · exact ⟨⟨Tryd.t114, _, rfl, rfl, rfl, rfl, zero_ok rfl rfl, rfl⟩, ⟨_, Tryd.underlying114, rfl⟩, fun h => by cases h⟩
  · exact ⟨⟨Tryd.t115, _, rfl, rfl, rfl, rfl, zero_ok rfl rfl, rfl⟩, ⟨_, Tryd.underlying115, rfl⟩, fun h => by cases h⟩
  · exact ⟨⟨Tryd.t116, _, rfl, rfl, rfl, rfl, zero_ok rfl rfl, rfl⟩, ⟨_, Tryd.underlying116, rfl⟩, fun h => by cases h⟩
  · exact ⟨⟨Tryd.t117, _, rfl, rfl, rfl, rfl, zero_ok rfl rfl, rfl⟩, ⟨_, Tryd.underlying117, rfl⟩, fun h => by cases h⟩
  · exact ⟨⟨Tryd.t118, _, rfl, rfl, rfl, rfl, zero_ok rfl rfl, rfl⟩, ⟨_, Tryd.underlying118, rfl⟩, fun h => by cases h⟩
  · exact ⟨⟨Tryd.t119, _, rfl, rfl, rfl, rfl, zero_ok rfl rfl, rfl⟩, ⟨_, Tryd.underlying119, rfl⟩, fun h => by cases h⟩
  · exact ⟨⟨Tryd.t120, _, rfl, rfl, rfl, rfl, zero_ok rfl rfl, rfl⟩, ⟨_, Tryd.underlying120, rfl⟩, fun h => by cases h⟩
  · exact ⟨⟨Tryd.t121, _, rfl, rfl, rfl, rfl, zero_ok rfl rfl, rfl⟩, ⟨_, Tryd.underlying121, rfl⟩, fun h => by cases h⟩
  · exact ⟨⟨Tryd.t122, _, rfl, rfl, rfl, rfl, zero_ok rfl rfl, rfl⟩, ⟨_, Tryd.underlying122, rfl⟩, fun h => by cases h⟩
  · exact ⟨⟨Tryd.t123, _, rfl, rfl, rfl, rfl, zero_ok rfl rfl, rfl⟩, ⟨_, Tryd.underlying123, rfl⟩, fun h => by cases h⟩
  · exact ⟨⟨Tryd.t124, _, rfl, rfl, rfl, rfl, zero_ok rfl rfl, rfl⟩, Tryd.underlying124, fun h => by cases h⟩
  · exact ⟨⟨Tryd.t125, _, rfl, rfl, rfl, rfl, zero_ok rfl rfl, rfl⟩, ⟨_, Tryd.underlying125, rfl⟩, fun h => by cases h⟩
  · exact ⟨⟨Tryd.t126, _, rfl, rfl, rfl, rfl, zero_ok rfl rfl, rfl⟩, ⟨_, Tryd.underlying126, rfl⟩, fun h => by cases h⟩
  · exact ⟨⟨Tryd.t132, _, rfl, rfl, rfl, rfl, zero_ok rfl rfl, rfl⟩, ⟨_, Tryd.underlying132, rfl⟩, fun h => by cases h⟩
  · exact ⟨⟨Tryd.t135, _, rfl, rfl, rfl, rfl, zero_ok rfl rfl, rfl⟩, ⟨_, Tryd.underlying135, rfl⟩, fun h => by cases h⟩
  · exact ⟨⟨Tryd.t136, _, rfl, rfl, rfl, rfl, zero_ok rfl rfl, rfl⟩, Tryd.underlying136, fun h => by cases h⟩
  · exact ⟨⟨Tryd.t139, _, rfl, rfl, rfl, rfl, zero_ok rfl rfl, rfl⟩, ⟨_, Tryd.underlying139, rfl⟩, fun h => by cases h⟩
theorem hE : EnvOk E := ⟨ty_ok, rfl, by decide⟩
theorem hgl : GlOk E := by
  intro i d h
  change glC i = some d at h
  unfold glC at h
  split at h <;> cases h <;> rfl
theorem ty1 : E.ty 1 = some ⟨.other, 1, 8, .raw .nilFunc, false⟩ := rfl
theorem ty2 : E.ty 2 = some ⟨.int .i64, 1, 8, .int .i64 0, true⟩ := rfl
theorem ty3 : E.ty 3 = some ⟨.int .i64, 1, 8, .int .i64 0, true⟩ := rfl
theorem ty4 : E.ty 4 = some ⟨.bool, 1, 1, .bool false, true⟩ := rfl
theorem ty5 : E.ty 5 = some ⟨.int .u8, 1, 1, .int .u8 0, true⟩ := rfl
theorem ty9 : E.ty 9 = some ⟨.str, 1, 16, .str ⟨#[]⟩, true⟩ := rfl
theorem ty12 : E.ty 12 = some ⟨.int .u64, 1, 8, .int .u64 0, true⟩ := rfl
theorem ty20 : E.ty 20 = some ⟨.other, 1, 16, .raw .nilIface, false⟩ := rfl
theorem ty21 : E.ty 21 = some ⟨.int .i32, 1, 4, .int .i32 0, true⟩ := rfl
theorem ty22 : E.ty 22 = some ⟨.int .u32, 1, 4, .int .u32 0, true⟩ := rfl
theorem ty23 : E.ty 23 = some ⟨.slice 52, 1, 24, .sl .full 0 [], false⟩ := rfl
theorem ty24 : E.ty 24 = some ⟨.slice 59, 1, 24, .sl .full 0 [], false⟩ := rfl
theorem ty25 : E.ty 25 = some ⟨.st [(0, 22), (1, 23), (2, 24), (3, 22)], 4, 64, .agg [.int .u32 0, .sl .full 0 [], .sl .full 0 [], .int .u32 0], false⟩ := rfl
theorem ty26 : E.ty 26 = some ⟨.st [(0, 22), (1, 23), (2, 24), (3, 22)], 4, 64, .agg [.int .u32 0, .sl .full 0 [], .sl .full 0 [], .int .u32 0], false⟩ := rfl
theorem ty28 : E.ty 28 = some ⟨.other, 1, 8, .raw .nilFunc, false⟩ := rfl
theorem ty29 : E.ty 29 = some ⟨.other, 1, 8, .raw .nilFunc, false⟩ := rfl
theorem ty30 : E.ty 30 = some ⟨.other, 1, 8, .raw .nilFunc, false⟩ := rfl
theorem ty31 : E.ty 31 = some ⟨.arr 32 5, 32, 32, .arr .u8 32 (List.replicate 32 0), true⟩ := rfl
theorem ty32 : E.ty 32 = some ⟨.arr 32 5, 32, 32, .arr .u8 32 (List.replicate 32 0), true⟩ := rfl
theorem ty33 : E.ty 33 = some ⟨.st [(0, 22), (1, 32), (33, 32), (65, 22), (66, 22), (67, 22)], 68, 80, .agg [.int .u32 0, .arr .u8 32 (List.replicate 32 0), .arr .u8 32 (List.replicate 32 0), .int .u32 0, .int .u32 0, .int .u32 0], true⟩ := rfl
theorem ty34 : E.ty 34 = some ⟨.st [(0, 22), (1, 32), (33, 32), (65, 22), (66, 22), (67, 22)], 68, 80, .agg [.int .u32 0, .arr .u8 32 (List.replicate 32 0), .arr .u8 32 (List.replicate 32 0), .int .u32 0, .int .u32 0, .int .u32 0], true⟩ := rfl
theorem ty35 : E.ty 35 = some ⟨.slice 26, 1, 24, .sl .full 0 [], false⟩ := rfl
theorem ty36 : E.ty 36 = some ⟨.st [(0, 34), (68, 35)], 69, 104, .agg [.agg [.int .u32 0, .arr .u8 32 (List.replicate 32 0), .arr .u8 32 (List.replicate 32 0), .int .u32 0, .int .u32 0, .int .u32 0], .sl .full 0 []], false⟩ := rfl
theorem ty37 : E.ty 37 = some ⟨.st [(0, 34), (68, 35)], 69, 104, .agg [.agg [.int .u32 0, .arr .u8 32 (List.replicate 32 0), .arr .u8 32 (List.replicate 32 0), .int .u32 0, .int .u32 0, .int .u32 0], .sl .full 0 []], false⟩ := rfl
theorem ty38 : E.ty 38 = some ⟨.other, 1, 8, .raw .nilFunc, false⟩ := rfl
theorem ty39 : E.ty 39 = some ⟨.int .i64, 1, 8, .int .i64 0, true⟩ := rfl
theorem ty40 : E.ty 40 = some ⟨.other, 1, 8, .raw .nilFunc, false⟩ := rfl
theorem ty42 : E.ty 42 = some ⟨.other, 1, 8, .raw .nilFunc, false⟩ := rfl
theorem ty43 : E.ty 43 = some ⟨.slice 32, 1, 24, .sl .full 0 [], false⟩ := rfl
theorem ty44 : E.ty 44 = some ⟨.other, 1, 8, .raw .nilFunc, false⟩ := rfl
theorem ty45 : E.ty 45 = some ⟨.other, 1, 8, .raw .nilFunc, false⟩ := rfl
theorem ty46 : E.ty 46 = some ⟨.other, 1, 8, .raw .nilFunc, false⟩ := rfl
theorem ty47 : E.ty 47 = some ⟨.st [(0, 32), (32, 22)], 33, 36, .agg [.arr .u8 32 (List.replicate 32 0), .int .u32 0], true⟩ := rfl
theorem ty48 : E.ty 48 = some ⟨.st [(0, 32), (32, 22)], 33, 36, .agg [.arr .u8 32 (List.replicate 32 0), .int .u32 0], true⟩ := rfl
theorem ty49 : E.ty 49 = some ⟨.slice 5, 1, 24, .sl .full 0 [], false⟩ := rfl
theorem ty50 : E.ty 50 = some ⟨.slice 49, 1, 24, .sl .full 0 [], false⟩ := rfl
theorem ty51 : E.ty 51 = some ⟨.st [(0, 48), (33, 49), (34, 22), (35, 50)], 36, 96, .agg [.agg [.arr .u8 32 (List.replicate 32 0), .int .u32 0], .sl .full 0 [], .int .u32 0, .sl .full 0 []], false⟩ := rfl
theorem ty52 : E.ty 52 = some ⟨.st [(0, 48), (33, 49), (34, 22), (35, 50)], 36, 96, .agg [.agg [.arr .u8 32 (List.replicate 32 0), .int .u32 0], .sl .full 0 [], .int .u32 0, .sl .full 0 []], false⟩ := rfl
theorem ty53 : E.ty 53 = some ⟨.other, 1, 8, .raw .nilFunc, false⟩ := rfl
theorem ty54 : E.ty 54 = some ⟨.other, 1, 8, .raw .nilFunc, false⟩ := rfl
theorem ty55 : E.ty 55 = some ⟨.other, 1, 8, .raw .nilFunc, false⟩ := rfl
theorem ty56 : E.ty 56 = some ⟨.other, 1, 8, .raw .nilFunc, false⟩ := rfl
theorem ty57 : E.ty 57 = some ⟨.other, 1, 8, .raw .nilFunc, false⟩ := rfl
theorem ty58 : E.ty 58 = some ⟨.st [(0, 2), (1, 49)], 2, 32, .agg [.int .i64 0, .sl .full 0 []], false⟩ := rfl
theorem ty59 : E.ty 59 = some ⟨.st [(0, 2), (1, 49)], 2, 32, .agg [.int .i64 0, .sl .full 0 []], false⟩ := rfl
theorem ty60 : E.ty 60 = some ⟨.slice 63, 1, 24, .sl .full 0 [], false⟩ := rfl
theorem ty61 : E.ty 61 = some ⟨.other, 1, 8, .raw .nilFunc, false⟩ := rfl
theorem ty62 : E.ty 62 = some ⟨.st [(0, 38), (1, 39)], 2, 16, .agg [.raw .nilFunc, .int .i64 0], false⟩ := rfl
theorem ty63 : E.ty 63 = some ⟨.st [(0, 38), (1, 39)], 2, 16, .agg [.raw .nilFunc, .int .i64 0], false⟩ := rfl
theorem ty64 : E.ty 64 = some ⟨.other, 1, 8, .raw .nilFunc, false⟩ := rfl
theorem ty65 : E.ty 65 = some ⟨.other, 1, 8, .raw .nilFunc, false⟩ := rfl
theorem ty66 : E.ty 66 = some ⟨.other, 1, 8, .raw .nilFunc, false⟩ := rfl
theorem ty67 : E.ty 67 = some ⟨.other, 1, 8, .raw .nilFunc, false⟩ := rfl
theorem ty68 : E.ty 68 = some ⟨.other, 1, 8, .raw .nilFunc, false⟩ := rfl
theorem ty69 : E.ty 69 = some ⟨.other, 1, 8, .raw .nilFunc, false⟩ := rfl
theorem ty70 : E.ty 70 = some ⟨.other, 1, 8, .raw .nilFunc, false⟩ := rfl
theorem ty71 : E.ty 71 = some ⟨.other, 1, 8, .raw .nilFunc, false⟩ := rfl
theorem ty72 : E.ty 72 = some ⟨.other, 1, 8, .raw .nilFunc, false⟩ := rfl
theorem ty73 : E.ty 73 = some ⟨.other, 1, 8, .raw .nilFunc, false⟩ := rfl
theorem ty74 : E.ty 74 = some ⟨.other, 1, 8, .raw .nilFunc, false⟩ := rfl
theorem ty75 : E.ty 75 = some ⟨.slice 2, 1, 24, .sl .full 0 [], false⟩ := rfl
theorem ty76 : E.ty 76 = some ⟨.other, 1, 8, .raw .nilFunc, false⟩ := rfl
theorem ty77 : E.ty 77 = some ⟨.other, 1, 8, .raw .nilFunc, false⟩ := rfl
theorem ty78 : E.ty 78 = some ⟨.other, 1, 8, .raw .nilFunc, false⟩ := rfl
theorem ty79 : E.ty 79 = some ⟨.other, 1, 8, .raw .nilFunc, false⟩ := rfl
theorem ty80 : E.ty 80 = some ⟨.other, 1, 8, .raw .nilFunc, false⟩ := rfl
theorem ty81 : E.ty 81 = some ⟨.other, 1, 8, .raw .nilFunc, false⟩ := rfl
theorem ty82 : E.ty 82 = some ⟨.other, 1, 8, .raw .nilFunc, false⟩ := rfl
theorem ty84 : E.ty 84 = some ⟨.other, 1, 8, .raw .nilFunc, false⟩ := rfl
theorem ty85 : E.ty 85 = some ⟨.other, 1, 8, .raw .nilFunc, false⟩ := rfl
theorem ty86 : E.ty 86 = some ⟨.other, 1, 8, .raw .nilFunc, false⟩ := rfl
theorem ty87 : E.ty 87 = some ⟨.st [(0, 22), (1, 22), (2, 22), (3, 22), (4, 22), (5, 22), (6, 22), (7, 22)], 8, 32, .agg [.int .u32 0, .int .u32 0, .int .u32 0, .int .u32 0, .int .u32 0, .int .u32 0, .int .u32 0, .int .u32 0], true⟩ := rfl
theorem ty88 : E.ty 88 = some ⟨.st [(0, 22), (1, 22), (2, 22), (3, 22), (4, 22), (5, 22), (6, 22), (7, 22)], 8, 32, .agg [.int .u32 0, .int .u32 0, .int .u32 0, .int .u32 0, .int .u32 0, .int .u32 0, .int .u32 0, .int .u32 0], true⟩ := rfl
theorem ty89 : E.ty 89 = some ⟨.other, 1, 8, .raw .nilFunc, false⟩ := rfl
theorem ty90 : E.ty 90 = some ⟨.other, 1, 8, .raw .nilFunc, false⟩ := rfl
theorem ty92 : E.ty 92 = some ⟨.other, 1, 8, .raw .nilFunc, false⟩ := rfl
theorem ty93 : E.ty 93 = some ⟨.other, 1, 8, .raw .nilFunc, false⟩ := rfl
theorem ty94 : E.ty 94 = some ⟨.other, 1, 8, .raw .nilFunc, false⟩ := rfl
theorem ty95 : E.ty 95 = some ⟨.other, 1, 8, .raw .nilFunc, false⟩ := rfl
theorem ty96 : E.ty 96 = some ⟨.other, 1, 8, .raw .nilFunc, false⟩ := rfl
theorem ty97 : E.ty 97 = some ⟨.arr 8 22, 8, 32, .arr .u32 8 (List.replicate 8 0), true⟩ := rfl
theorem ty98 : E.ty 98 = some ⟨.int .u64, 1, 8, .int .u64 0, true⟩ := rfl
theorem ty99 : E.ty 99 = some ⟨.other, 1, 8, .raw .nilFunc, false⟩ := rfl
theorem ty100 : E.ty 100 = some ⟨.other, 1, 8, .raw .nilFunc, false⟩ := rfl
theorem ty101 : E.ty 101 = some ⟨.other, 1, 8, .raw .nilFunc, false⟩ := rfl
theorem ty102 : E.ty 102 = some ⟨.other, 1, 8, .raw .nilFunc, false⟩ := rfl
theorem ty103 : E.ty 103 = some ⟨.int .u64, 1, 8, .int .u64 0, true⟩ := rfl
theorem ty104 : E.ty 104 = some ⟨.other, 1, 8, .raw .nilFunc, false⟩ := rfl
theorem ty105 : E.ty 105 = some ⟨.other, 1, 8, .raw .nilFunc, false⟩ := rfl
theorem ty106 : E.ty 106 = some ⟨.other, 1, 8, .raw .nilFunc, false⟩ := rfl
theorem ty107 : E.ty 107 = some ⟨.other, 1, 8, .raw .nilFunc, false⟩ := rfl
theorem ty108 : E.ty 108 = some ⟨.other, 1, 8, .raw .nilFunc, false⟩ := rfl
theorem ty109 : E.ty 109 = some ⟨.other, 1, 8, .raw .nilFunc, false⟩ := rfl
theorem ty110 : E.ty 110 = some ⟨.other, 1, 8, .raw .nilFunc, false⟩ := rfl
theorem ty111 : E.ty 111 = some ⟨.other, 1, 8, .raw .nilFunc, false⟩ := rfl
theorem ty112 : E.ty 112 = some ⟨.arr 64 22, 64, 256, .arr .u32 64 (List.replicate 64 0), true⟩ := rfl
theorem ty113 : E.ty 113 = some ⟨.other, 1, 8, .raw .nilFunc, false⟩ := rfl
theorem ty114 : E.ty 114 = some ⟨.other, 1, 8, .raw .nilFunc, false⟩ := rfl
theorem ty115 : E.ty 115 = some ⟨.other, 1, 8, .raw .nilFunc, false⟩ := rfl
theorem ty116 : E.ty 116 = some ⟨.other, 1, 8, .raw .nilFunc, false⟩ := rfl
theorem ty117 : E.ty 117 = some ⟨.other, 1, 8, .raw .nilFunc, false⟩ := rfl
theorem ty118 : E.ty 118 = some ⟨.other, 1, 8, .raw .nilFunc, false⟩ := rfl
theorem ty119 : E.ty 119 = some ⟨.other, 1, 8, .raw .nilFunc, false⟩ := rfl
theorem ty120 : E.ty 120 = some ⟨.other, 1, 8, .raw .nilFunc, false⟩ := rfl
theorem ty121 : E.ty 121 = some ⟨.other, 1, 8, .raw .nilFunc, false⟩ := rfl
theorem ty122 : E.ty 122 = some ⟨.other, 1, 8, .raw .nilFunc, false⟩ := rfl
theorem ty123 : E.ty 123 = some ⟨.other, 1, 8, .raw .nilFunc, false⟩ := rfl
theorem ty124 : E.ty 124 = some ⟨.slice 3, 1, 24, .sl .full 0 [], false⟩ := rfl
theorem ty125 : E.ty 125 = some ⟨.other, 1, 8, .raw .nilFunc, false⟩ := rfl
theorem ty126 : E.ty 126 = some ⟨.other, 1, 8, .raw .nilFunc, false⟩ := rfl
theorem ty132 : E.ty 132 = some ⟨.other, 1, 8, .raw .nilFunc, false⟩ := rfl
theorem ty135 : E.ty 135 = some ⟨.other, 1, 8, .raw .nilFunc, false⟩ := rfl
theorem ty136 : E.ty 136 = some ⟨.ptr 5, 1, 8, .raw (.pointer none), false⟩ := rfl
theorem ty139 : E.ty 139 = some ⟨.st [(0, 12), (1, 12), (2, 22), (3, 133), (4, 5), (5, 5), (6, 134), (7, 135), (8, 136), (9, 137), (10, 138)], 11, 48, .agg [.int .u64 0, .int .u64 0, .int .u32 0, .int .u8 0, .int .u8 0, .int .u8 0, .int .u8 0, .raw .nilFunc, .raw (.pointer none), .int .i32 0, .int .i32 0], false⟩ := rfl
theorem tys : (type_of% ty1) ∧ (type_of% ty2) ∧ (type_of% ty3) ∧ (type_of% ty4) ∧ (type_of% ty5) ∧ (type_of% ty9) ∧ (type_of% ty12) ∧ (type_of% ty20) ∧ (type_of% ty21) ∧ (type_of% ty22) ∧ (type_of% ty23) ∧ (type_of% ty24) ∧ (type_of% ty25) ∧ (type_of% ty26) ∧ (type_of% ty28) ∧ (type_of% ty29) ∧ (type_of% ty30) ∧ (type_of% ty31) ∧ (type_of% ty32) ∧ (type_of% ty33) ∧ (type_of% ty34) ∧ (type_of% ty35) ∧ (type_of% ty36) ∧ (type_of% ty37) ∧ (type_of% ty38) ∧ (type_of% ty39) ∧ (type_of% ty40) ∧ (type_of% ty42) ∧ (type_of% ty43) ∧ (type_of% ty44) ∧ (type_of% ty45) ∧ (type_of% ty46) ∧ (type_of% ty47) ∧ (type_of% ty48) ∧ (type_of% ty49) ∧ (type_of% ty50) ∧ (type_of% ty51) ∧ (type_of% ty52) ∧ (type_of% ty53) ∧ (type_of% ty54) ∧ (type_of% ty55) ∧ (type_of% ty56) ∧ (type_of% ty57) ∧ (type_of% ty58) ∧ (type_of% ty59) ∧ (type_of% ty60) ∧ (type_of% ty61) ∧ (type_of% ty62) ∧ (type_of% ty63) ∧ (type_of% ty64) ∧ (type_of% ty65) ∧ (type_of% ty66) ∧ (type_of% ty67) ∧ (type_of% ty68) ∧ (type_of% ty69) ∧ (type_of% ty70) ∧ (type_of% ty71) ∧ (type_of% ty72) ∧ (type_of% ty73) ∧ (type_of% ty74) ∧ (type_of% ty75) ∧ (type_of% ty76) ∧ (type_of% ty77) ∧ (type_of% ty78) ∧ (type_of% ty79) ∧ (type_of% ty80) ∧ (type_of% ty81) ∧ (type_of% ty82) ∧ (type_of% ty84) ∧ (type_of% ty85) ∧ (type_of% ty86) ∧ (type_of% ty87) ∧ (type_of% ty88) ∧ (type_of% ty89) ∧ (type_of% ty90) ∧ (type_of% ty92) ∧ (type_of% ty93) ∧ (type_of% ty94) ∧ (type_of% ty95) ∧ (type_of% ty96) ∧ (type_of% ty97) ∧ (type_of% ty98) ∧ (type_of% ty99) ∧ (type_of% ty100) ∧ (type_of% ty101) ∧ (type_of% ty102) ∧ (type_of% ty103) ∧ (type_of% ty104) ∧ (type_of% ty105) ∧ (type_of% ty106) ∧ (type_of% ty107) ∧ (type_of% ty108) ∧ (type_of% ty109) ∧ (type_of% ty110) ∧ (type_of% ty111) ∧ (type_of% ty112) ∧ (type_of% ty113) ∧ (type_of% ty114) ∧ (type_of% ty115) ∧ (type_of% ty116) ∧ (type_of% ty117) ∧ (type_of% ty118) ∧ (type_of% ty119) ∧ (type_of% ty120) ∧ (type_of% ty121) ∧ (type_of% ty122) ∧ (type_of% ty123) ∧ (type_of% ty124) ∧ (type_of% ty125) ∧ (type_of% ty126) ∧ (type_of% ty132) ∧ (type_of% ty135) ∧ (type_of% ty136) ∧ (type_of% ty139) := ⟨ty1, ty2, ty3, ty4, ty5, ty9, ty12, ty20, ty21, ty22, ty23, ty24, ty25, ty26, ty28, ty29, ty30, ty31, ty32, ty33, ty34, ty35, ty36, ty37, ty38, ty39, ty40, ty42, ty43, ty44, ty45, ty46, ty47, ty48, ty49, ty50, ty51, ty52, ty53, ty54, ty55, ty56, ty57, ty58, ty59, ty60, ty61, ty62, ty63, ty64, ty65, ty66, ty67, ty68, ty69, ty70, ty71, ty72, ty73, ty74, ty75, ty76, ty77, ty78, ty79, ty80, ty81, ty82, ty84, ty85, ty86, ty87, ty88, ty89, ty90, ty92, ty93, ty94, ty95, ty96, ty97, ty98, ty99, ty100, ty101, ty102, ty103, ty104, ty105, ty106, ty107, ty108, ty109, ty110, ty111, ty112, ty113, ty114, ty115, ty116, ty117, ty118, ty119, ty120, ty121, ty122, ty123, ty124, ty125, ty126, ty132, ty135, ty136, ty139⟩
theorem gl0 : E.gl 0 = some (.arr .u32 64 kList) := rfl
theorem spec_first (args : List D) (s : S) (nm : Nat) : E.T 52 args s nm = seeR sp_first (normL [] args) s := rfl
theorem b_first : hasBody E 52 := ⟨_, Tryd.func52, rfl, rfl⟩
theorem spec_closing (args : List D) (s : S) (nm : Nat) : E.T 59 args s nm = seeR sp_closing (normL [] args) s := rfl
theorem b_closing : hasBody E 59 := ⟨_, Tryd.func59, rfl, rfl⟩
theorem spec_round (args : List D) (s : S) (nm : Nat) : E.T 74 args s nm = seeR sp_round (normL [] args) s := rfl
theorem b_round : hasBody E 74 := ⟨_, Tryd.func74, rfl, rfl⟩
theorem spec_plus (args : List D) (s : S) (nm : Nat) : E.T 75 args s nm = seeR sp_plus (normL [] args) s := rfl
theorem b_plus : hasBody E 75 := ⟨_, Tryd.func75, rfl, rfl⟩
theorem spec_turned (args : List D) (s : S) (nm : Nat) : E.T 83 args s nm = seeR sp_turned (normL [.id, .ints .i64] args) s := rfl
theorem b_turned : hasBody E 83 := ⟨_, Tryd.func83, rfl, rfl⟩
theorem spec_rotl (args : List D) (s : S) (nm : Nat) : E.T 89 args s nm = seeR sp_rotl (normL [] args) s := rfl
theorem b_rotl : hasBody E 89 := ⟨_, Tryd.func89, rfl, rfl⟩
theorem spec_numbers (args : List D) (s : S) (nm : Nat) : E.T 73 args s nm = boxF (sp_numbers 82) (normL [.ints .u8] args) s nm := rfl
theorem b_numbers : hasBody E 73 := ⟨_, Tryd.func73, rfl, rfl⟩
theorem spec_next (args : List D) (s : S) (nm : Nat) : E.T 82 args s nm = boxF sp_next (normL [] args) s nm := rfl
theorem b_next : hasBody E 82 := ⟨_, Tryd.func82, rfl, rfl⟩
theorem spec_change (args : List D) (s : S) (nm : Nat) : E.T 60 args s nm = seeR sp_change (normL [.id, .ints .u8] args) s := rfl
theorem b_change : hasBody E 60 := ⟨_, Tryd.func60, rfl, rfl⟩
theorem spec_digest (args : List D) (s : S) (nm : Nat) : E.T 53 args s nm = seeR sp_digest (normL [.id, .id, .ints .u8] args) s := rfl
theorem b_digest : hasBody E 53 := ⟨_, Tryd.func53, rfl, rfl⟩
theorem spec_sum (args : List D) (s : S) (nm : Nat) : E.T 35 args s nm = seeR sp_sum (normL [.ints .u8] args) s := rfl
theorem b_sum : hasBody E 35 := ⟨_, Tryd.func35, rfl, rfl⟩
theorem spec_again (args : List D) (s : S) (nm : Nat) : E.T 34 args s nm = seeR sp_again (normL [] args) s := rfl
theorem b_again : hasBody E 34 := ⟨_, Tryd.func34, rfl, rfl⟩
theorem spec_twice (args : List D) (s : S) (nm : Nat) : E.T 22 args s nm = seeR sp_twice (normL [.ints .u8] args) s := rfl
theorem b_twice : hasBody E 22 := ⟨_, Tryd.func22, rfl, rfl⟩
theorem spec_pair (args : List D) (s : S) (nm : Nat) : E.T 46 args s nm = seeR sp_pair (normL [] args) s := rfl
theorem b_pair : hasBody E 46 := ⟨_, Tryd.func46, rfl, rfl⟩
theorem spec_chunk (args : List D) (s : S) (nm : Nat) : E.T 45 args s nm = seeR (sp_chunk 56) (normL [] args) s := rfl
theorem b_chunk : hasBody E 45 := ⟨_, Tryd.func45, rfl, rfl⟩
theorem spec_rootEach (args : List D) (s : S) (nm : Nat) : E.T 25 args s nm = boxF sp_rootEach (normL [.id, .id, .id, .ints .u8] args) s nm := rfl
theorem b_rootEach : hasBody E 25 := ⟨_, Tryd.func25, rfl, rfl⟩
theorem spec_textsEach (args : List D) (s : S) (nm : Nat) : E.T 33 args s nm = boxF sp_textsEach (normL [.id, .id, .id, .ints .u8] args) s nm := rfl
theorem b_textsEach : hasBody E 33 := ⟨_, Tryd.func33, rfl, rfl⟩
theorem spec_rows (args : List D) (s : S) (nm : Nat) : E.T 24 args s nm = boxF (sp_rows 25 33 0) (normL [] args) s nm := rfl
theorem b_rows : hasBody E 24 := ⟨_, Tryd.func24, rfl, rfl⟩
theorem spec_root (args : List D) (s : S) (nm : Nat) : E.T 15 args s nm = seeR sp_root (normL [] args) s := rfl
theorem b_root : hasBody E 15 := ⟨_, Tryd.func15, rfl, rfl⟩
theorem spec_clone (args : List D) (s : S) (nm : Nat) : E.T 87 args s nm = boxF sp_clone (forgetE (normL [.ints .u8] args)) s nm := rfl
theorem b_clone : hasBody E 87 := ⟨_, Tryd.func87, rfl, rfl⟩
theorem spec_bwidth (args : List D) (s : S) (nm : Nat) : E.T 86 args s nm = seeR sp_bwidth (normL [] args) s := rfl
theorem b_bwidth : hasBody E 86 := ⟨_, Tryd.func86, rfl, rfl⟩
theorem spec_bput (args : List D) (s : S) (nm : Nat) : E.T 80 args s nm = boxF sp_bput (normL [.ints .u8] args) s nm := rfl
theorem b_bput : hasBody E 80 := ⟨_, Tryd.func80, rfl, rfl⟩
theorem spec_num (args : List D) (s : S) (nm : Nat) : E.T 66 args s nm = boxF sp_num (normL [.ints .u8] args) s nm := rfl
theorem b_num : hasBody E 66 := ⟨_, Tryd.func66, rfl, rfl⟩
theorem spec_csize (args : List D) (s : S) (nm : Nat) : E.T 88 args s nm = seeR sp_csize (normL [] args) s := rfl
theorem b_csize : hasBody E 88 := ⟨_, Tryd.func88, rfl, rfl⟩
theorem spec_cput (args : List D) (s : S) (nm : Nat) : E.T 81 args s nm = boxF sp_cput (normL [.ints .u8] args) s nm := rfl
theorem b_cput : hasBody E 81 := ⟨_, Tryd.func81, rfl, rfl⟩
theorem spec_putText (args : List D) (s : S) (nm : Nat) : E.T 72 args s nm = boxF sp_putText (normL [.ints .u8, .ints .u8] args) s nm := rfl
theorem b_putText : hasBody E 72 := ⟨_, Tryd.func72, rfl, rfl⟩
theorem spec_putIn (args : List D) (s : S) (nm : Nat) : E.T 68 args s nm = boxF sp_putIn (normL [.ints .u8, .st [.id, .ints .u8, .id, .sl 1 (.ints .u8)]] args) s nm := rfl
theorem b_putIn : hasBody E 68 := ⟨_, Tryd.func68, rfl, rfl⟩
theorem spec_putOut (args : List D) (s : S) (nm : Nat) : E.T 70 args s nm = boxF sp_putOut (normL [.ints .u8, .st [.id, .ints .u8]] args) s nm := rfl
theorem b_putOut : hasBody E 70 := ⟨_, Tryd.func70, rfl, rfl⟩
theorem spec_layIn (args : List D) (s : S) (nm : Nat) : E.T 67 args s nm = boxF (sp_layIn 68) (normL [.ints .u8, .sl 36 (.st [.id, .ints .u8, .id, .sl 1 (.ints .u8)])] args) s nm := rfl
theorem b_layIn : hasBody E 67 := ⟨_, Tryd.func67, rfl, rfl⟩
theorem spec_layOut (args : List D) (s : S) (nm : Nat) : E.T 69 args s nm = boxF (sp_layOut 70) (normL [.ints .u8, .sl 2 (.st [.id, .ints .u8])] args) s nm := rfl
theorem b_layOut : hasBody E 69 := ⟨_, Tryd.func69, rfl, rfl⟩
theorem spec_layWit (args : List D) (s : S) (nm : Nat) : E.T 71 args s nm = boxF (sp_layWit 72) (normL [.ints .u8] args) s nm := rfl
theorem b_layWit : hasBody E 71 := ⟨_, Tryd.func71, rfl, rfl⟩
theorem spec_laid (args : List D) (s : S) (nm : Nat) : E.T 58 args s nm = boxF sp_laid (normL [.ints .u8, .st [.id, .sl 36 (.st [.id, .ints .u8, .id, .sl 1 (.ints .u8)]), .sl 2 (.st [.id, .ints .u8])]] args) s nm := rfl
theorem b_laid : hasBody E 58 := ⟨_, Tryd.func58, rfl, rfl⟩
theorem spec_w1 (args : List D) (s : S) (nm : Nat) : E.T 32 args s nm = seeR sp_w1 (normL [.st [.id, .ints .u8, .id, .sl 1 (.ints .u8)]] args) s := rfl
theorem b_w1 : hasBody E 32 := ⟨_, Tryd.func32, rfl, rfl⟩
theorem spec_indexIn (args : List D) (s : S) (nm : Nat) : E.T 51 args s nm = seeR (sp_indexIn 32) (normL [.sl 36 (.st [.id, .ints .u8, .id, .sl 1 (.ints .u8)])] args) s := rfl
theorem b_indexIn : hasBody E 51 := ⟨_, Tryd.func51, rfl, rfl⟩
theorem spec_containsIn (args : List D) (s : S) (nm : Nat) : E.T 31 args s nm = seeR (sp_containsIn 32) (normL [.sl 36 (.st [.id, .ints .u8, .id, .sl 1 (.ints .u8)])] args) s := rfl
theorem b_containsIn : hasBody E 31 := ⟨_, Tryd.func31, rfl, rfl⟩
theorem spec_twitnessed (args : List D) (s : S) (nm : Nat) : E.T 18 args s nm = seeR sp_twitnessed (normL [.st [.id, .sl 36 (.st [.id, .ints .u8, .id, .sl 1 (.ints .u8)]), .sl 2 (.st [.id, .ints .u8])]] args) s := rfl
theorem b_twitnessed : hasBody E 18 := ⟨_, Tryd.func18, rfl, rfl⟩
theorem spec_in1 (args : List D) (s : S) (nm : Nat) : E.T 79 args s nm = seeR sp_in1 (normL [.ints .u8] args) s := rfl
theorem b_in1 : hasBody E 79 := ⟨_, Tryd.func79, rfl, rfl⟩
theorem spec_indexB (args : List D) (s : S) (nm : Nat) : E.T 85 args s nm = seeR (sp_indexB 79) (normL [] args) s := rfl
theorem b_indexB : hasBody E 85 := ⟨_, Tryd.func85, rfl, rfl⟩
theorem spec_containsB (args : List D) (s : S) (nm : Nat) : E.T 78 args s nm = seeR (sp_containsB 79) (normL [] args) s := rfl
theorem b_containsB : hasBody E 78 := ⟨_, Tryd.func78, rfl, rfl⟩
theorem spec_tin (args : List D) (s : S) (nm : Nat) : E.T 64 args s nm = seeR sp_tin (normL [.st [.id, .ints .u8, .id, .sl 1 (.ints .u8)]] args) s := rfl
theorem b_tin : hasBody E 64 := ⟨_, Tryd.func64, rfl, rfl⟩
theorem spec_tout (args : List D) (s : S) (nm : Nat) : E.T 65 args s nm = seeR sp_tout (normL [.st [.id, .ints .u8]] args) s := rfl
theorem b_tout : hasBody E 65 := ⟨_, Tryd.func65, rfl, rfl⟩
theorem spec_tmany (args : List D) (s : S) (nm : Nat) : E.T 63 args s nm = seeR sp_tmany (normL [] args) s := rfl
theorem b_tmany : hasBody E 63 := ⟨_, Tryd.func63, rfl, rfl⟩
theorem spec_tcheck (args : List D) (s : S) (nm : Nat) : E.T 57 args s nm = seeR sp_tcheck (normL [.st [.id, .sl 36 (.st [.id, .ints .u8, .id, .sl 1 (.ints .u8)]), .sl 2 (.st [.id, .ints .u8])]] args) s := rfl
theorem b_tcheck : hasBody E 57 := ⟨_, Tryd.func57, rfl, rfl⟩
theorem spec_tput (args : List D) (s : S) (nm : Nat) : E.T 84 args s nm = seeR sp_tput (normL [.ints .u8, .st [.id, .sl 36 (.st [.id, .ints .u8, .id, .sl 1 (.ints .u8)]), .sl 2 (.st [.id, .ints .u8])]] args) s := rfl
theorem b_tput : hasBody E 84 := ⟨_, Tryd.func84, rfl, rfl⟩
theorem spec_tbare (args : List D) (s : S) (nm : Nat) : E.T 48 args s nm = seeR sp_tbare (normL [.ints .u8, .st [.id, .sl 36 (.st [.id, .ints .u8, .id, .sl 1 (.ints .u8)]), .sl 2 (.st [.id, .ints .u8])]] args) s := rfl
theorem b_tbare : hasBody E 48 := ⟨_, Tryd.func48, rfl, rfl⟩
theorem spec_tname (args : List D) (s : S) (nm : Nat) : E.T 47 args s nm = seeR sp_tname (normL [.ints .u8] args) s := rfl
theorem b_tname : hasBody E 47 := ⟨_, Tryd.func47, rfl, rfl⟩
theorem spec_tid (args : List D) (s : S) (nm : Nat) : E.T 28 args s nm = seeR sp_tid (normL [.st [.id, .sl 36 (.st [.id, .ints .u8, .id, .sl 1 (.ints .u8)]), .sl 2 (.st [.id, .ints .u8])]] args) s := rfl
theorem b_tid : hasBody E 28 := ⟨_, Tryd.func28, rfl, rfl⟩
theorem spec_tfull (args : List D) (s : S) (nm : Nat) : E.T 77 args s nm = seeR sp_tfull (normL [.st [.id, .sl 36 (.st [.id, .ints .u8, .id, .sl 1 (.ints .u8)]), .sl 2 (.st [.id, .ints .u8])]] args) s := rfl
theorem b_tfull : hasBody E 77 := ⟨_, Tryd.func77, rfl, rfl⟩
theorem spec_fulls1 (args : List D) (s : S) (nm : Nat) : E.T 76 args s nm = seeR sp_fulls1 (normL [.id, .st [.id, .sl 36 (.st [.id, .ints .u8, .id, .sl 1 (.ints .u8)]), .sl 2 (.st [.id, .ints .u8])]] args) s := rfl
theorem b_fulls1 : hasBody E 76 := ⟨_, Tryd.func76, rfl, rfl⟩
theorem spec_ids1 (args : List D) (s : S) (nm : Nat) : E.T 27 args s nm = seeR sp_ids1 (normL [.id, .st [.id, .sl 36 (.st [.id, .ints .u8, .id, .sl 1 (.ints .u8)]), .sl 2 (.st [.id, .ints .u8])]] args) s := rfl
theorem b_ids1 : hasBody E 27 := ⟨_, Tryd.func27, rfl, rfl⟩
theorem spec_names (args : List D) (s : S) (nm : Nat) : E.T 26 args s nm = seeR (sp_names 76 27) (normL [.st [.id, .sl 4 (.st [.id, .sl 36 (.st [.id, .ints .u8, .id, .sl 1 (.ints .u8)]), .sl 2 (.st [.id, .ints .u8])])]] args) s := rfl
theorem b_names : hasBody E 26 := ⟨_, Tryd.func26, rfl, rfl⟩
theorem spec_fulls (args : List D) (s : S) (nm : Nat) : E.T 62 args s nm = seeR sp_fulls (normL [.st [.id, .sl 4 (.st [.id, .sl 36 (.st [.id, .ints .u8, .id, .sl 1 (.ints .u8)]), .sl 2 (.st [.id, .ints .u8])])]] args) s := rfl
theorem b_fulls : hasBody E 62 := ⟨_, Tryd.func62, rfl, rfl⟩
theorem spec_ids (args : List D) (s : S) (nm : Nat) : E.T 16 args s nm = seeR sp_ids (normL [.st [.id, .sl 4 (.st [.id, .sl 36 (.st [.id, .ints .u8, .id, .sl 1 (.ints .u8)]), .sl 2 (.st [.id, .ints .u8])])]] args) s := rfl
theorem b_ids : hasBody E 16 := ⟨_, Tryd.func16, rfl, rfl⟩
theorem spec_hp2 (args : List D) (s : S) (nm : Nat) : E.T 50 args s nm = seeR sp_hp2 (normL [] args) s := rfl
theorem b_hp2 : hasBody E 50 := ⟨_, Tryd.func50, rfl, rfl⟩
theorem spec_hasPrefix (args : List D) (s : S) (nm : Nat) : E.T 30 args s nm = seeR sp_hasPrefix (normL [] args) s := rfl
theorem b_hasPrefix : hasBody E 30 := ⟨_, Tryd.func30, rfl, rfl⟩
theorem spec_gcommit (args : List D) (s : S) (nm : Nat) : E.T 17 args s nm = seeR sp_gcommit (normL [.st [.id, .sl 4 (.st [.id, .sl 36 (.st [.id, .ints .u8, .id, .sl 1 (.ints .u8)]), .sl 2 (.st [.id, .ints .u8])])]] args) s := rfl
theorem b_gcommit : hasBody E 17 := ⟨_, Tryd.func17, rfl, rfl⟩
theorem spec_gwanted (args : List D) (s : S) (nm : Nat) : E.T 55 args s nm = seeR sp_gwanted (normL [.st [.id, .sl 4 (.st [.id, .sl 36 (.st [.id, .ints .u8, .id, .sl 1 (.ints .u8)]), .sl 2 (.st [.id, .ints .u8])])]] args) s := rfl
theorem b_gwanted : hasBody E 55 := ⟨_, Tryd.func55, rfl, rfl⟩
theorem spec_back (args : List D) (s : S) (nm : Nat) : E.T 29 args s nm = seeR (sp_back 49) (normL [.sl 2 (.st [.id, .ints .u8])] args) s := rfl
theorem b_back : hasBody E 29 := ⟨_, Tryd.func29, rfl, rfl⟩
theorem spec_cbase (args : List D) (s : S) (nm : Nat) : E.T 10 args s nm = seeR sp_cbase (normL [.st [.id, .sl 36 (.st [.id, .ints .u8, .id, .sl 1 (.ints .u8)]), .sl 2 (.st [.id, .ints .u8])]] args) s := rfl
theorem b_cbase : hasBody E 10 := ⟨_, Tryd.func10, rfl, rfl⟩
theorem spec_csum (args : List D) (s : S) (nm : Nat) : E.T 8 args s nm = seeR sp_csum (normL [.st [.id, .sl 36 (.st [.id, .ints .u8, .id, .sl 1 (.ints .u8)]), .sl 2 (.st [.id, .ints .u8])]] args) s := rfl
theorem b_csum : hasBody E 8 := ⟨_, Tryd.func8, rfl, rfl⟩
theorem spec_cval (args : List D) (s : S) (nm : Nat) : E.T 41 args s nm = seeR sp_cval (normL [.st [.id, .sl 36 (.st [.id, .ints .u8, .id, .sl 1 (.ints .u8)]), .sl 2 (.st [.id, .ints .u8])]] args) s := rfl
theorem b_cval : hasBody E 41 := ⟨_, Tryd.func41, rfl, rfl⟩
theorem spec_double (args : List D) (s : S) (nm : Nat) : E.T 39 args s nm = seeR sp_double (normL [.st [.id, .sl 36 (.st [.id, .ints .u8, .id, .sl 1 (.ints .u8)]), .sl 2 (.st [.id, .ints .u8])]] args) s := rfl
theorem b_double : hasBody E 39 := ⟨_, Tryd.func39, rfl, rfl⟩
theorem spec_indexTx (args : List D) (s : S) (nm : Nat) : E.T 61 args s nm = seeR (sp_indexTx 10 39 41 18) (normL [.sl 4 (.st [.id, .sl 36 (.st [.id, .ints .u8, .id, .sl 1 (.ints .u8)]), .sl 2 (.st [.id, .ints .u8])])] args) s := rfl
theorem b_indexTx : hasBody E 61 := ⟨_, Tryd.func61, rfl, rfl⟩
theorem spec_containsTx (args : List D) (s : S) (nm : Nat) : E.T 54 args s nm = seeR (sp_containsTx 10 39 41 18) (normL [.sl 4 (.st [.id, .sl 36 (.st [.id, .ints .u8, .id, .sl 1 (.ints .u8)]), .sl 2 (.st [.id, .ints .u8])])] args) s := rfl
theorem b_containsTx : hasBody E 54 := ⟨_, Tryd.func54, rfl, rfl⟩
theorem spec_none (args : List D) (s : S) (nm : Nat) : E.T 38 args s nm = seeR (sp_none 10 39 41 18) (normL [.sl 4 (.st [.id, .sl 36 (.st [.id, .ints .u8, .id, .sl 1 (.ints .u8)]), .sl 2 (.st [.id, .ints .u8])])] args) s := rfl
theorem b_none : hasBody E 38 := ⟨_, Tryd.func38, rfl, rfl⟩
theorem spec_coinbase (args : List D) (s : S) (nm : Nat) : E.T 36 args s nm = seeR sp_coinbase (normL [.st [.id, .sl 4 (.st [.id, .sl 36 (.st [.id, .ints .u8, .id, .sl 1 (.ints .u8)]), .sl 2 (.st [.id, .ints .u8])])]] args) s := rfl
theorem b_coinbase : hasBody E 36 := ⟨_, Tryd.func36, rfl, rfl⟩
theorem spec_rule1 (args : List D) (s : S) (nm : Nat) : E.T 37 args s nm = seeR sp_rule1 (normL [.st [.id, .sl 4 (.st [.id, .sl 36 (.st [.id, .ints .u8, .id, .sl 1 (.ints .u8)]), .sl 2 (.st [.id, .ints .u8])])]] args) s := rfl
theorem b_rule1 : hasBody E 37 := ⟨_, Tryd.func37, rfl, rfl⟩
theorem spec_rule2 (args : List D) (s : S) (nm : Nat) : E.T 40 args s nm = seeR sp_rule2 (normL [.st [.id, .sl 4 (.st [.id, .sl 36 (.st [.id, .ints .u8, .id, .sl 1 (.ints .u8)]), .sl 2 (.st [.id, .ints .u8])])]] args) s := rfl
theorem b_rule2 : hasBody E 40 := ⟨_, Tryd.func40, rfl, rfl⟩
theorem spec_rule3 (args : List D) (s : S) (nm : Nat) : E.T 42 args s nm = seeR sp_rule3 (normL [.st [.id, .sl 4 (.st [.id, .sl 36 (.st [.id, .ints .u8, .id, .sl 1 (.ints .u8)]), .sl 2 (.st [.id, .ints .u8])])]] args) s := rfl
theorem b_rule3 : hasBody E 42 := ⟨_, Tryd.func42, rfl, rfl⟩
theorem spec_rule4 (args : List D) (s : S) (nm : Nat) : E.T 43 args s nm = seeR sp_rule4 (normL [.st [.id, .sl 4 (.st [.id, .sl 36 (.st [.id, .ints .u8, .id, .sl 1 (.ints .u8)]), .sl 2 (.st [.id, .ints .u8])])]] args) s := rfl
theorem b_rule4 : hasBody E 43 := ⟨_, Tryd.func43, rfl, rfl⟩
theorem spec_cwitnessed (args : List D) (s : S) (nm : Nat) : E.T 44 args s nm = seeR sp_cwitnessed (normL [.st [.id, .sl 4 (.st [.id, .sl 36 (.st [.id, .ints .u8, .id, .sl 1 (.ints .u8)]), .sl 2 (.st [.id, .ints .u8])])]] args) s := rfl
theorem b_cwitnessed : hasBody E 44 := ⟨_, Tryd.func44, rfl, rfl⟩
theorem spec_rules (args : List D) (s : S) (nm : Nat) : E.T 23 args s nm = seeR (sp_rules 36 37 40 42 43 44) (normL [] args) s := rfl
theorem b_rules : hasBody E 23 := ⟨_, Tryd.func23, rfl, rfl⟩
theorem spec_cblock (args : List D) (s : S) (nm : Nat) : E.T 14 args s nm = seeR sp_cblock (normL [.st [.id, .sl 4 (.st [.id, .sl 36 (.st [.id, .ints .u8, .id, .sl 1 (.ints .u8)]), .sl 2 (.st [.id, .ints .u8])])]] args) s := rfl
theorem b_cblock : hasBody E 14 := ⟨_, Tryd.func14, rfl, rfl⟩
theorem spec_plain (args : List D) (s : S) (nm : Nat) : E.T 19 args s nm = seeR sp_plain (normL [] args) s := rfl
theorem b_plain : hasBody E 19 := ⟨_, Tryd.func19, rfl, rfl⟩
theorem spec_cworks (args : List D) (s : S) (nm : Nat) : E.T 12 args s nm = seeR sp_cworks (normL [] args) s := rfl
theorem b_cworks : hasBody E 12 := ⟨_, Tryd.func12, rfl, rfl⟩
theorem spec_cwith (args : List D) (s : S) (nm : Nat) : E.T 20 args s nm = seeR sp_cwith (normL [.ints .u8, .ints .i64] args) s := rfl
theorem b_cwith : hasBody E 20 := ⟨_, Tryd.func20, rfl, rfl⟩
end Go.Vi.CK
end

section
/-
  A PIECE OF CODE THAT IS RIGHT, however that was shown: by the transformer, or by a walk of the kit's own; the two one behind the other.
-/
set_option linter.unusedVariables false
namespace Go.Vi
open Go.RowKit

def Good (E : Env) (N : Nat) (g0 : Gh) (w0 : World) (Q : AQ) (c : Code) (sl : List (Nat × D)) (s : S) : Prop :=
  ∀ g w a, Know E N sl s g a w → (Keeps g0 w0 g w ∧ Marked w0 w a) → c.wp E.P (Conc E N g0 w0 Q) a w
/-- The ghost at the start: nothing is told of but what may not turn. -/
def BareG (g0 : Gh) (w0 : World) : Prop := (∀ i, g0.box i = none ∧ g0.tok i = none) ∧ (∀ b, w0.heap.size ≤ b → g0.lim b = 0)
theorem conc_less {E : Env} {N : Nat} {g0 : Gh} {w0 : World} {Q Q' : AQ} (h : ∀ e sl s, Q e sl s → Q' e sl s) {e : Exit} {a : Act} {w : World} (hc : Conc E N g0 w0 Q e a w) : Conc E N g0 w0 Q' e a w := by
  obtain ⟨g, sl, s, h1, h2⟩ := hc
  exact ⟨g, sl, s, h _ _ _ h1, h2⟩
theorem good_awp {E : Env} (hE : EnvOk E) {N : Nat} {g0 : Gh} {w0 : World} (hb : BareG g0 w0) {Q : AQ} {c : Code} {sl : List (Nat × D)} {s : S} (h : awp E N c Q sl s) : Good E N g0 w0 Q c sl s := fun g w a hk hp =>
  wp_mono (awp_sound hE c Q sl s g0 g w0 w a h hk hp (fun i _ => hb.1 i) hb.2) fun e a w hc => conc_less (fun _ _ _ h => h.1) hc
theorem good_seq {E : Env} (hE : EnvOk E) {N : Nat} {g0 : Gh} {w0 : World} (hb : BareG g0 w0) {Q : AQ} {x y : Code} {sl : List (Nat × D)} {s : S} (h : awp E N x (thenQ (fun sl' s' => Good E N g0 w0 Q y sl' s') Q) sl s) : Good E N g0 w0 Q (x.seq y) sl s := fun g w a hk hp =>
  wp_seq (wp_mono (awp_sound hE x _ sl s g0 g w0 w a h hk hp (fun i _ => hb.1 i) hb.2) fun e a w hc =>
    conc_then (Q := Q) (K := fun sl' s' => Good E N g0 w0 Q y sl' s') (conc_less (fun _ _ _ h => h.1) hc) (fun g sl s a w hG hk hp => hG g w a hk hp) fun e a w h => h)
end Go.Vi
end

section
/-
  A SET OF WHAT INPUTS NAME: how many there are, beside how many inputs.
-/
set_option linter.unusedVariables false
set_option linter.unusedSimpArgs false
namespace Go.Vi
open Go.Maps Go.WideShapes

/-- The map, behind the keys ks were counted. -/
def Counted (D : DataW Unit) (ks : List Lit) : Prop := Tidy D ∧ (∀ k, Maps.has D k = ks.any fun y => y.sameKey k) ∧ Maps.size D ≤ ks.length ∧ (Maps.size D = ks.length ↔ ks.Nodup)
theorem counted_nil : Counted (.map []) [] := ⟨tidy_empty, fun _ => rfl, Nat.le_refl _, by simp [Maps.size]⟩
theorem counted_step {D : DataW Unit} {ks : List Lit} {x : Lit} (d : DataW Unit) (hx : WideAt.IsKeyLit x) (h : Counted D ks) : Counted (D.put x d) (ks ++ [x]) := by
  obtain ⟨ht, hh, hl, hs⟩ := h
  have hsz := size_put (k := x) ht d
  have hin : Maps.has D x = true ↔ x ∈ ks := by
    rw [hh x, List.any_eq_true]
    constructor
    · rintro ⟨y, hy, he⟩
      rw [← WideAt.sameKey_eq he]; exact hy
    · intro hm
      exact ⟨x, hm, WideAt.sameKey_self hx⟩
  refine ⟨ht.put hx d, fun k => ?_, ?_, ?_⟩
  · by_cases e : k = x
    · subst e
      rw [has_put_same ht.isMap hx]
      simp [WideAt.sameKey_self hx]
    · rw [has_put_other e, hh k]
      simp [sameKey_ne (fun e' => e e'.symm)]
  · rw [hsz, List.length_append]
    simp only [List.length_cons, List.length_nil]
    split <;> omega
  · rw [hsz, List.length_append]
    simp only [List.length_cons, List.length_nil]
    cases hc : Maps.has D x
    · have hni : x ∉ ks := fun hm => by rw [hin.2 hm] at hc; cases hc
      simp only [Bool.false_eq_true, if_false]
      rw [List.nodup_append]
      constructor
      · intro h
        refine ⟨hs.1 (by omega), by simp, ?_⟩
        intro a ha b hb e
        obtain rfl := List.mem_singleton.1 hb
        exact hni (e ▸ ha)
      · intro h
        rw [hs.2 h.1]
    · have hm := hin.1 hc
      simp only [if_true]
      constructor
      · intro h; omega
      · intro h
        exfalso
        rw [List.nodup_append] at h
        exact h.2.2 x hm x (by simp) rfl
theorem nodup_map_iff {α β γ : Type} {f : α → β} {g : α → γ} {l : List α} (h : ∀ x ∈ l, ∀ y ∈ l, f x = f y ↔ g x = g y) : (l.map f).Nodup ↔ (l.map g).Nodup := by
  unfold List.Nodup
  rw [List.pairwise_map, List.pairwise_map]
  constructor
  · intro hp
    exact hp.imp_of_mem fun {a b} ha hb hne e => hne ((h a ha b hb).2 e)
  · intro hp
    exact hp.imp_of_mem fun {a b} ha hb hne e => hne ((h a ha b hb).1 e)
theorem mapM_some {α β : Type} (f : α → Option β) : ∀ l : List α, (∀ x ∈ l, ∃ y, f x = some y) → ∃ ys, l.mapM f = some ys
  | [], _ => ⟨[], rfl⟩
  | a :: r, h => by
    obtain ⟨y, hy⟩ := h a (by simp)
    obtain ⟨ys, hys⟩ := mapM_some f r fun x hx => h x (by simp [hx])
    exact ⟨y :: ys, by rw [List.mapM_cons, hy, hys]; rfl⟩
/-- What an input names, as a value. -/
def keyV (x : InP) : Value := .agg (Go.Vi.ints .u8 x.prev ++ [Value.int .u32 x.ix]).toArray
theorem ints_inj {k : IntKind} : ∀ {a b : List Int}, Go.Vi.ints k a = Go.Vi.ints k b → a = b
  | [], [], _ => rfl
  | [], y :: b, h => by simp [Go.Vi.ints] at h
  | x :: a, [], h => by simp [Go.Vi.ints] at h
  | x :: a, y :: b, h => by
    simp only [Go.Vi.ints, List.map_cons, List.cons.injEq, Value.int.injEq, true_and] at h
    rw [h.1, ints_inj (k := k) h.2]
theorem keyV_inj {x y : InP} (h : keyV x = keyV y) : keyI x = keyI y := by
  simp only [keyV, Value.agg.injEq] at h
  have h := congrArg Array.toList h
  simp only [List.toList_toArray] at h
  have h1 := List.append_inj_left' h rfl
  have h2 := List.append_inj_right' h rfl
  simp only [List.cons.injEq, Value.int.injEq, true_and, and_true] at h2
  unfold keyI
  rw [ints_inj h1, h2]
theorem keyI_V {x y : InP} (h : keyI x = keyI y) : keyV x = keyV y := by
  unfold keyI at h
  simp only [Prod.mk.injEq] at h
  unfold keyV
  rw [h.1, h.2]
theorem key_some {P : Program} {K A B U : TypeId} {fs : Array Field} (hK : P.underlying K = some (.struct fs)) (hA : P.underlying A = some (.array 32 B)) (hB : P.underlying B = some (.int .u8)) (hU : P.underlying U = some (.int .u32))
    (cK : P.cellsOf K = 33) (cA : P.cellsOf A = 32) (cB : P.cellsOf B = 1) (cU : P.cellsOf U = 1) (hfs : ∀ f ∈ fs.toList, (f.type = A ∧ f.offset = 0) ∨ (f.type = U ∧ f.offset = 32)) (hn : fs.all (·.name != "_") = true)
    (hkt : P.keyType K = true) (hsz : ∃ m, P.types.size = m + 2) {x : InP} (hp : x.prev.length = 32) (hb : bytes x.prev) (hi : u32ok x.ix) : ∃ kl, keyOf P K (keyV x) = some kl := by
  obtain ⟨m, hm⟩ := hsz
  have hlen : (Go.Vi.ints .u8 x.prev ++ [Value.int .u32 x.ix]).length = 33 := by simp [Go.Vi.ints, hp]
  have hform : (keyV x).formed P K = true := by simp [keyV, Value.formed, hK, cK, Go.Vi.ints, hp]
  have hl : ∃ ls, P.keyLits (P.types.size + 1) K (keyV x).cells.toList = some ls := by
    rw [hm]
    show ∃ ls, P.keyLits (m + 3) K (keyV x).cells.toList = some ls
    have hc : (keyV x).cells.toList = Go.Vi.ints .u8 x.prev ++ [Value.int .u32 x.ix] := by simp [keyV, Value.cells]
    rw [hc]
    obtain ⟨ys, hys⟩ := mapM_some (fun f : Field => P.keyLits (m + 2) f.type (((Go.Vi.ints .u8 x.prev ++ [Value.int .u32 x.ix]).drop f.offset).take (P.cellsOf f.type))) fs.toList (by
      intro f hf
      rcases hfs f hf with ⟨h1, h2⟩ | ⟨h1, h2⟩
      · rw [h1, h2, cA]
        have e1 : ((Go.Vi.ints .u8 x.prev ++ [Value.int .u32 x.ix]).drop 0).take 32 = Go.Vi.ints .u8 x.prev := by
          rw [List.drop_zero, List.take_append_of_le_length (by simp [Go.Vi.ints, hp]), List.take_of_length_le (by simp [Go.Vi.ints, hp])]
        rw [e1]
        obtain ⟨zs, hzs⟩ := mapM_some (fun i => P.keyLits (m + 1) B (((Go.Vi.ints .u8 x.prev).drop (i * P.cellsOf B)).take (P.cellsOf B))) (List.range 32) (by
          intro i hi
          have hi : i < 32 := by simpa using hi
          rw [cB, Nat.mul_one]
          have e2 : ((Go.Vi.ints .u8 x.prev).drop i).take 1 = [.int .u8 (x.prev.getD i 0)] := by
            have hil : i < (Go.Vi.ints .u8 x.prev).length := by simp [Go.Vi.ints, hp, hi]
            rw [List.drop_eq_getElem_cons hil]
            simp [Go.Vi.ints, List.getD, hp, hi]
          rw [e2]
          have hby := hb (x.prev.getD i 0) (getD_memI (by omega))
          refine ⟨[.int .u8 (x.prev.getD i 0)], ?_⟩
          simp only [Program.keyLits, hB]
          rw [if_pos ⟨trivial, by simp only [Lit.wf, Bool.and_eq_true, decide_eq_true_eq, show IntKind.u8.min = 0 from rfl, show IntKind.u8.max = 255 from rfl]; omega⟩])
        refine ⟨zs.flatten, ?_⟩
        rw [Program.keyLits.eq_def]
        simp only [hA]
        rw [if_pos (by rw [cA]; simp [Go.Vi.ints, hp])]
        show Option.map List.flatten ((List.range 32).mapM fun i => P.keyLits (m + 1) B (((Go.Vi.ints .u8 x.prev).drop (i * P.cellsOf B)).take (P.cellsOf B))) = _
        rw [hzs]; rfl
      · rw [h1, h2, cU]
        have e1 : ((Go.Vi.ints .u8 x.prev ++ [Value.int .u32 x.ix]).drop 32).take 1 = [Value.int .u32 x.ix] := by
          rw [List.drop_append_of_le_length (by simp [Go.Vi.ints, hp]), List.drop_of_length_le (by simp [Go.Vi.ints, hp])]
          rfl
        rw [e1]
        refine ⟨[.int .u32 x.ix], ?_⟩
        simp only [Program.keyLits, hU]
        unfold u32ok at hi
        rw [if_pos ⟨trivial, by simp only [Lit.wf, Bool.and_eq_true, decide_eq_true_eq, show IntKind.u32.min = 0 from rfl, show IntKind.u32.max = 4294967295 from rfl]; omega⟩])
    refine ⟨ys.flatten, ?_⟩
    rw [Program.keyLits.eq_def]
    simp only [hK]
    rw [if_pos ⟨by rw [cK]; exact hlen, hn⟩, hys]; rfl
  obtain ⟨ls, hls⟩ := hl
  refine ⟨.string (keyBytes ls), ?_⟩
  unfold keyOf
  simp only [hK, hkt, hform, Bool.and_self, if_true]
  rw [hls]; rfl
end Go.Vi
end

section
/-
  OPERATIONS ON A MAP THAT IS COUNTED IN, at the operation: a look-up, an entry, its store; loads and stores of wide values.
-/
set_option linter.unusedVariables false
set_option linter.unusedSimpArgs false
namespace Go.Vi
open Go.Maps Go.WideShapes Go.ChangeMaps Go.MapKept
open Go.WideElems (Fit rd rg pl rd_val elemAt entry_then_store)
open Go.WideMaps (KeyLaw)

theorem owp_eq {P : Program} {o : Oper} {a : Act} {w w' : World} {K : Act → World → Prop} {Q : Exit → Act → World → Prop} {v : Value} (hrun : (execOp a.eval o).run P w = .ok (.value v) w') (h : K (a.put o.dst v) w') : o.wp P a w K Q := by
  unfold Oper.wp
  rw [hrun]
  exact h
theorem owp_skip {P : Program} {o : Oper} {a : Act} {w w' : World} {K : Act → World → Prop} {Q : Exit → Act → World → Prop} (hrun : (execOp a.eval o).run P w = .ok .skip w') (h : K (a.put o.dst undef) w') : o.wp P a w K Q := by
  unfold Oper.wp
  rw [hrun]
  exact h
theorem any_step {P : Program} {md : Region.Mode} {ops : Array Oper} {Q : Exit → Act → World → Prop} {fuel : Nat} {listed : Array Bool} {a : Act} {w w' : World} {i : Nat} {rs : List Nat} {o : Oper} {v : Value} (ho : ops[i]? = some o) (hg : o.guard = none)
    (hrun : (execOp a.eval o).run P w = .ok (.value v) w') (h : wpAny P md ops Q fuel (listed.setIfInBounds i true) (a.put o.dst v) w') (hs : AllReady P md ops Q fuel listed a w rs) : AllReady P md ops Q fuel listed a w (i :: rs) :=
  AllReady.cons ho (fun K hK => by rw [if_pos (by simp [Region.wanted, hg])]; exact owp_eq hrun (hK _ _ h)) hs
theorem any_skip {P : Program} {md : Region.Mode} {ops : Array Oper} {Q : Exit → Act → World → Prop} {fuel : Nat} {listed : Array Bool} {a : Act} {w w' : World} {i : Nat} {rs : List Nat} {o : Oper} (ho : ops[i]? = some o) (hg : o.guard = none)
    (hrun : (execOp a.eval o).run P w = .ok .skip w') (h : wpAny P md ops Q fuel (listed.setIfInBounds i true) (a.put o.dst undef) w') (hs : AllReady P md ops Q fuel listed a w rs) : AllReady P md ops Q fuel listed a w (i :: rs) :=
  AllReady.cons ho (fun K hK => by rw [if_pos (by simp [Region.wanted, hg])]; exact owp_skip hrun (hK _ _ h)) hs
theorem wpAny_as {P : Program} {md : Region.Mode} {ops : Array Oper} {Q : Exit → Act → World → Prop} {fuel : Nat} {listed : Array Bool} {a : Act} {w : World} (a' : Act) (ha : a = a') (h : wpAny P md ops Q fuel listed a' w) : wpAny P md ops Q fuel listed a w := ha ▸ h
section
variable {P : Program} {w w' : World} {ρ : Operand → Value} {o : Oper}
theorem exec_load {t : TypeId} {x : Operand} {p v : Value} (h : o.op = .load t x) (hp : ρ x = p) (hrun : (Instr.loadAt t p).run P w = .ok v w') : (execOp ρ o).run P w = .ok (.value v) w' := by
  simp [execOp, h, hp, hrun, Result.andThen]
theorem exec_lookup {t : TypeId} {m x : Operand} {mv key v : Value} (h : o.op = .lookup t m x false) (hm : ρ m = mv) (hx : ρ x = key) (hrun : (Instr.lookup t mv key false).run P w = .ok v w') : (execOp ρ o).run P w = .ok (.value v) w' := by
  simp [execOp, h, hm, hx, hrun, Result.andThen]
theorem exec_entry {t : TypeId} {m x : Operand} {mv key v : Value} (h : o.op = .mapEntry t m x) (hm : ρ m = mv) (hx : ρ x = key) (hrun : (Instr.mapEntry t mv key).run P w = .ok v w') : (execOp ρ o).run P w = .ok (.value v) w' := by
  simp [execOp, h, hm, hx, hrun, Result.andThen]
theorem exec_entryStore {t : TypeId} {m x y : Operand} {mv st v : Value} (h : o.op = .entryStore t m x y) (hm : ρ m = mv) (hx : ρ x = st) (hy : ρ y = v) (hrun : (Instr.entryStore t mv st v).run P w = .ok () w') : (execOp ρ o).run P w = .ok .skip w' := by
  simp [execOp, h, hm, hx, hy, hrun, Result.andThen]
end
section
variable {P : Program} (w : World) {ops : Array Oper} {rest : List Oper} {o : Oper} {a : Act} {Q : Exit → Act → World → Prop}
theorem wpList_load_eq (hg : o.guard = none) (t : TypeId) (x : Operand) (hop : o.op = Op.load t x) (p v : Value) (hx : a.eval x = p) (hrun : (Instr.loadAt t p).run P w = .ok v w) (hK : wpList P ops Q rest (a.put o.dst v) w) : wpList P ops Q (o :: rest) a w := by
  refine wpList_plain hg fun K' hK' => ?_
  unfold Oper.wp
  simp [execOp, hop, hx, hrun, Result.andThen]
  exact hK' _ _ hK
theorem wpList_store_eq (hg : o.guard = none) (t : TypeId) (x y : Operand) (hop : o.op = Op.store t x y) (p v : Value) (hx : a.eval x = p) (hy : a.eval y = v) (w' : World) (hrun : (Instr.storeAt t p v).run P w = .ok () w') (hK : wpList P ops Q rest (a.put o.dst undef) w') : wpList P ops Q (o :: rest) a w := by
  refine wpList_plain hg fun K' hK' => ?_
  unfold Oper.wp
  simp [execOp, hop, hx, hy, hrun, Result.andThen]
  exact hK' _ _ hK
end
theorem run_loadAt_cells {P : Program} {w : World} {t : TypeId} {b off : Nat} {cs : List Value} (ha : (isAgg t).run P w = .ok true w) (hs : (sizeOf t).run P w = .ok cs.length w)
    (h : ∀ j v, cs[j]? = some v → w.cell? ⟨b, off + j, none⟩ = some v) : (Instr.loadAt t (.pointer (some ⟨b, off, none⟩))).run P w = .ok (.agg cs.toArray) w := by
  have hadd : ∀ j, (⟨b, off, none⟩ : Addr).add j = ⟨b, off + j, none⟩ := fun j => by unfold Addr.add; split <;> simp_all
  have := run_loadCells_list (P := P) w ⟨b, off, none⟩ cs (fun j v hv => by rw [hadd]; exact h j v hv)
  simp only [Instr.loadAt, Instr.sureAddr, loadVar, Sem.run_bind, Sem.run_pure, Result.andThen, ha, hs, if_true]
  rw [this]
theorem loadW {P : Program} {w : World} {t : TypeId} {n : Nat} {z : Option Value} (ha : (isAgg t).run P w = .ok true w) (hi : (P.info? t).map (fun i => (i.zero, i.size)) = some (z, n)) {b off : Nat} {cs : List Value} (hl : cs.length = n)
    (h : ∀ j v, cs[j]? = some v → w.cell? ⟨b, off + j, none⟩ = some v) : (Instr.loadAt t (.pointer (some ⟨b, off, none⟩))).run P w = .ok (.agg cs.toArray) w := by
  refine run_loadAt_cells ha ?_ h
  cases hq : P.info? t with
  | none => simp [hq] at hi
  | some i =>
    simp [hq] at hi
    simp [sizeOf, typeInfo, hq, hi.2, hl]

/-- A map's entry, and its store. -/
theorem entry3 {P : Program} {k t e : TypeId} {b n : Nat} {w : World} {D : DataW Unit} (K : KeyLaw P k) (ht : P.underlying t = some (.map k e)) (he : P.underlying e = some (.int .i64)) (hz : ∀ u : World, (zeroValue e).run P u = .ok (.int .i64 0) u)
    (hown : w.ownsMap P k (plainElem P e) b n D) (hn : n < maxLen) {key : Value} {kl : Lit} (hkey : keyOf P k key = some kl) :
    ∃ (v0 : Value) (st : Nat) (W1 : World), (Instr.mapEntry t (.map (some b)) key).run P w = .ok (.tuple #[v0, goInt st]) W1 ∧ (∃ D1 : DataW Unit, W1.ownsMap P k (plainElem P e) b (n + 1) D1) ∧ w.grownBy W1 (some b) ∧
      ∀ (x : Int), (Lit.int .i64 x).wf = true → ∃ W4, (Instr.entryStore t (.map (some b)) (goInt st) (.int .i64 x)).run P W1 = .ok () W4 ∧ W4.ownsMap P k (plainElem P e) b (n + 1) (D.put kl (.lit (.int .i64 x))) ∧ w.grownBy W4 (some b) := by
  have KD : Keyed P k := Keyed.of_law K
  have hown0 := hown
  obtain ⟨es, clock, hb, F, hs, rfl⟩ := hown
  obtain ⟨v0, st, es1, clock1, hE, hv0, hS⟩ := entry_then_store K ht hz hb F hkey
  have hW1 : (setBlock w b (.map es1 clock1)).heap[b]? = some (.map es1 clock1) := heap_setBlock_same hb _
  have hg1 : w.grownBy (setBlock w b (.map es1 clock1)) (some b) := ⟨rfl, rfl, rfl, by simp [setBlock], fun i _ hi => heap_setBlock_other hb _ (fun e => hi (by rw [e]))⟩
  refine ⟨v0, st, _, hE, ?_, hg1, fun x hx => ?_⟩
  · rcases K.find w hkey es.toList F.keys with ⟨h1, h2⟩ | ⟨j, e0, h1, h2, h3⟩
    · have hE' : (Instr.mapEntry t (.map (some b)) key).run P w = .ok (.tuple #[.int .i64 0, goInt clock]) (setBlock w b (.map (es.push ⟨key, .int .i64 0, clock⟩) (clock + 1))) := by
        simp [Instr.mapEntry, run_underlying ht, MapKept.run_getObj_map hb, K.check w false hkey, h1, hz, MapKept.run_setObj_map _ hb, Result.andThen, setBlock]
      have hU : (Instr.mapUpdate t (.map (some b)) key (.int .i64 0)).run P w = .ok () (setBlock w b (.map (es.push ⟨key, .int .i64 0, clock⟩) (clock + 1))) := by
        simp [Instr.mapUpdate, run_underlying ht, MapKept.run_getObj_map hb, K.check w false hkey, h1, MapKept.run_setObj_map _ hb, Result.andThen, setBlock]
      rw [hE] at hE'
      simp only [Result.ok.injEq] at hE'
      rw [hE'.2]
      obtain ⟨w', hr, ho, _⟩ := hown0.update KD ht hn hkey (plainElem_int (H := Unit) he (show (Lit.int .i64 0).wf = true by decide))
      rw [hU] at hr
      simp only [Result.ok.injEq, true_and] at hr
      rw [hr]
      exact ⟨_, ho⟩
    · have hj : es[j]? = some e0 := by simpa using h2
      have hsame : es.modify j (fun e => { e with key := key }) = es := by
        apply Array.ext'
        rw [Array.toList_modify, modify_eq_set _ _ _ _ h2]
        have : ({ e0 with key := key } : MapEntry) = e0 := by rw [← h3]
        rw [this]
        exact Go.WideElems.set_self _ _ _ h2
      have hE' : (Instr.mapEntry t (.map (some b)) key).run P w = .ok (.tuple #[e0.val, goInt e0.born]) (setBlock w b (.map es clock)) := by
        simp [Instr.mapEntry, run_underlying ht, MapKept.run_getObj_map hb, K.check w false hkey, h1, hj, h3, K.stays w hkey, hsame, MapKept.run_setObj_map _ hb, Result.andThen, setBlock]
      rw [hE] at hE'
      simp only [Result.ok.injEq] at hE'
      rw [hE'.2]
      exact ⟨_, es, clock, heap_setBlock_same hb _, F, by omega, rfl⟩
  · obtain ⟨es', clock', hst, hup⟩ := hS _ (.int .i64 x) hW1
    obtain ⟨w', hr, ⟨es2, clock2, hb2, F2, hs2, hD2⟩, hg⟩ := hown0.update KD ht hn hkey (plainElem_int (H := Unit) he hx)
    rw [hup] at hr
    simp only [Result.ok.injEq, true_and] at hr
    subst hr
    have hbb : (setBlock w b (.map es' clock')).heap[b]? = some (.map es' clock') := heap_setBlock_same hb _
    rw [hbb] at hb2
    simp only [Option.some.injEq, Obj.map.injEq] at hb2
    obtain ⟨rfl, rfl⟩ := hb2
    refine ⟨_, hst, ⟨es', clock', heap_setBlock_same hW1 _, F2, hs2, hD2⟩, ⟨rfl, rfl, rfl, by simp [setBlock], fun i hi hi2 => ?_⟩⟩
    have hne : i ≠ b := fun e => hi2 (by rw [e])
    rw [heap_setBlock_other hW1 _ hne]
    exact heap_setBlock_other hb _ hne
end Go.Vi
end

section
/-
  THE CHAPTER's BLOCK passes; with another Root it does not.
-/
set_option linter.unusedVariables false
set_option linter.unusedSimpArgs false
namespace Go.Vi
theorem plain_base : baseP plainP = true := rfl
theorem plain_ptx : txs [D.agg [.int .u32 0, .sl .no 36 [D.agg [D.agg [D.arr .u8 32 (List.replicate 32 0), .int .u32 4294967295], .sli .no .u8 [1, 2], .int .u32 0, .sl .no 1 []]], .sl .no 2 [D.agg [.int .i64 50, .sli .no .u8 []]], .int .u32 0]] = [plainP] := rfl
theorem ids_one (t : TxP) : idsP [t] = [idP t] := rfl
theorem rootP_one (x : List Int) : rootP [x] = x := root_one (l := [x]) (i := 0) (by simp) (by simp)
theorem allP_one (x : List Int) : allP [x] = [] := by
  have hd : dep [x].length = 0 := by rw [dep]; simp
  unfold allP; rw [hd]; rfl
theorem plain_rule (hr : List Int) (j : Nat) (hj : j < 6) : ruleP j [plainP] hr = if j = 3 then decide (idP plainP = hr) else true := by
  match j, hj with
  | 0, _ => rfl
  | 1, _ => rfl
  | 2, _ => rfl
  | 3, _ => show decide (rootP (idsP [plainP]) = hr) = _; rw [ids_one, rootP_one]; rfl
  | 4, _ => show (!mutP (allP (idsP [plainP]))) = _; rw [ids_one, allP_one]; rfl
  | 5, _ => rfl
theorem plain_block : blockP [plainP] (idP plainP) = 0 := block_yes fun j hj => by
  rw [plain_rule _ j hj]
  split
  · exact decide_eq_true rfl
  · rfl
theorem plain_block_no {hr : List Int} (h : hr ≠ idP plainP) : blockP [plainP] hr = 20 :=
  block_no (k := 3) (by decide) (fun j hj => by rw [plain_rule _ j (by omega), if_neg (by omega)]) (by rw [plain_rule _ 3 (by decide), if_pos rfl]; exact decide_eq_false fun e => h e.symm)
set_option maxRecDepth 100000 in
theorem xor1_ne : ∀ x : Fin 256, xorI .u8 ((x.1 : Nat) : Int) 1 ≠ ((x.1 : Nat) : Int) := by decide
theorem xor1_ne' {x : Int} (h : 0 ≤ x ∧ x < 256) : xorI .u8 x 1 ≠ x := by
  have := xor1_ne ⟨x.toNat, by omega⟩
  simp only at this
  rwa [show ((x.toNat : Nat) : Int) = x by omega] at this
theorem id_bytesP (t : TxP) : bytes (idP t) := by
  unfold idP
  split
  · exact bytes_sum _
  · exact bytes_rep 32
theorem set_ne {l : List Int} (hl : l.length = 32) (hb : bytes l) : l.set 0 (xorI .u8 (l.getD 0 0) 1) ≠ l := by
  intro e
  have h0 : 0 < l.length := by omega
  have h1 : (l.set 0 (xorI .u8 (l.getD 0 0) 1)).getD 0 0 = xorI .u8 (l.getD 0 0) 1 := by simp [List.getD, h0]
  rw [e] at h1
  have hm : l.getD 0 0 ∈ l := getD_memI h0
  exact xor1_ne' (hb _ hm) h1.symm
end Go.Vi
end

section
/-
  THE CHAPTER's OTHER BLOCKS: which error each meets.
-/
set_option linter.unusedVariables false
set_option linter.unusedSimpArgs false
namespace Go.Vi
theorem with_base (s vs : List Int) : baseP (withT s vs) = true := by
  show (decide (List.replicate 32 (0 : Int) = List.replicate 32 0) && decide ((4294967295 : Int) = 4294967295)) = true
  rfl
theorem with_mark : ∀ vs : List Int, lastMark (vs.map fun v => (⟨v, []⟩ : OutP)) = none
  | [] => rfl
  | v :: r => by simp only [List.map_cons, lastMark, with_mark r]; rfl
theorem with_coin (s vs : List Int) : coinP [withT s vs] = (decide (2 ≤ s.length) && decide (s.length ≤ 100)) := by
  show ((baseP (withT s vs) && !([] : List TxP).any baseP) && _) = _
  rw [with_base]; rfl
theorem with_witP (s vs : List Int) : witP [withT s vs] = true := by
  have : commitP [withT s vs] = none := with_mark vs
  unfold witP
  rw [this]; rfl
theorem with_rule (s vs hr : List Int) (j : Nat) (hj : j < 6) : ruleP j [withT s vs] hr = match j with
    | 0 => decide (2 ≤ s.length) && decide (s.length ≤ 100)
    | 2 => !badP (withT s vs)
    | 3 => decide (idP (withT s vs) = hr)
    | _ => true := by
  match j, hj with
  | 0, _ => exact with_coin s vs
  | 1, _ => rfl
  | 2, _ => show (!([withT s vs]).any badP) = _; simp [List.any_cons]
  | 3, _ => show decide (rootP (idsP [withT s vs]) = hr) = decide (idP (withT s vs) = hr); rw [ids_one, rootP_one]
  | 4, _ => show (!mutP (allP (idsP [withT s vs]))) = _; rw [ids_one, allP_one]; rfl
  | 5, _ => exact with_witP s vs
theorem with_ok {s vs : List Int} (h1 : 2 ≤ s.length) (h2 : s.length ≤ 100) (hb : badP (withT s vs) = false) : blockP [withT s vs] (idP (withT s vs)) = 0 := block_yes fun j hj => by
  rw [with_rule _ _ _ j hj]
  match j, hj with
  | 0, _ => show (decide (2 ≤ s.length) && decide (s.length ≤ 100)) = true; rw [decide_eq_true h1, decide_eq_true h2]; rfl
  | 1, _ => rfl
  | 2, _ => show (!badP (withT s vs)) = true; rw [hb]; rfl
  | 3, _ => exact decide_eq_true rfl
  | 4, _ => rfl
  | 5, _ => rfl
theorem with_23 {s vs : List Int} (h : ¬ (2 ≤ s.length ∧ s.length ≤ 100)) : blockP [withT s vs] (idP (withT s vs)) = 23 :=
  block_no (k := 0) (by decide) (fun j hj => by omega) (by
    rw [with_rule _ _ _ 0 (by decide)]
    show (decide (2 ≤ s.length) && decide (s.length ≤ 100)) = false
    by_cases h1 : 2 ≤ s.length
    · rw [decide_eq_false (p := s.length ≤ 100) (fun h2 => h ⟨h1, h2⟩), Bool.and_false]
    · rw [decide_eq_false h1, Bool.false_and])
theorem with_32 {s vs : List Int} (h1 : 2 ≤ s.length) (h2 : s.length ≤ 100) (hb : badP (withT s vs) = true) : blockP [withT s vs] (idP (withT s vs)) = 32 :=
  block_no (k := 2) (by decide) (fun j hj => by
    rw [with_rule _ _ _ j (by omega)]
    match j, hj with
    | 0, _ => show (decide (2 ≤ s.length) && decide (s.length ≤ 100)) = true; rw [decide_eq_true h1, decide_eq_true h2]; rfl
    | 1, _ => rfl) (by rw [with_rule _ _ _ 2 (by decide)]; show (!badP (withT s vs)) = false; rw [hb]; rfl)
theorem none_23 (hr : List Int) : blockP [] hr = 23 := block_no (k := 0) (by decide) (fun j hj => by omega) rfl
theorem twice_23 (hr : List Int) : blockP [plainP, plainP] hr = 23 := block_no (k := 0) (by decide) (fun j hj => by omega) rfl
/-! with a witness -/
def witT : TxP := ⟨0, [⟨List.replicate 32 0, 4294967295, [1, 2], 0, [[1]]⟩], [⟨50, []⟩], 0⟩
theorem wit_id : idP witT = idP plainP := by
  have h1 : checkP witT = 0 := by decide
  have h2 : checkP plainP = 0 := by decide
  unfold idP
  rw [if_pos h1, if_pos h2]; rfl
theorem wit_22 : blockP [witT] (idP plainP) = 22 := block_no (k := 5) (by decide) (fun j hj => by
  match j, hj with
  | 0, _ => rfl
  | 1, _ => rfl
  | 2, _ => rfl
  | 3, _ => show decide (rootP (idsP [witT]) = idP plainP) = true; rw [ids_one, rootP_one, wit_id]; exact decide_eq_true rfl
  | 4, _ => show (!mutP (allP (idsP [witT]))) = true; rw [ids_one, allP_one]; rfl) rfl
end Go.Vi
end

section
/-
  FRAMES WRITTEN OUT; what a ghost's rows are in a world.
-/
set_option linter.unusedVariables false
namespace Go.Vi
open Go.RowKit
theorem arrN (t : Array Value) (n : Nat) (h : t.size = n) : t = ((List.range n).map fun i => t.getD i undef).toArray := by
  apply Array.ext
  · simp [h]
  · intro i h1 h2
    simp [h1]
theorem list113 (f : Nat → Value) : (List.range 113).map f = [f 0, f 1, f 2, f 3, f 4, f 5, f 6, f 7, f 8, f 9, f 10, f 11, f 12, f 13, f 14, f 15, f 16, f 17, f 18, f 19, f 20, f 21, f 22, f 23, f 24, f 25, f 26, f 27, f 28, f 29, f 30, f 31, f 32, f 33, f 34, f 35, f 36, f 37, f 38, f 39, f 40, f 41, f 42, f 43, f 44, f 45, f 46, f 47, f 48, f 49, f 50, f 51, f 52, f 53, f 54, f 55, f 56, f 57, f 58, f 59, f 60, f 61, f 62, f 63, f 64, f 65, f 66, f 67, f 68, f 69, f 70, f 71, f 72, f 73, f 74, f 75, f 76, f 77, f 78, f 79, f 80, f 81, f 82, f 83, f 84, f 85, f 86, f 87, f 88, f 89, f 90, f 91, f 92, f 93, f 94, f 95, f 96, f 97, f 98, f 99, f 100, f 101, f 102, f 103, f 104, f 105, f 106, f 107, f 108, f 109, f 110, f 111, f 112] := rfl
theorem any_enter {P : Program} {md : Region.Mode} {ops : Array Oper} {Q : Exit → Act → World → Prop} {fuel : Nat} {listed : Array Bool} {a : Act} {w : World} {i : Nat} {rs : List Nat} {o : Oper} {f : FuncId} {args : Array Value} (ho : ops[i]? = some o) (hg : o.guard = none)
    (hrun : (execOp a.eval o).run P w = .ok (.enter f args) w) (h : Calls P f args w fun e w' => ∃ v, e = .returned v ∧ wpAny P md ops Q fuel (listed.setIfInBounds i true) (a.put o.dst v) w') (hs : AllReady P md ops Q fuel listed a w rs) : AllReady P md ops Q fuel listed a w (i :: rs) :=
  AllReady.cons ho (fun K hK => by
    rw [if_pos (by simp [Region.wanted, hg])]
    unfold Oper.wp
    rw [hrun, Oper.upon_enter]
    refine h.mono ?_
    rintro e w' ⟨v, rfl, hw⟩
    exact hK _ _ hw) hs
theorem exec_call {P : Program} {w : World} {ρ : Operand → Value} {o : Oper} {c : Call} {f : FuncId} {args : Array Value} (h : o.op = .call c) (hc : c.callee = .value (.func f)) (ha : c.args.map ρ = args) (hr : ρ (.func f) = .func (.func f) #[] #[]) (hcf : (callFunc f args).run P w = .ok (.enter f args) w) : (execOp ρ o).run P w = .ok (.enter f args) w := by
  simp [execOp, h, resolve, hc, ha, hr, Deferred.ofValue, invoke, hcf]
theorem exec_store {P : Program} {w w' : World} {ρ : Operand → Value} {o : Oper} {t : TypeId} {x y : Operand} {p v : Value} (h : o.op = .store t x y) (hp : ρ x = p) (hv : ρ y = v) (hrun : (Instr.storeAt t p v).run P w = .ok () w') : (execOp ρ o).run P w = .ok .skip w' := by
  simp [execOp, h, hp, hv, hrun, Result.andThen]
theorem exec_slice {P : Program} {w w' : World} {ρ : Operand → Value} {o : Oper} {t : TypeId} {n : Nat} {parts : Array (Nat × Operand)} {vs : Array (Nat × Value)} {v : Value} (h : o.op = .buildSlice t n parts) (hp : (parts.map fun (i, x) => (i, ρ x)) = vs) (hrun : (Instr.buildSlice t n vs).run P w = .ok v w') : (execOp ρ o).run P w = .ok (.value v) w' := by
  simp only [execOp, h, hp]
  simp [hrun, Result.andThen]
end Go.Vi
end

section
set_option linter.unusedVariables false
set_option linter.unusedSimpArgs false
set_option maxHeartbeats 0
set_option maxRecDepth 20000
namespace Go.Vi.CK
open Go.Proofs

theorem c_clone : Contract E 87 := by
  refine contract_boxE hE hgl (show E.P.funcs[87]? = some Tryd.f87 from Tryd.func87) rfl (p := sp_cloneW) (p0 := sp_clone) (fun _ _ _ => rfl) (fun a c => rfl) ?_ ?_
  · intro args ds tv h
    unfold sp_clone
    split
    · rename_i rs o b
      match b, h with
      | [], h => exact absurd rfl (h o)
      | x :: b, _ => rfl
    · rfl
    · rename_i h2 h3
      unfold sp_cloneW
      split
      · exact (h2 _ _ rfl rfl).elim
      · exact (h3 _ _ rfl rfl rfl).elim
      · rfl
  intro args ds tv hv hdl htl
  unfold sp_cloneW at hv ⊢
  split at hv
  case h_3 => exact hv.elim
  · rename_i rs o x b
    refine ⟨by simp, Nat.le_of_ble_eq_true rfl, ?_⟩
    obtain ⟨hr, hl⟩ := hv
    simp only [List.length_cons] at hl
    rcases hr with ⟨rfl, rfl⟩ | ⟨rfl, rfl, _⟩
    · simp (config := {dsimp := false}) only [↓vp0, vz, vn, nq, tys, cellD, wideIR, if_true, if_false, implies_true, forall_const, ne_eq, reduceIte, reduceCtorEq, Nat.reduceEqDiff, Nat.reduceAdd, Nat.reduceMul, Nat.reduceLT, Nat.reduceSub, Nat.reduceLeDiff, Nat.reduceBNe, Nat.reduceBEq, Nat.reduceBeqDiff, List.range, List.range.loop, gl0, Tryd.ntmps87, Tryd.results87, retA, vb]
      refine ⟨by omega, [], ?_⟩
      simp (config := {dsimp := false}) only [↓vp0, vz, vn, nq, tys, cellD, wideIR, if_true, if_false, implies_true, forall_const, ne_eq, reduceIte, reduceCtorEq, Nat.reduceEqDiff, Nat.reduceAdd, Nat.reduceMul, Nat.reduceLT, Nat.reduceSub, Nat.reduceLeDiff, Nat.reduceBNe, Nat.reduceBEq, Nat.reduceBeqDiff, List.range, List.range.loop, gl0, Tryd.ntmps87, Tryd.results87, retA, adopt, retB, vb]
      refine ⟨[], [28], [], ⟨rfl, rfl⟩, ⟨rfl, rfl⟩, ⟨by simp, by simp⟩, by simp, rfl, by simp [getAll, S.tok, look], ⟨_, rfl, rfl⟩, ⟨_, rfl, rfl⟩, id rfl⟩
    · simp (config := {dsimp := false}) only [↓vp0, vz, vn, nq, tys, cellD, wideIR, if_true, if_false, implies_true, forall_const, ne_eq, reduceIte, reduceCtorEq, Nat.reduceEqDiff, Nat.reduceAdd, Nat.reduceMul, Nat.reduceLT, Nat.reduceSub, Nat.reduceLeDiff, Nat.reduceBNe, Nat.reduceBEq, Nat.reduceBeqDiff, List.range, List.range.loop, gl0, Tryd.ntmps87, Tryd.results87, retA, vb]
      refine ⟨by omega, [], ?_⟩
      simp (config := {dsimp := false}) only [↓vp0, vz, vn, nq, tys, cellD, wideIR, if_true, if_false, implies_true, forall_const, ne_eq, reduceIte, reduceCtorEq, Nat.reduceEqDiff, Nat.reduceAdd, Nat.reduceMul, Nat.reduceLT, Nat.reduceSub, Nat.reduceLeDiff, Nat.reduceBNe, Nat.reduceBEq, Nat.reduceBeqDiff, List.range, List.range.loop, gl0, Tryd.ntmps87, Tryd.results87, retA, adopt, retB, vb]
      refine ⟨[], [28], [], ⟨rfl, rfl⟩, ⟨rfl, rfl⟩, ⟨by simp, by simp⟩, by simp, rfl, by simp [getAll, S.tok, look], ⟨_, rfl, rfl⟩, ⟨_, rfl, rfl⟩, id rfl⟩
  · rename_i a c
    refine ⟨by simp, Nat.le_of_ble_eq_true rfl, ?_⟩
    simp (config := {dsimp := false}) only [↓vp0, vz, vn, nq, tys, cellD, wideIR, if_true, if_false, implies_true, forall_const, ne_eq, reduceIte, reduceCtorEq, Nat.reduceEqDiff, Nat.reduceAdd, Nat.reduceMul, Nat.reduceLT, Nat.reduceSub, Nat.reduceLeDiff, Nat.reduceBNe, Nat.reduceBEq, Nat.reduceBeqDiff, List.range, List.range.loop, gl0, Tryd.ntmps87, Tryd.results87, retA, vb]
    refine ⟨fun h => ⟨[(2, some .u8, 1)], ?_⟩, fun h => ⟨[], ?_⟩⟩
    · simp (config := {dsimp := false}) only [↓vp0, vz, vn, nq, tys, cellD, wideIR, if_true, if_false, implies_true, forall_const, ne_eq, reduceIte, reduceCtorEq, Nat.reduceEqDiff, Nat.reduceAdd, Nat.reduceMul, Nat.reduceLT, Nat.reduceSub, Nat.reduceLeDiff, Nat.reduceBNe, Nat.reduceBEq, Nat.reduceBeqDiff, List.range, List.range.loop, gl0, Tryd.ntmps87, Tryd.results87, retA, adopt, retB, vb]
      refine ⟨[], [24], [], ⟨rfl, rfl⟩, ⟨rfl, rfl⟩, ⟨by simp, by simp⟩, by simp, rfl, by simp [getAll, S.tok, look], ⟨_, rfl, rfl⟩, ⟨_, rfl, rfl⟩, id rfl⟩
    · simp (config := {dsimp := false}) only [↓vp0, vz, vn, nq, tys, cellD, wideIR, if_true, if_false, implies_true, forall_const, ne_eq, reduceIte, reduceCtorEq, Nat.reduceEqDiff, Nat.reduceAdd, Nat.reduceMul, Nat.reduceLT, Nat.reduceSub, Nat.reduceLeDiff, Nat.reduceBNe, Nat.reduceBEq, Nat.reduceBeqDiff, List.range, List.range.loop, gl0, Tryd.ntmps87, Tryd.results87, retA, adopt, retB, vb]
      refine ⟨[], [28], [], ⟨rfl, rfl⟩, ⟨rfl, rfl⟩, ⟨by simp, by simp⟩, by simp, rfl, by simp [getAll, S.tok, look], ⟨_, rfl, rfl⟩, ⟨_, rfl, rfl⟩, id rfl⟩
theorem c_bwidth : Contract E 86 := by
  refine contract_seeT hE hgl (show E.P.funcs[86]? = some Tryd.f86 from Tryd.func86) rfl (p := sp_bwidth) (fun _ _ _ => rfl) ?_
  intro args hv
  unfold sp_bwidth at hv ⊢
  split at hv
  case h_2 => exact hv.elim
  rename_i w
  refine ⟨by simp, Nat.le_of_ble_eq_true rfl, ?_⟩
  simp (config := {dsimp := false}) only [↓vp0, vz, vn, nq, tys, cellD, wideIR, if_true, if_false, implies_true, forall_const, ne_eq, reduceIte, reduceCtorEq, Nat.reduceEqDiff, Nat.reduceAdd, Nat.reduceMul, Nat.reduceLT, Nat.reduceSub, Nat.reduceLeDiff, Nat.reduceBNe, Nat.reduceBEq, Nat.reduceBeqDiff, List.range, List.range.loop, gl0, Tryd.ntmps86, Tryd.results86]
  simp only [gives]
  refine ⟨fun h1 => ⟨fun h2 => ⟨fun h3 => ?_, fun h3 => ?_⟩, fun h2 => ?_⟩, fun h1 => ?_⟩ <;> simp [*]
theorem c_csize : Contract E 88 := by
  refine contract_seeT hE hgl (show E.P.funcs[88]? = some Tryd.f88 from Tryd.func88) rfl (p := sp_csize) (fun _ _ _ => rfl) ?_
  intro args hv
  unfold sp_csize at hv ⊢
  split at hv
  case h_2 => exact hv.elim
  rename_i n
  refine ⟨by simp, Nat.le_of_ble_eq_true rfl, ?_⟩
  simp only [givesIf] at hv
  obtain ⟨h0, h1⟩ := hv
  simp (config := {dsimp := false}) only [↓vp0, vz, vn, nq, tys, cellD, wideIR, if_true, if_false, implies_true, forall_const, ne_eq, reduceIte, reduceCtorEq, Nat.reduceEqDiff, Nat.reduceAdd, Nat.reduceMul, Nat.reduceLT, Nat.reduceSub, Nat.reduceLeDiff, Nat.reduceBNe, Nat.reduceBEq, Nat.reduceBeqDiff, List.range, List.range.loop, gl0, Tryd.ntmps88, Tryd.results88]
  simp only [givesIf, countI, decide_eq_true_eq, decide_eq_false_iff_not]
  refine ⟨fun h => ?_, fun h => ⟨fun h2 => ?_, fun h2 => ⟨fun h3 => ?_, fun h3 => ?_⟩⟩⟩
  · rw [if_neg (by omega), if_neg (by omega), if_neg (by omega)]; rfl
  · rw [if_neg (by omega), if_neg (by omega), if_pos (by omega)]; rfl
  · rw [if_neg (by omega), if_pos (by omega)]; rfl
  · rw [if_pos (by omega)]; rfl
end Go.Vi.CK
end

section
set_option linter.unusedVariables false
set_option linter.unusedSimpArgs false
set_option maxHeartbeats 0
set_option maxRecDepth 20000
namespace Go.Vi.CK
open Go.Proofs

theorem byte_at {n : Int} {i : Nat} (h : u64ok n) (hi : i < 8) : IntKind.wrap .u8 (shrI .u64 n (IntKind.wrap .i64 (8 * (i : Int)))) = n / 256 ^ i % 256 := by
  have e1 : IntKind.wrap .i64 (8 * (i : Int)) = ((8 * i : Nat) : Int) := by rw [IntWalk.i64_in _ (by omega)]; omega
  have e2 : shrI .u64 n ((8 * i : Nat) : Int) = n / 256 ^ i := by
    unfold shrI
    rw [Int.toNat_natCast, Nat.min_eq_left (by show 8 * i ≤ 64; omega), Int.fdiv_eq_ediv_of_nonneg _ (Int.le_of_lt (Int.pow_pos (by decide)))]
    congr 1
    rw [Int.pow_mul]
    rfl
  rw [e1, e2]
  rfl
theorem shr_zero {n : Int} {w : Nat} (hw : w ≤ 8) (h : 0 ≤ n ∧ n < 256 ^ w) : shrI .u64 n (IntKind.wrap .i64 (8 * (w : Int))) = 0 := by
  have e1 : IntKind.wrap .i64 (8 * (w : Int)) = ((8 * w : Nat) : Int) := by rw [IntWalk.i64_in _ (by omega)]; omega
  rw [e1]
  unfold shrI
  rw [Int.toNat_natCast, Nat.min_eq_left (by show 8 * w ≤ 64; omega), Int.fdiv_eq_ediv_of_nonneg _ (Int.le_of_lt (Int.pow_pos (by decide)))]
  have : (2 : Int) ^ (8 * w) = 256 ^ w := by rw [Int.pow_mul]; rfl
  rw [this]
  exact Int.ediv_eq_zero_of_lt h.1 h.2
theorem le_succ (n : Int) (w : Nat) : leI (w + 1) n = leI w n ++ [n / 256 ^ w % 256] := by
  simp [leI, List.range_succ]
theorem c_bput : Contract E 80 := by
  refine contract_boxT hE hgl (show E.P.funcs[80]? = some Tryd.f80 from Tryd.func80) rfl (p := sp_bput) (fun _ _ _ => rfl) ?_
  intro args ds tv hv hdl htl
  unfold sp_bput at hv ⊢
  split at hv
  case h_2 => exact hv.elim
  rename_i rs o b w n
  refine ⟨by simp, Nat.le_of_ble_eq_true rfl, ?_⟩
  obtain ⟨hr, hw, hn, hb⟩ := hv
  obtain ⟨w, rfl, hw8⟩ : ∃ k : Nat, w = (k : Int) ∧ (k = 4 ∨ k = 8) := ⟨w.toNat, by omega, by omega⟩
  simp only [Int.toNat_natCast] at hn ⊢
  have hu : u64ok n := ⟨hn.1, by rcases hw8 with rfl | rfl <;> omega⟩
  have hz := shr_zero (n := n) (w := w) (by omega) hn
  have d8 : (decide ((w : Int) = 4) || decide ((w : Int) = 8)) = true := by rcases hw8 with rfl | rfl <;> rfl
  have d1 : (decide ((w : Int) = 1) || (decide ((w : Int) = 2) || (decide ((w : Int) = 4) || decide ((w : Int) = 8)))) = true := by rw [d8]; simp
  have hsh : (0 ≤ IntKind.wrap .i64 (8 * (w : Int))) = True := by rw [IntWalk.i64_in _ (by omega)]; simp; omega
  rcases hr with ⟨rfl, rfl⟩ | ⟨rfl, rfl, hne⟩
  · have hf := fe_no b
    cases hc : decide ((w : Int) < 8)
    all_goals simp (config := {dsimp := false}) only [↓vp0, vz, vn, nq, tys, cellD, wideIR, if_true, if_false, implies_true, forall_const, ne_eq, reduceIte, reduceCtorEq, Nat.reduceEqDiff, Nat.reduceAdd, Nat.reduceMul, Nat.reduceLT, Nat.reduceSub, Nat.reduceLeDiff, Nat.reduceBNe, Nat.reduceBEq, Nat.reduceBeqDiff, List.range, List.range.loop, gl0, Tryd.ntmps80, Tryd.results80, retB, vb, PF.toR, gives, d1, hc, hz, hf, hsh, decide_true, spec_bwidth, sp_bwidth, c_bwidth, b_bwidth, spec_clone, sp_clone, c_clone, b_clone]
    all_goals refine ⟨.inl ⟨rfl, rfl⟩, by omega, ?_⟩
    all_goals refine loopI (Fin (w + 1)) (fun k => [(27, .int .i64 (k.1 : Nat)), (26, .int .i64 (w : Nat)), (8, .sli (.tok 76) .u8 (b ++ leI k.1 n)), (2, .int .u64 n)]) (fun k => ⟨[], [(76, (b.length + k.1, 1))], 92⟩) (fun k => w - k.1) 0 (fun _ => rfl) ?_ ?_
    any_goals (refine ⟨⟨wkD_eq rfl, rfl, wkD_eq rfl, rfl, wkD_eq ?_, rfl, wkD_eq rfl, rfl, trivial⟩, trivial, ⟨rfl, Nat.le_of_ble_eq_true rfl, trivial⟩⟩; exact some_sli (List.append_nil _).symm)
    all_goals rintro ⟨k, hk⟩
    all_goals simp (config := {dsimp := false}) only [↓vp0, vz, vn, nq, tys, cellD, wideIR, if_true, if_false, implies_true, forall_const, ne_eq, reduceIte, reduceCtorEq, Nat.reduceEqDiff, Nat.reduceAdd, Nat.reduceMul, Nat.reduceLT, Nat.reduceSub, Nat.reduceLeDiff, Nat.reduceBNe, Nat.reduceBEq, Nat.reduceBeqDiff, List.range, List.range.loop, gl0, Tryd.ntmps80, Tryd.results80]
    all_goals refine ⟨fun h => ?_, fun h => ?_⟩
    any_goals (
      have h := of_decide_eq_true h
      refine ⟨by rw [IntWalk.i64_in _ (by omega)]; omega, some_tok (by simp [leI_len]), by simp [leI_len]; omega, ⟨k + 1, by omega⟩, ⟨⟨wkD_eq ?_, rfl, wkD_eq rfl, rfl, wkD_eq ?_, rfl, wkD_eq rfl, rfl, trivial⟩, trivial, ⟨?_, Nat.le_of_ble_eq_true rfl, trivial⟩⟩, by (try simp only); omega⟩
      · exact some_i64 (by (try simp only); omega)
      · exact some_sli (by rw [byte_at hu (by omega), List.append_assoc, ← le_succ])
      · exact some_tok (by simp [leI_len]; omega))
    all_goals have h := of_decide_eq_false h
    all_goals obtain rfl : k = w := by omega
    all_goals simp (config := {dsimp := false}) only [↓vp0, vz, vn, nq, tys, cellD, wideIR, if_true, if_false, implies_true, forall_const, ne_eq, reduceIte, reduceCtorEq, Nat.reduceEqDiff, Nat.reduceAdd, Nat.reduceMul, Nat.reduceLT, Nat.reduceSub, Nat.reduceLeDiff, Nat.reduceBNe, Nat.reduceBEq, Nat.reduceBeqDiff, List.range, List.range.loop, gl0, Tryd.ntmps80, Tryd.results80, retB, vb]
    all_goals exact ⟨[], [76], [], ⟨rfl, rfl⟩, ⟨rfl, rfl⟩, ⟨by simp, by simp⟩, by simp, by simp [getAll, S.tok, look], by simp [getAll, S.tok, look], ⟨_, rfl, rfl⟩, ⟨_, rfl, rfl⟩, id rfl⟩
  · have hf := fe_ne (.tok 0) hne
    cases hc : decide ((w : Int) < 8)
    all_goals simp (config := {dsimp := false}) only [↓vp0, vz, vn, nq, tys, cellD, wideIR, if_true, if_false, implies_true, forall_const, ne_eq, reduceIte, reduceCtorEq, Nat.reduceEqDiff, Nat.reduceAdd, Nat.reduceMul, Nat.reduceLT, Nat.reduceSub, Nat.reduceLeDiff, Nat.reduceBNe, Nat.reduceBEq, Nat.reduceBeqDiff, List.range, List.range.loop, gl0, Tryd.ntmps80, Tryd.results80, retB, vb, PF.toR, gives, d1, hc, hz, hf, hsh, decide_true, spec_bwidth, sp_bwidth, c_bwidth, b_bwidth, spec_clone, sp_clone, c_clone, b_clone]
    all_goals refine ⟨.inr ⟨rfl, rfl, hne⟩, by omega, ?_⟩
    all_goals refine loopI (Fin (w + 1)) (fun k => [(27, .int .i64 (k.1 : Nat)), (26, .int .i64 (w : Nat)), (8, .sli (.tok 76) .u8 (b ++ leI k.1 n)), (2, .int .u64 n)]) (fun k => ⟨[], [(0, (b.length, 1)), (76, (b.length + k.1, 1))], 92⟩) (fun k => w - k.1) 0 (fun _ => rfl) ?_ ?_
    any_goals (refine ⟨⟨wkD_eq rfl, rfl, wkD_eq rfl, rfl, wkD_eq ?_, rfl, wkD_eq rfl, rfl, trivial⟩, trivial, ⟨rfl, Nat.le_of_ble_eq_true rfl, rfl, Nat.le_of_ble_eq_true rfl, trivial⟩⟩; exact some_sli (List.append_nil _).symm)
    all_goals rintro ⟨k, hk⟩
    all_goals simp (config := {dsimp := false}) only [↓vp0, vz, vn, nq, tys, cellD, wideIR, if_true, if_false, implies_true, forall_const, ne_eq, reduceIte, reduceCtorEq, Nat.reduceEqDiff, Nat.reduceAdd, Nat.reduceMul, Nat.reduceLT, Nat.reduceSub, Nat.reduceLeDiff, Nat.reduceBNe, Nat.reduceBEq, Nat.reduceBeqDiff, List.range, List.range.loop, gl0, Tryd.ntmps80, Tryd.results80]
    all_goals refine ⟨fun h => ?_, fun h => ?_⟩
    any_goals (
      have h := of_decide_eq_true h
      refine ⟨by rw [IntWalk.i64_in _ (by omega)]; omega, some_tok (by simp [leI_len]), by simp [leI_len]; omega, ⟨k + 1, by omega⟩, ⟨⟨wkD_eq ?_, rfl, wkD_eq rfl, rfl, wkD_eq ?_, rfl, wkD_eq rfl, rfl, trivial⟩, trivial, ⟨rfl, Nat.le_of_ble_eq_true rfl, ?_, Nat.le_of_ble_eq_true rfl, trivial⟩⟩, by (try simp only); omega⟩
      · exact some_i64 (by (try simp only); omega)
      · exact some_sli (by rw [byte_at hu (by omega), List.append_assoc, ← le_succ])
      · exact some_tok (by simp [leI_len]; omega))
    all_goals have h := of_decide_eq_false h
    all_goals obtain rfl : k = w := by omega
    all_goals simp (config := {dsimp := false}) only [↓vp0, vz, vn, nq, tys, cellD, wideIR, if_true, if_false, implies_true, forall_const, ne_eq, reduceIte, reduceCtorEq, Nat.reduceEqDiff, Nat.reduceAdd, Nat.reduceMul, Nat.reduceLT, Nat.reduceSub, Nat.reduceLeDiff, Nat.reduceBNe, Nat.reduceBEq, Nat.reduceBeqDiff, List.range, List.range.loop, gl0, Tryd.ntmps80, Tryd.results80, retB, vb]
    all_goals exact ⟨[], [76], [], ⟨rfl, rfl⟩, ⟨rfl, rfl⟩, ⟨by simp, by simp⟩, by simp, by simp [getAll, S.tok, look], by simp [getAll, S.tok, look], ⟨_, rfl, rfl⟩, ⟨_, rfl, rfl⟩, id rfl⟩
theorem c_num : Contract E 66 := by
  refine contract_boxT hE hgl (show E.P.funcs[66]? = some Tryd.f66 from Tryd.func66) rfl (p := sp_num) (fun _ _ _ => rfl) ?_
  intro args ds tv hv hdl htl
  unfold sp_num at hv ⊢
  split at hv
  case h_2 => exact hv.elim
  rename_i rs o b w n
  refine ⟨by simp, Nat.le_of_ble_eq_true rfl, ?_⟩
  obtain ⟨hr, hw, hn, hb⟩ := hv
  rcases hr with ⟨rfl, rfl⟩ | ⟨rfl, rfl, hne⟩
  · simp (config := {dsimp := false}) only [↓vp0, vz, vn, nq, tys, cellD, wideIR, if_true, if_false, implies_true, forall_const, ne_eq, reduceIte, reduceCtorEq, Nat.reduceEqDiff, Nat.reduceAdd, Nat.reduceMul, Nat.reduceLT, Nat.reduceSub, Nat.reduceLeDiff, Nat.reduceBNe, Nat.reduceBEq, Nat.reduceBeqDiff, List.range, List.range.loop, gl0, Tryd.ntmps66, Tryd.results66, retB, vb, spec_bput, sp_bput, c_bput, b_bput]
    exact ⟨.inl ⟨rfl, rfl⟩, hw, hn.1, hn.2, hb, [], [24], [], ⟨rfl, rfl⟩, ⟨rfl, rfl⟩, ⟨by simp, by simp⟩, by simp, by simp [getAll, S.tok, look], by simp [getAll, S.tok, look], ⟨_, rfl, rfl⟩, ⟨_, rfl, rfl⟩, id rfl⟩
  · simp (config := {dsimp := false}) only [↓vp0, vz, vn, nq, tys, cellD, wideIR, if_true, if_false, implies_true, forall_const, ne_eq, reduceIte, reduceCtorEq, Nat.reduceEqDiff, Nat.reduceAdd, Nat.reduceMul, Nat.reduceLT, Nat.reduceSub, Nat.reduceLeDiff, Nat.reduceBNe, Nat.reduceBEq, Nat.reduceBeqDiff, List.range, List.range.loop, gl0, Tryd.ntmps66, Tryd.results66, retB, vb, spec_bput, sp_bput, c_bput, b_bput]
    exact ⟨.inr ⟨rfl, rfl, hne⟩, hw, hn.1, hn.2, hb, [], [24], [], ⟨rfl, rfl⟩, ⟨rfl, rfl⟩, ⟨by simp, by simp⟩, by simp, by simp [getAll, S.tok, look], by simp [getAll, S.tok, look], ⟨_, rfl, rfl⟩, ⟨_, rfl, rfl⟩, id rfl⟩
theorem count_of {n : Int} (h : 0 ≤ n) : (countI n = [n] ∧ n < 253) ∨ (253 ≤ n ∧ ∃ m w, countI n = m :: leI w n ∧ ((m = 253 ∧ w = 2) ∨ (m = 254 ∧ w = 4) ∨ (m = 255 ∧ w = 8))) := by
  unfold countI
  by_cases h1 : n < 253
  · rw [if_pos h1]; exact .inl ⟨rfl, h1⟩
  · right
    refine ⟨by omega, ?_⟩
    rw [if_neg h1]
    by_cases h2 : n < 65536
    · rw [if_pos h2]; exact ⟨_, _, rfl, .inl ⟨rfl, rfl⟩⟩
    · rw [if_neg h2]
      by_cases h3 : n < 4294967296
      · rw [if_pos h3]; exact ⟨_, _, rfl, .inr (.inl ⟨rfl, rfl⟩)⟩
      · rw [if_neg h3]; exact ⟨_, _, rfl, .inr (.inr ⟨rfl, rfl⟩)⟩
theorem c_cput : Contract E 81 := by
  refine contract_boxT hE hgl (show E.P.funcs[81]? = some Tryd.f81 from Tryd.func81) rfl (p := sp_cput) (fun _ _ _ => rfl) ?_
  intro args ds tv hv hdl htl
  unfold sp_cput at hv ⊢
  split at hv
  case h_2 => exact hv.elim
  rename_i rs o b n
  refine ⟨by simp, Nat.le_of_ble_eq_true rfl, ?_⟩
  obtain ⟨hr, hn, hb⟩ := hv
  rcases hr with ⟨rfl, rfl⟩ | ⟨rfl, rfl, hne⟩
  · have hf := fe_no b
    rcases count_of hn.1 with ⟨hc, h253⟩ | ⟨h253, m, w, hc, hm⟩
    · have e1 : decide (IntKind.wrap .i64 (((1 : Nat) : Int) - 1) = 0) = true := rfl
      have e2 : IntKind.wrap .u8 n = n := IntWalk.u8_in n ⟨hn.1, by omega⟩
      simp (config := {dsimp := false}) only [↓vp0, vz, vn, nq, tys, cellD, wideIR, if_true, if_false, implies_true, forall_const, ne_eq, reduceIte, reduceCtorEq, Nat.reduceEqDiff, Nat.reduceAdd, Nat.reduceMul, Nat.reduceLT, Nat.reduceSub, Nat.reduceLeDiff, Nat.reduceBNe, Nat.reduceBEq, Nat.reduceBeqDiff, List.range, List.range.loop, gl0, Tryd.ntmps81, Tryd.results81, retB, vb, PF.toR, givesIf, hf, hc, e1, e2, eq_self, decide_true, spec_clone, sp_clone, c_clone, b_clone, spec_csize, sp_csize, c_csize, b_csize]
      exact ⟨.inl ⟨rfl, rfl⟩, by omega, hn, by omega, [], [16], [], ⟨rfl, rfl⟩, ⟨rfl, rfl⟩, ⟨by simp, by simp⟩, by simp, by simp [getAll, S.tok, look], by simp [getAll, S.tok, look], ⟨_, rfl, rfl⟩, ⟨_, rfl, rfl⟩, id rfl⟩
    · have e1 : IntKind.wrap .i64 ((((leI w n).length + 1 : Nat) : Int) - 1) = (w : Int) := by rw [leI_len, IntWalk.i64_in _ (by omega)]; omega
      rcases hm with ⟨rfl, rfl⟩ | ⟨rfl, rfl⟩ | ⟨rfl, rfl⟩
      all_goals simp (config := {dsimp := false}) only [↓vp0, vz, vn, nq, tys, cellD, wideIR, if_true, if_false, implies_true, forall_const, ne_eq, reduceIte, reduceCtorEq, Nat.reduceEqDiff, Nat.reduceAdd, Nat.reduceMul, Nat.reduceLT, Nat.reduceSub, Nat.reduceLeDiff, Nat.reduceBNe, Nat.reduceBEq, Nat.reduceBeqDiff, List.range, List.range.loop, gl0, Tryd.ntmps81, Tryd.results81, retB, vb, PF.toR, givesIf, hf, hc, e1, eq_self, decide_true, show decide (((2 : Nat) : Int) = 0) = false from rfl, show decide (((4 : Nat) : Int) = 0) = false from rfl, show decide (((8 : Nat) : Int) = 0) = false from rfl, show decide (((2 : Nat) : Int) = 2) = true from rfl, show decide (((4 : Nat) : Int) = 2) = false from rfl, show decide (((8 : Nat) : Int) = 2) = false from rfl, show decide (((4 : Nat) : Int) = 4) = true from rfl, show decide (((8 : Nat) : Int) = 4) = false from rfl, spec_clone, sp_clone, c_clone, b_clone, spec_csize, sp_csize, c_csize, b_csize]
      all_goals refine ⟨.inl ⟨rfl, rfl⟩, by omega, hn, by omega, ?_⟩
      · refine loopI (Fin (2 + 1)) (fun k => [(35, .int .i64 (k.1 : Nat)), (34, .int .i64 ((2 : Nat) : Int)), (5, .sli (.tok 16) .u8 (b ++ 253 :: leI k.1 n)), (1, .int .u64 n)]) (fun k => ⟨[], [(16, (b.length + 1 + k.1, 1))], 84⟩) (fun k => 2 - k.1) 0 (fun _ => rfl) ?_ ?_
        · exact ⟨⟨wkD_eq rfl, rfl, wkD_eq rfl, rfl, wkD_eq rfl, rfl, wkD_eq rfl, rfl, trivial⟩, trivial, ⟨rfl, Nat.le_of_ble_eq_true rfl, trivial⟩⟩
        rintro ⟨k, hk⟩
        simp (config := {dsimp := false}) only [↓vp0, vz, vn, nq, tys, cellD, wideIR, if_true, if_false, implies_true, forall_const, ne_eq, reduceIte, reduceCtorEq, Nat.reduceEqDiff, Nat.reduceAdd, Nat.reduceMul, Nat.reduceLT, Nat.reduceSub, Nat.reduceLeDiff, Nat.reduceBNe, Nat.reduceBEq, Nat.reduceBeqDiff, List.range, List.range.loop, gl0, Tryd.ntmps81, Tryd.results81]
        refine ⟨fun h => ?_, fun h => ?_⟩
        · have h := of_decide_eq_true h
          refine ⟨by rw [IntWalk.i64_in _ (by omega)]; omega, some_tok (by simp [leI_len]; omega), by simp [leI_len]; omega, ⟨k + 1, by omega⟩, ⟨⟨wkD_eq ?_, rfl, wkD_eq rfl, rfl, wkD_eq ?_, rfl, wkD_eq rfl, rfl, trivial⟩, trivial, ⟨?_, Nat.le_of_ble_eq_true rfl, trivial⟩⟩, by (try simp only); omega⟩
          · exact some_i64 (by (try simp only); omega)
          · exact some_sli (by rw [byte_at hn (by omega), List.append_assoc, List.cons_append, ← le_succ])
          · exact some_tok (by simp [leI_len]; omega)
        · have h := of_decide_eq_false h
          obtain rfl : k = 2 := by omega
          simp (config := {dsimp := false}) only [↓vp0, vz, vn, nq, tys, cellD, wideIR, if_true, if_false, implies_true, forall_const, ne_eq, reduceIte, reduceCtorEq, Nat.reduceEqDiff, Nat.reduceAdd, Nat.reduceMul, Nat.reduceLT, Nat.reduceSub, Nat.reduceLeDiff, Nat.reduceBNe, Nat.reduceBEq, Nat.reduceBeqDiff, List.range, List.range.loop, gl0, Tryd.ntmps81, Tryd.results81, retB, vb, hc]
          exact ⟨[], [16], [], ⟨rfl, rfl⟩, ⟨rfl, rfl⟩, ⟨by simp, by simp⟩, by simp, by simp [getAll, S.tok, look], by simp [getAll, S.tok, look, leI_len]; try omega, ⟨_, rfl, rfl⟩, ⟨_, rfl, rfl⟩, id rfl⟩
      · refine loopI (Fin (4 + 1)) (fun k => [(35, .int .i64 (k.1 : Nat)), (34, .int .i64 ((4 : Nat) : Int)), (5, .sli (.tok 16) .u8 (b ++ 254 :: leI k.1 n)), (1, .int .u64 n)]) (fun k => ⟨[], [(16, (b.length + 1 + k.1, 1))], 92⟩) (fun k => 4 - k.1) 0 (fun _ => rfl) ?_ ?_
        · exact ⟨⟨wkD_eq rfl, rfl, wkD_eq rfl, rfl, wkD_eq rfl, rfl, wkD_eq rfl, rfl, trivial⟩, trivial, ⟨rfl, Nat.le_of_ble_eq_true rfl, trivial⟩⟩
        rintro ⟨k, hk⟩
        simp (config := {dsimp := false}) only [↓vp0, vz, vn, nq, tys, cellD, wideIR, if_true, if_false, implies_true, forall_const, ne_eq, reduceIte, reduceCtorEq, Nat.reduceEqDiff, Nat.reduceAdd, Nat.reduceMul, Nat.reduceLT, Nat.reduceSub, Nat.reduceLeDiff, Nat.reduceBNe, Nat.reduceBEq, Nat.reduceBeqDiff, List.range, List.range.loop, gl0, Tryd.ntmps81, Tryd.results81]
        refine ⟨fun h => ?_, fun h => ?_⟩
        · have h := of_decide_eq_true h
          refine ⟨by rw [IntWalk.i64_in _ (by omega)]; omega, some_tok (by simp [leI_len]; omega), by simp [leI_len]; omega, ⟨k + 1, by omega⟩, ⟨⟨wkD_eq ?_, rfl, wkD_eq rfl, rfl, wkD_eq ?_, rfl, wkD_eq rfl, rfl, trivial⟩, trivial, ⟨?_, Nat.le_of_ble_eq_true rfl, trivial⟩⟩, by (try simp only); omega⟩
          · exact some_i64 (by (try simp only); omega)
          · exact some_sli (by rw [byte_at hn (by omega), List.append_assoc, List.cons_append, ← le_succ])
          · exact some_tok (by simp [leI_len]; omega)
        · have h := of_decide_eq_false h
          obtain rfl : k = 4 := by omega
          simp (config := {dsimp := false}) only [↓vp0, vz, vn, nq, tys, cellD, wideIR, if_true, if_false, implies_true, forall_const, ne_eq, reduceIte, reduceCtorEq, Nat.reduceEqDiff, Nat.reduceAdd, Nat.reduceMul, Nat.reduceLT, Nat.reduceSub, Nat.reduceLeDiff, Nat.reduceBNe, Nat.reduceBEq, Nat.reduceBeqDiff, List.range, List.range.loop, gl0, Tryd.ntmps81, Tryd.results81, retB, vb, hc]
          exact ⟨[], [16], [], ⟨rfl, rfl⟩, ⟨rfl, rfl⟩, ⟨by simp, by simp⟩, by simp, by simp [getAll, S.tok, look], by simp [getAll, S.tok, look, leI_len]; try omega, ⟨_, rfl, rfl⟩, ⟨_, rfl, rfl⟩, id rfl⟩
      · refine loopI (Fin (8 + 1)) (fun k => [(35, .int .i64 (k.1 : Nat)), (34, .int .i64 ((8 : Nat) : Int)), (5, .sli (.tok 16) .u8 (b ++ 255 :: leI k.1 n)), (1, .int .u64 n)]) (fun k => ⟨[], [(16, (b.length + 1 + k.1, 1))], 92⟩) (fun k => 8 - k.1) 0 (fun _ => rfl) ?_ ?_
        · exact ⟨⟨wkD_eq rfl, rfl, wkD_eq rfl, rfl, wkD_eq rfl, rfl, wkD_eq rfl, rfl, trivial⟩, trivial, ⟨rfl, Nat.le_of_ble_eq_true rfl, trivial⟩⟩
        rintro ⟨k, hk⟩
        simp (config := {dsimp := false}) only [↓vp0, vz, vn, nq, tys, cellD, wideIR, if_true, if_false, implies_true, forall_const, ne_eq, reduceIte, reduceCtorEq, Nat.reduceEqDiff, Nat.reduceAdd, Nat.reduceMul, Nat.reduceLT, Nat.reduceSub, Nat.reduceLeDiff, Nat.reduceBNe, Nat.reduceBEq, Nat.reduceBeqDiff, List.range, List.range.loop, gl0, Tryd.ntmps81, Tryd.results81]
        refine ⟨fun h => ?_, fun h => ?_⟩
        · have h := of_decide_eq_true h
          refine ⟨by rw [IntWalk.i64_in _ (by omega)]; omega, some_tok (by simp [leI_len]; omega), by simp [leI_len]; omega, ⟨k + 1, by omega⟩, ⟨⟨wkD_eq ?_, rfl, wkD_eq rfl, rfl, wkD_eq ?_, rfl, wkD_eq rfl, rfl, trivial⟩, trivial, ⟨?_, Nat.le_of_ble_eq_true rfl, trivial⟩⟩, by (try simp only); omega⟩
          · exact some_i64 (by (try simp only); omega)
          · exact some_sli (by rw [byte_at hn (by omega), List.append_assoc, List.cons_append, ← le_succ])
          · exact some_tok (by simp [leI_len]; omega)
        · have h := of_decide_eq_false h
          obtain rfl : k = 8 := by omega
          simp (config := {dsimp := false}) only [↓vp0, vz, vn, nq, tys, cellD, wideIR, if_true, if_false, implies_true, forall_const, ne_eq, reduceIte, reduceCtorEq, Nat.reduceEqDiff, Nat.reduceAdd, Nat.reduceMul, Nat.reduceLT, Nat.reduceSub, Nat.reduceLeDiff, Nat.reduceBNe, Nat.reduceBEq, Nat.reduceBeqDiff, List.range, List.range.loop, gl0, Tryd.ntmps81, Tryd.results81, retB, vb, hc]
          exact ⟨[], [16], [], ⟨rfl, rfl⟩, ⟨rfl, rfl⟩, ⟨by simp, by simp⟩, by simp, by simp [getAll, S.tok, look], by simp [getAll, S.tok, look, leI_len]; try omega, ⟨_, rfl, rfl⟩, ⟨_, rfl, rfl⟩, id rfl⟩
  · have hf := fe_ne (.tok 0) hne
    rcases count_of hn.1 with ⟨hc, h253⟩ | ⟨h253, m, w, hc, hm⟩
    · have e1 : decide (IntKind.wrap .i64 (((1 : Nat) : Int) - 1) = 0) = true := rfl
      have e2 : IntKind.wrap .u8 n = n := IntWalk.u8_in n ⟨hn.1, by omega⟩
      simp (config := {dsimp := false}) only [↓vp0, vz, vn, nq, tys, cellD, wideIR, if_true, if_false, implies_true, forall_const, ne_eq, reduceIte, reduceCtorEq, Nat.reduceEqDiff, Nat.reduceAdd, Nat.reduceMul, Nat.reduceLT, Nat.reduceSub, Nat.reduceLeDiff, Nat.reduceBNe, Nat.reduceBEq, Nat.reduceBeqDiff, List.range, List.range.loop, gl0, Tryd.ntmps81, Tryd.results81, retB, vb, PF.toR, givesIf, hf, hc, e1, e2, eq_self, decide_true, spec_clone, sp_clone, c_clone, b_clone, spec_csize, sp_csize, c_csize, b_csize]
      exact ⟨.inr ⟨rfl, rfl, hne⟩, by omega, hn, by omega, [], [16], [], ⟨rfl, rfl⟩, ⟨rfl, rfl⟩, ⟨by simp, by simp⟩, by simp, by simp [getAll, S.tok, look], by simp [getAll, S.tok, look], ⟨_, rfl, rfl⟩, ⟨_, rfl, rfl⟩, id rfl⟩
    · have e1 : IntKind.wrap .i64 ((((leI w n).length + 1 : Nat) : Int) - 1) = (w : Int) := by rw [leI_len, IntWalk.i64_in _ (by omega)]; omega
      rcases hm with ⟨rfl, rfl⟩ | ⟨rfl, rfl⟩ | ⟨rfl, rfl⟩
      all_goals simp (config := {dsimp := false}) only [↓vp0, vz, vn, nq, tys, cellD, wideIR, if_true, if_false, implies_true, forall_const, ne_eq, reduceIte, reduceCtorEq, Nat.reduceEqDiff, Nat.reduceAdd, Nat.reduceMul, Nat.reduceLT, Nat.reduceSub, Nat.reduceLeDiff, Nat.reduceBNe, Nat.reduceBEq, Nat.reduceBeqDiff, List.range, List.range.loop, gl0, Tryd.ntmps81, Tryd.results81, retB, vb, PF.toR, givesIf, hf, hc, e1, eq_self, decide_true, show decide (((2 : Nat) : Int) = 0) = false from rfl, show decide (((4 : Nat) : Int) = 0) = false from rfl, show decide (((8 : Nat) : Int) = 0) = false from rfl, show decide (((2 : Nat) : Int) = 2) = true from rfl, show decide (((4 : Nat) : Int) = 2) = false from rfl, show decide (((8 : Nat) : Int) = 2) = false from rfl, show decide (((4 : Nat) : Int) = 4) = true from rfl, show decide (((8 : Nat) : Int) = 4) = false from rfl, spec_clone, sp_clone, c_clone, b_clone, spec_csize, sp_csize, c_csize, b_csize]
      all_goals refine ⟨.inr ⟨rfl, rfl, hne⟩, by omega, hn, by omega, ?_⟩
      · refine loopI (Fin (2 + 1)) (fun k => [(35, .int .i64 (k.1 : Nat)), (34, .int .i64 ((2 : Nat) : Int)), (5, .sli (.tok 16) .u8 (b ++ 253 :: leI k.1 n)), (1, .int .u64 n)]) (fun k => ⟨[], [(0, (b.length, 1)), (16, (b.length + 1 + k.1, 1))], 84⟩) (fun k => 2 - k.1) 0 (fun _ => rfl) ?_ ?_
        · exact ⟨⟨wkD_eq rfl, rfl, wkD_eq rfl, rfl, wkD_eq rfl, rfl, wkD_eq rfl, rfl, trivial⟩, trivial, ⟨rfl, Nat.le_of_ble_eq_true rfl, rfl, Nat.le_of_ble_eq_true rfl, trivial⟩⟩
        rintro ⟨k, hk⟩
        simp (config := {dsimp := false}) only [↓vp0, vz, vn, nq, tys, cellD, wideIR, if_true, if_false, implies_true, forall_const, ne_eq, reduceIte, reduceCtorEq, Nat.reduceEqDiff, Nat.reduceAdd, Nat.reduceMul, Nat.reduceLT, Nat.reduceSub, Nat.reduceLeDiff, Nat.reduceBNe, Nat.reduceBEq, Nat.reduceBeqDiff, List.range, List.range.loop, gl0, Tryd.ntmps81, Tryd.results81]
        refine ⟨fun h => ?_, fun h => ?_⟩
        · have h := of_decide_eq_true h
          refine ⟨by rw [IntWalk.i64_in _ (by omega)]; omega, some_tok (by simp [leI_len]; omega), by simp [leI_len]; omega, ⟨k + 1, by omega⟩, ⟨⟨wkD_eq ?_, rfl, wkD_eq rfl, rfl, wkD_eq ?_, rfl, wkD_eq rfl, rfl, trivial⟩, trivial, ⟨rfl, Nat.le_of_ble_eq_true rfl, ?_, Nat.le_of_ble_eq_true rfl, trivial⟩⟩, by (try simp only); omega⟩
          · exact some_i64 (by (try simp only); omega)
          · exact some_sli (by rw [byte_at hn (by omega), List.append_assoc, List.cons_append, ← le_succ])
          · exact some_tok (by simp [leI_len]; omega)
        · have h := of_decide_eq_false h
          obtain rfl : k = 2 := by omega
          simp (config := {dsimp := false}) only [↓vp0, vz, vn, nq, tys, cellD, wideIR, if_true, if_false, implies_true, forall_const, ne_eq, reduceIte, reduceCtorEq, Nat.reduceEqDiff, Nat.reduceAdd, Nat.reduceMul, Nat.reduceLT, Nat.reduceSub, Nat.reduceLeDiff, Nat.reduceBNe, Nat.reduceBEq, Nat.reduceBeqDiff, List.range, List.range.loop, gl0, Tryd.ntmps81, Tryd.results81, retB, vb, hc]
          exact ⟨[], [16], [], ⟨rfl, rfl⟩, ⟨rfl, rfl⟩, ⟨by simp, by simp⟩, by simp, by simp [getAll, S.tok, look], by simp [getAll, S.tok, look, leI_len]; try omega, ⟨_, rfl, rfl⟩, ⟨_, rfl, rfl⟩, id rfl⟩
      · refine loopI (Fin (4 + 1)) (fun k => [(35, .int .i64 (k.1 : Nat)), (34, .int .i64 ((4 : Nat) : Int)), (5, .sli (.tok 16) .u8 (b ++ 254 :: leI k.1 n)), (1, .int .u64 n)]) (fun k => ⟨[], [(0, (b.length, 1)), (16, (b.length + 1 + k.1, 1))], 92⟩) (fun k => 4 - k.1) 0 (fun _ => rfl) ?_ ?_
        · exact ⟨⟨wkD_eq rfl, rfl, wkD_eq rfl, rfl, wkD_eq rfl, rfl, wkD_eq rfl, rfl, trivial⟩, trivial, ⟨rfl, Nat.le_of_ble_eq_true rfl, rfl, Nat.le_of_ble_eq_true rfl, trivial⟩⟩
        rintro ⟨k, hk⟩
        simp (config := {dsimp := false}) only [↓vp0, vz, vn, nq, tys, cellD, wideIR, if_true, if_false, implies_true, forall_const, ne_eq, reduceIte, reduceCtorEq, Nat.reduceEqDiff, Nat.reduceAdd, Nat.reduceMul, Nat.reduceLT, Nat.reduceSub, Nat.reduceLeDiff, Nat.reduceBNe, Nat.reduceBEq, Nat.reduceBeqDiff, List.range, List.range.loop, gl0, Tryd.ntmps81, Tryd.results81]
        refine ⟨fun h => ?_, fun h => ?_⟩
        · have h := of_decide_eq_true h
          refine ⟨by rw [IntWalk.i64_in _ (by omega)]; omega, some_tok (by simp [leI_len]; omega), by simp [leI_len]; omega, ⟨k + 1, by omega⟩, ⟨⟨wkD_eq ?_, rfl, wkD_eq rfl, rfl, wkD_eq ?_, rfl, wkD_eq rfl, rfl, trivial⟩, trivial, ⟨rfl, Nat.le_of_ble_eq_true rfl, ?_, Nat.le_of_ble_eq_true rfl, trivial⟩⟩, by (try simp only); omega⟩
          · exact some_i64 (by (try simp only); omega)
          · exact some_sli (by rw [byte_at hn (by omega), List.append_assoc, List.cons_append, ← le_succ])
          · exact some_tok (by simp [leI_len]; omega)
        · have h := of_decide_eq_false h
          obtain rfl : k = 4 := by omega
          simp (config := {dsimp := false}) only [↓vp0, vz, vn, nq, tys, cellD, wideIR, if_true, if_false, implies_true, forall_const, ne_eq, reduceIte, reduceCtorEq, Nat.reduceEqDiff, Nat.reduceAdd, Nat.reduceMul, Nat.reduceLT, Nat.reduceSub, Nat.reduceLeDiff, Nat.reduceBNe, Nat.reduceBEq, Nat.reduceBeqDiff, List.range, List.range.loop, gl0, Tryd.ntmps81, Tryd.results81, retB, vb, hc]
          exact ⟨[], [16], [], ⟨rfl, rfl⟩, ⟨rfl, rfl⟩, ⟨by simp, by simp⟩, by simp, by simp [getAll, S.tok, look], by simp [getAll, S.tok, look, leI_len]; try omega, ⟨_, rfl, rfl⟩, ⟨_, rfl, rfl⟩, id rfl⟩
      · refine loopI (Fin (8 + 1)) (fun k => [(35, .int .i64 (k.1 : Nat)), (34, .int .i64 ((8 : Nat) : Int)), (5, .sli (.tok 16) .u8 (b ++ 255 :: leI k.1 n)), (1, .int .u64 n)]) (fun k => ⟨[], [(0, (b.length, 1)), (16, (b.length + 1 + k.1, 1))], 92⟩) (fun k => 8 - k.1) 0 (fun _ => rfl) ?_ ?_
        · exact ⟨⟨wkD_eq rfl, rfl, wkD_eq rfl, rfl, wkD_eq rfl, rfl, wkD_eq rfl, rfl, trivial⟩, trivial, ⟨rfl, Nat.le_of_ble_eq_true rfl, rfl, Nat.le_of_ble_eq_true rfl, trivial⟩⟩
        rintro ⟨k, hk⟩
        simp (config := {dsimp := false}) only [↓vp0, vz, vn, nq, tys, cellD, wideIR, if_true, if_false, implies_true, forall_const, ne_eq, reduceIte, reduceCtorEq, Nat.reduceEqDiff, Nat.reduceAdd, Nat.reduceMul, Nat.reduceLT, Nat.reduceSub, Nat.reduceLeDiff, Nat.reduceBNe, Nat.reduceBEq, Nat.reduceBeqDiff, List.range, List.range.loop, gl0, Tryd.ntmps81, Tryd.results81]
        refine ⟨fun h => ?_, fun h => ?_⟩
        · have h := of_decide_eq_true h
          refine ⟨by rw [IntWalk.i64_in _ (by omega)]; omega, some_tok (by simp [leI_len]; omega), by simp [leI_len]; omega, ⟨k + 1, by omega⟩, ⟨⟨wkD_eq ?_, rfl, wkD_eq rfl, rfl, wkD_eq ?_, rfl, wkD_eq rfl, rfl, trivial⟩, trivial, ⟨rfl, Nat.le_of_ble_eq_true rfl, ?_, Nat.le_of_ble_eq_true rfl, trivial⟩⟩, by (try simp only); omega⟩
          · exact some_i64 (by (try simp only); omega)
          · exact some_sli (by rw [byte_at hn (by omega), List.append_assoc, List.cons_append, ← le_succ])
          · exact some_tok (by simp [leI_len]; omega)
        · have h := of_decide_eq_false h
          obtain rfl : k = 8 := by omega
          simp (config := {dsimp := false}) only [↓vp0, vz, vn, nq, tys, cellD, wideIR, if_true, if_false, implies_true, forall_const, ne_eq, reduceIte, reduceCtorEq, Nat.reduceEqDiff, Nat.reduceAdd, Nat.reduceMul, Nat.reduceLT, Nat.reduceSub, Nat.reduceLeDiff, Nat.reduceBNe, Nat.reduceBEq, Nat.reduceBeqDiff, List.range, List.range.loop, gl0, Tryd.ntmps81, Tryd.results81, retB, vb, hc]
          exact ⟨[], [16], [], ⟨rfl, rfl⟩, ⟨rfl, rfl⟩, ⟨by simp, by simp⟩, by simp, by simp [getAll, S.tok, look], by simp [getAll, S.tok, look, leI_len]; try omega, ⟨_, rfl, rfl⟩, ⟨_, rfl, rfl⟩, id rfl⟩
end Go.Vi.CK
end

section
set_option linter.unusedVariables false
set_option linter.unusedSimpArgs false
set_option maxHeartbeats 0
set_option maxRecDepth 20000
namespace Go.Vi.CK
open Go.Proofs

theorem take32 {p : List Int} (h : p.length = 32) : List.take (((32 : Nat) : Int) - 0).toNat (List.drop (Int.toNat 0) p) = p := by
  rw [show Int.toNat 0 = 0 from rfl, List.drop_zero]
  exact List.take_of_length_le (by rw [h]; decide)
theorem c_putText : Contract E 72 := by
  refine contract_boxR hE hgl (show E.P.funcs[72]? = some Tryd.f72 from Tryd.func72) rfl (p := sp_putText) (fun _ _ _ => rfl) ?_
  intro args ds tv hv hdl htl
  unfold sp_putText at hv ⊢
  split at hv
  case h_2 => exact hv.elim
  rename_i b s n
  refine ⟨by simp, Nat.le_of_ble_eq_true rfl, ?_⟩
  obtain ⟨rfl, hne, hb, hs⟩ := hv
  have e1 : IntKind.wrap .u64 (s.length : Int) = (s.length : Int) := IntWalk.u64_in _ (by omega)
  have hc := count_len (s.length : Int)
  simp (config := {dsimp := false}) only [↓vp0, vz, vn, nq, tys, cellD, wideIR, if_true, if_false, implies_true, forall_const, ne_eq, reduceIte, reduceCtorEq, Nat.reduceEqDiff, Nat.reduceAdd, Nat.reduceMul, Nat.reduceLT, Nat.reduceSub, Nat.reduceLeDiff, Nat.reduceBNe, Nat.reduceBEq, Nat.reduceBeqDiff, List.range, List.range.loop, gl0, Tryd.ntmps72, Tryd.results72, retR, vb, e1, spec_cput, sp_cput, c_cput, b_cput]
  refine ⟨.inr ⟨rfl, rfl, hne⟩, ⟨by omega, by omega⟩, by omega, some_tok (by simp), by simp; omega, ?_⟩
  refine ⟨0, 28, 4, _, _, ⟨rfl, ⟨by decide, by decide⟩, rfl, ⟨_, _, rfl, ?_⟩, rfl, [], [], [], ⟨rfl, rfl⟩, ⟨rfl, rfl⟩, ⟨by simp, by simp⟩, by simp, ?_, rfl, ⟨_, rfl, rfl⟩, ⟨_, rfl, rfl⟩, ?_⟩⟩
  · simp only [List.length_append]; omega
  · simp [getAll, S.tok, look, reT, textI]; omega
  · rfl
theorem c_putIn : Contract E 68 := by
  refine contract_boxR hE hgl (show E.P.funcs[68]? = some Tryd.f68 from Tryd.func68) rfl (p := sp_putIn) (fun _ _ _ => rfl) ?_
  intro args ds tv hv hdl htl
  unfold sp_putIn at hv ⊢
  split at hv
  case h_2 => exact hv.elim
  rename_i b p i s q w n
  refine ⟨by simp, Nat.le_of_ble_eq_true rfl, ?_⟩
  obtain ⟨rfl, hne, ⟨hp, hi, hq⟩, hb, hs⟩ := hv
  have u1 : IntKind.wrap .u64 i = i := IntWalk.u64_in _ (by have := hi.1; have := hi.2; omega)
  have u2 : IntKind.wrap .u64 q = q := IntWalk.u64_in _ (by have := hq.1; have := hq.2; omega)
  have tp := take32 hp
  have ht := text_len s
  simp (config := {dsimp := false}) only [↓vp0, vz, vn, nq, tys, cellD, wideIR, if_true, if_false, implies_true, forall_const, ne_eq, reduceIte, reduceCtorEq, Nat.reduceEqDiff, Nat.reduceAdd, Nat.reduceMul, Nat.reduceLT, Nat.reduceSub, Nat.reduceLeDiff, Nat.reduceBNe, Nat.reduceBEq, Nat.reduceBeqDiff, List.range, List.range.loop, gl0, Tryd.ntmps68, Tryd.results68, retR, vb]
  refine drawX [0, 3] [(4, [5, 6, 7, 8])] [(4, [0])] (by kernel_rfl) (wild_of rfl) ?_
  simp (config := {dsimp := false}) only [↓vp0, vz, vn, nq, tys, cellD, wideIR, if_true, if_false, implies_true, forall_const, ne_eq, reduceIte, reduceCtorEq, Nat.reduceEqDiff, Nat.reduceAdd, Nat.reduceMul, Nat.reduceLT, Nat.reduceSub, Nat.reduceLeDiff, Nat.reduceBNe, Nat.reduceBEq, Nat.reduceBeqDiff, List.range, List.range.loop, gl0, Tryd.ntmps68, Tryd.results68, retR, vb, ↓vy0, vx0, u1, tp, hp, spec_num, sp_num, c_num, b_num]
  refine ⟨by decide, by decide, by decide, by omega, okUps_of (by kernel_rfl) rfl, .inr ⟨rfl, by simp [hp], by simp [hp]⟩, .inl trivial, hi.1, hi.2, by simp [hp]; omega, okUps_all rfl (by kernel_rfl), ?_⟩
  refine drawX [0, 3] [(3, [4, 5, 6])] [(3, [52])] (by kernel_rfl) (wild_of rfl) ?_
  simp (config := {dsimp := false}) only [↓vp0, vz, vn, nq, tys, cellD, wideIR, if_true, if_false, implies_true, forall_const, ne_eq, reduceIte, reduceCtorEq, Nat.reduceEqDiff, Nat.reduceAdd, Nat.reduceMul, Nat.reduceLT, Nat.reduceSub, Nat.reduceLeDiff, Nat.reduceBNe, Nat.reduceBEq, Nat.reduceBeqDiff, List.range, List.range.loop, gl0, Tryd.ntmps68, Tryd.results68, retR, vb, ↓vy0, vx0, u2, spec_num, sp_num, c_num, b_num, spec_putText, sp_putText, c_putText, b_putText]
  have l4 : ∀ x : Int, (leI (Int.toNat 4) x).length = 4 := fun x => leI_len _ _
  have t4 : Int.toNat 4 = 4 := rfl
  refine ⟨by simp [leI_len] <;> omega, by simp [leI_len] <;> omega, by simp [leI_len, hp] <;> omega, by omega, okUps_of (by kernel_rfl) rfl, .inr ⟨rfl, by simp [leI_len] <;> omega, by simp [leI_len] <;> omega⟩, .inl trivial, hq.1, hq.2, by simp [leI_len, hp] <;> omega, okUps_all rfl (by kernel_rfl), ?_⟩
  refine ⟨0, 88, 4, _, _, ⟨rfl, ⟨by decide, by decide⟩, rfl, ⟨_, _, rfl, ?_⟩, rfl, [], [], [], ⟨rfl, rfl⟩, ⟨rfl, rfl⟩, ⟨by simp, by simp⟩, by simp, ?_, rfl, ⟨_, rfl, rfl⟩, ⟨_, rfl, rfl⟩, ?_⟩⟩
  · simp [hp, leI_len] <;> omega
  · simp [getAll, S.tok, look, reT, inI, hp, leI_len] <;> omega
  · simp only [inI, List.append_assoc]; rfl
theorem c_putOut : Contract E 70 := by
  refine contract_boxR hE hgl (show E.P.funcs[70]? = some Tryd.f70 from Tryd.func70) rfl (p := sp_putOut) (fun _ _ _ => rfl) ?_
  intro args ds tv hv hdl htl
  unfold sp_putOut at hv ⊢
  split at hv
  case h_2 => exact hv.elim
  rename_i b v s n
  refine ⟨by simp, Nat.le_of_ble_eq_true rfl, ?_⟩
  obtain ⟨rfl, hne, hv1, hb, hs⟩ := hv
  have u1 : IntKind.wrap .u64 v = v % 18446744073709551616 := rfl
  have ht := text_len s
  have m1 := Int.emod_nonneg v (show (18446744073709551616 : Int) ≠ 0 by decide)
  have m2 := Int.emod_lt_of_pos v (show (0 : Int) < 18446744073709551616 by decide)
  simp (config := {dsimp := false}) only [↓vp0, vz, vn, nq, tys, cellD, wideIR, if_true, if_false, implies_true, forall_const, ne_eq, reduceIte, reduceCtorEq, Nat.reduceEqDiff, Nat.reduceAdd, Nat.reduceMul, Nat.reduceLT, Nat.reduceSub, Nat.reduceLeDiff, Nat.reduceBNe, Nat.reduceBEq, Nat.reduceBeqDiff, List.range, List.range.loop, gl0, Tryd.ntmps70, Tryd.results70, retR, vb]
  refine drawX [0, 3] [(4, [5, 6])] [(4, [0])] (by kernel_rfl) (wild_of rfl) ?_
  simp (config := {dsimp := false}) only [↓vp0, vz, vn, nq, tys, cellD, wideIR, if_true, if_false, implies_true, forall_const, ne_eq, reduceIte, reduceCtorEq, Nat.reduceEqDiff, Nat.reduceAdd, Nat.reduceMul, Nat.reduceLT, Nat.reduceSub, Nat.reduceLeDiff, Nat.reduceBNe, Nat.reduceBEq, Nat.reduceBeqDiff, List.range, List.range.loop, gl0, Tryd.ntmps70, Tryd.results70, retR, vb, ↓vy0, vx0, u1, spec_num, sp_num, c_num, b_num, spec_putText, sp_putText, c_putText, b_putText]
  refine ⟨.inr ⟨rfl, rfl, hne⟩, .inr trivial, m1, m2, by omega, okUps_of (by kernel_rfl) rfl, by simp [leI_len], by simp [leI_len] <;> omega, by simp [leI_len] <;> omega, by omega, okUps_all rfl (by kernel_rfl), ?_⟩
  refine ⟨0, 32, 4, _, _, ⟨rfl, ⟨by decide, by decide⟩, rfl, ⟨_, _, rfl, ?_⟩, rfl, [], [], [], ⟨rfl, rfl⟩, ⟨rfl, rfl⟩, ⟨by simp, by simp⟩, by simp, ?_, rfl, ⟨_, rfl, rfl⟩, ⟨_, rfl, rfl⟩, ?_⟩⟩
  · simp [leI_len] <;> omega
  · simp [getAll, S.tok, look, reT, outI, leI_len] <;> omega
  · simp only [outI, List.append_assoc]; rfl
end Go.Vi.CK
end

section
set_option linter.unusedVariables false
set_option linter.unusedSimpArgs false
set_option maxHeartbeats 0
set_option maxRecDepth 20000
namespace Go.Vi.CK
open Go.Proofs

theorem flat_snoc {α : Type} [Inhabited α] (f : α → List Int) (l : List α) (k : Nat) (h : k < l.length) : (l.take (k + 1)).flatMap f = (l.take k).flatMap f ++ f (l.getD k default) := by
  rw [List.take_add_one, List.flatMap_append]
  simp [List.getD, h]
theorem flat_le {α : Type} [Inhabited α] (f : α → List Int) (l : List α) (k : Nat) (h : k < l.length) : ((l.take k).flatMap f).length + (f (l.getD k default)).length ≤ (l.flatMap f).length := by
  have e : l.flatMap f = (l.take (k + 1)).flatMap f ++ (l.drop (k + 1)).flatMap f := by rw [← List.flatMap_append, List.take_append_drop]
  rw [e, flat_snoc f l k h]
  simp only [List.length_append]
  omega
theorem c_layIn : Contract E 67 := by
  refine contract_boxR hE hgl (show E.P.funcs[67]? = some Tryd.f67 from Tryd.func67) rfl (p := (sp_layIn 68)) (fun _ _ _ => rfl) ?_
  intro args ds tv hv hdl htl
  unfold sp_layIn at hv ⊢
  split at hv
  case h_2 => exact hv.elim
  rename_i b es h n
  refine ⟨by simp, Nat.le_of_ble_eq_true rfl, ?_⟩
  obtain ⟨rfl, rfl, hne, ⟨l, rfl, hok, hl⟩, hlen⟩ := hv
  simp only [ins_D] at hlen ⊢
  have e1 : IntKind.wrap .u64 (l.length : Int) = (l.length : Int) := IntWalk.u64_in _ (by omega)
  have hc := count_len (l.length : Int)
  simp only [List.length_append] at hlen
  simp (config := {dsimp := false}) only [↓vp0, vz, vn, nq, tys, cellD, wideIR, if_true, if_false, implies_true, forall_const, ne_eq, reduceIte, reduceCtorEq, Nat.reduceEqDiff, Nat.reduceAdd, Nat.reduceMul, Nat.reduceLT, Nat.reduceSub, Nat.reduceLeDiff, Nat.reduceBNe, Nat.reduceBEq, Nat.reduceBeqDiff, List.range, List.range.loop, gl0, Tryd.ntmps67, Tryd.results67, retR, vb, e1, spec_cput, sp_cput, c_cput, b_cput]
  refine ⟨.inr ⟨rfl, rfl, hne⟩, ⟨by omega, by omega⟩, by omega, ?_⟩
  refine loopI (Fin (l.length + 1)) (fun k => [(16, .int .i64 (k.1 : Nat)), (15, .int .i64 (l.length : Nat)), (14, .sl .no 36 (insD l)), (0, .sli (.tok 28) .u8 (b ++ (countI l.length ++ (l.take k.1).flatMap inI))), (2, .fn 68 [])]) (fun k => ⟨[], [(0, (b.length, 1)), (28, ((b ++ (countI l.length ++ (l.take k.1).flatMap inI)).length, 1))], 48⟩) (fun k => l.length - k.1) 0 (fun _ => rfl) ?_ ?_
  · refine ⟨⟨wkD_eq rfl, rfl, wkD_eq rfl, rfl, wkD_eq rfl, rfl, wkD_eq ?_, rfl, wkD_eq rfl, rfl, trivial⟩, trivial, ⟨rfl, Nat.le_of_ble_eq_true rfl, ?_, Nat.le_of_ble_eq_true rfl, trivial⟩⟩
    · exact some_sli (by simp)
    · exact some_tok (by simp)
  rintro ⟨k, hk⟩
  simp (config := {dsimp := false}) only [↓vp0, vz, vn, nq, tys, cellD, wideIR, if_true, if_false, implies_true, forall_const, ne_eq, reduceIte, reduceCtorEq, Nat.reduceEqDiff, Nat.reduceAdd, Nat.reduceMul, Nat.reduceLT, Nat.reduceSub, Nat.reduceLeDiff, Nat.reduceBNe, Nat.reduceBEq, Nat.reduceBeqDiff, List.range, List.range.loop, gl0, Tryd.ntmps67, Tryd.results67]
  refine ⟨fun h => ?_, fun h => ?_⟩
  · have h := of_decide_eq_true h
    have hk' : k < l.length := by omega
    have g1 := insD_get l k hk'
    have hx := hok _ (getD_memI hk')
    have hfl := flat_le inI l k hk'
    have hsn := flat_snoc inI l k hk'
    have hs : (l.getD k default).script.length ≤ (inI (l.getD k default)).length := by simp only [inI, textI, List.length_append]; omega
    simp (config := {dsimp := false}) only [↓vp0, vz, vn, nq, tys, cellD, wideIR, if_true, if_false, implies_true, forall_const, ne_eq, reduceIte, reduceCtorEq, Nat.reduceEqDiff, Nat.reduceAdd, Nat.reduceMul, Nat.reduceLT, Nat.reduceSub, Nat.reduceLeDiff, Nat.reduceBNe, Nat.reduceBEq, Nat.reduceBeqDiff, List.range, List.range.loop, gl0, Tryd.ntmps67, Tryd.results67, vb, Int.toNat_natCast, g1, inD, spec_putIn, sp_putIn, c_putIn, b_putIn]
    refine ⟨by omega, by omega, by simp only [List.length_append]; omega, hx.prev, hx.ix, hx.seq, by simp only [List.length_append]; omega, by omega, ⟨k + 1, by omega⟩, ⟨⟨wkD_eq ?_, rfl, wkD_eq rfl, rfl, wkD_eq rfl, rfl, wkD_eq ?_, rfl, wkD_eq rfl, rfl, trivial⟩, trivial, ⟨rfl, Nat.le_of_ble_eq_true rfl, ?_, Nat.le_of_ble_eq_true rfl, trivial⟩⟩, by (try simp only); omega⟩
    · exact some_i64 (by (try simp only); omega)
    · exact some_sli (by rw [hsn]; first | done | rfl | (simp only [List.append_assoc]; done) | (simp only [List.append_assoc]; rfl))
    · exact some_tok (by rw [hsn]; simp only [List.length_append, Nat.add_assoc]; try rfl)

  · have h := of_decide_eq_false h
    obtain rfl : k = l.length := by omega
    simp (config := {dsimp := false}) only [↓vp0, vz, vn, nq, tys, cellD, wideIR, if_true, if_false, implies_true, forall_const, ne_eq, reduceIte, reduceCtorEq, Nat.reduceEqDiff, Nat.reduceAdd, Nat.reduceMul, Nat.reduceLT, Nat.reduceSub, Nat.reduceLeDiff, Nat.reduceBNe, Nat.reduceBEq, Nat.reduceBeqDiff, List.range, List.range.loop, gl0, Tryd.ntmps67, Tryd.results67, retR, vb, List.take_length]
    refine ⟨0, 28, 6, _, _, ⟨rfl, ⟨by decide, by decide⟩, rfl, ⟨_, _, rfl, ?_⟩, rfl, [], [], [], ⟨rfl, rfl⟩, ⟨rfl, rfl⟩, ⟨by simp, by simp⟩, by simp, by simp [getAll, S.tok, look, reT], rfl, ⟨_, rfl, rfl⟩, ⟨_, rfl, rfl⟩, id rfl⟩⟩
    simp only [List.length_append]; omega
theorem c_layOut : Contract E 69 := by
  refine contract_boxR hE hgl (show E.P.funcs[69]? = some Tryd.f69 from Tryd.func69) rfl (p := (sp_layOut 70)) (fun _ _ _ => rfl) ?_
  intro args ds tv hv hdl htl
  unfold sp_layOut at hv ⊢
  split at hv
  case h_2 => exact hv.elim
  rename_i b es h n
  refine ⟨by simp, Nat.le_of_ble_eq_true rfl, ?_⟩
  obtain ⟨rfl, rfl, hne, ⟨l, rfl, hok, hl⟩, hlen⟩ := hv
  simp only [outs_D] at hlen ⊢
  have e1 : IntKind.wrap .u64 (l.length : Int) = (l.length : Int) := IntWalk.u64_in _ (by omega)
  have hc := count_len (l.length : Int)
  simp only [List.length_append] at hlen
  simp (config := {dsimp := false}) only [↓vp0, vz, vn, nq, tys, cellD, wideIR, if_true, if_false, implies_true, forall_const, ne_eq, reduceIte, reduceCtorEq, Nat.reduceEqDiff, Nat.reduceAdd, Nat.reduceMul, Nat.reduceLT, Nat.reduceSub, Nat.reduceLeDiff, Nat.reduceBNe, Nat.reduceBEq, Nat.reduceBeqDiff, List.range, List.range.loop, gl0, Tryd.ntmps69, Tryd.results69, retR, vb, e1, spec_cput, sp_cput, c_cput, b_cput]
  refine ⟨.inr ⟨rfl, rfl, hne⟩, ⟨by omega, by omega⟩, by omega, ?_⟩
  refine loopI (Fin (l.length + 1)) (fun k => [(16, .int .i64 (k.1 : Nat)), (15, .int .i64 (l.length : Nat)), (14, .sl .no 2 (outsD l)), (0, .sli (.tok 28) .u8 (b ++ (countI l.length ++ (l.take k.1).flatMap outI))), (2, .fn 70 [])]) (fun k => ⟨[], [(0, (b.length, 1)), (28, ((b ++ (countI l.length ++ (l.take k.1).flatMap outI)).length, 1))], 48⟩) (fun k => l.length - k.1) 0 (fun _ => rfl) ?_ ?_
  · refine ⟨⟨wkD_eq rfl, rfl, wkD_eq rfl, rfl, wkD_eq rfl, rfl, wkD_eq ?_, rfl, wkD_eq rfl, rfl, trivial⟩, trivial, ⟨rfl, Nat.le_of_ble_eq_true rfl, ?_, Nat.le_of_ble_eq_true rfl, trivial⟩⟩
    · exact some_sli (by simp)
    · exact some_tok (by simp)
  rintro ⟨k, hk⟩
  simp (config := {dsimp := false}) only [↓vp0, vz, vn, nq, tys, cellD, wideIR, if_true, if_false, implies_true, forall_const, ne_eq, reduceIte, reduceCtorEq, Nat.reduceEqDiff, Nat.reduceAdd, Nat.reduceMul, Nat.reduceLT, Nat.reduceSub, Nat.reduceLeDiff, Nat.reduceBNe, Nat.reduceBEq, Nat.reduceBeqDiff, List.range, List.range.loop, gl0, Tryd.ntmps69, Tryd.results69]
  refine ⟨fun h => ?_, fun h => ?_⟩
  · have h := of_decide_eq_true h
    have hk' : k < l.length := by omega
    have g1 := outsD_get l k hk'
    have hx := hok _ (getD_memI hk')
    have hfl := flat_le outI l k hk'
    have hsn := flat_snoc outI l k hk'
    have hs : (l.getD k default).script.length ≤ (outI (l.getD k default)).length := by simp only [outI, textI, List.length_append]; omega
    simp (config := {dsimp := false}) only [↓vp0, vz, vn, nq, tys, cellD, wideIR, if_true, if_false, implies_true, forall_const, ne_eq, reduceIte, reduceCtorEq, Nat.reduceEqDiff, Nat.reduceAdd, Nat.reduceMul, Nat.reduceLT, Nat.reduceSub, Nat.reduceLeDiff, Nat.reduceBNe, Nat.reduceBEq, Nat.reduceBeqDiff, List.range, List.range.loop, gl0, Tryd.ntmps69, Tryd.results69, vb, Int.toNat_natCast, g1, outD, spec_putOut, sp_putOut, c_putOut, b_putOut]
    refine ⟨by omega, by omega, by simp only [List.length_append]; omega, hx.value, by simp only [List.length_append]; omega, by omega, ⟨k + 1, by omega⟩, ⟨⟨wkD_eq ?_, rfl, wkD_eq rfl, rfl, wkD_eq rfl, rfl, wkD_eq ?_, rfl, wkD_eq rfl, rfl, trivial⟩, trivial, ⟨rfl, Nat.le_of_ble_eq_true rfl, ?_, Nat.le_of_ble_eq_true rfl, trivial⟩⟩, by (try simp only); omega⟩
    · exact some_i64 (by (try simp only); omega)
    · exact some_sli (by rw [hsn]; first | done | rfl | (simp only [List.append_assoc]; done) | (simp only [List.append_assoc]; rfl))
    · exact some_tok (by rw [hsn]; simp only [List.length_append, Nat.add_assoc]; try rfl)

  · have h := of_decide_eq_false h
    obtain rfl : k = l.length := by omega
    simp (config := {dsimp := false}) only [↓vp0, vz, vn, nq, tys, cellD, wideIR, if_true, if_false, implies_true, forall_const, ne_eq, reduceIte, reduceCtorEq, Nat.reduceEqDiff, Nat.reduceAdd, Nat.reduceMul, Nat.reduceLT, Nat.reduceSub, Nat.reduceLeDiff, Nat.reduceBNe, Nat.reduceBEq, Nat.reduceBeqDiff, List.range, List.range.loop, gl0, Tryd.ntmps69, Tryd.results69, retR, vb, List.take_length]
    refine ⟨0, 28, 6, _, _, ⟨rfl, ⟨by decide, by decide⟩, rfl, ⟨_, _, rfl, ?_⟩, rfl, [], [], [], ⟨rfl, rfl⟩, ⟨rfl, rfl⟩, ⟨by simp, by simp⟩, by simp, by simp [getAll, S.tok, look, reT], rfl, ⟨_, rfl, rfl⟩, ⟨_, rfl, rfl⟩, id rfl⟩⟩
    simp only [List.length_append]; omega
theorem c_layWit : Contract E 71 := by
  refine contract_boxR hE hgl (show E.P.funcs[71]? = some Tryd.f71 from Tryd.func71) rfl (p := (sp_layWit 72)) (fun _ _ _ => rfl) ?_
  intro args ds tv hv hdl htl
  unfold sp_layWit at hv ⊢
  split at hv
  case h_2 => exact hv.elim
  rename_i b es h n
  refine ⟨by simp, Nat.le_of_ble_eq_true rfl, ?_⟩
  obtain ⟨rfl, rfl, hne, ⟨l, rfl, hok, hl⟩, hlen⟩ := hv
  simp only [ts_slis] at hlen ⊢
  have e1 : IntKind.wrap .u64 (l.length : Int) = (l.length : Int) := IntWalk.u64_in _ (by omega)
  have hc := count_len (l.length : Int)
  simp only [List.length_append] at hlen
  simp (config := {dsimp := false}) only [↓vp0, vz, vn, nq, tys, cellD, wideIR, if_true, if_false, implies_true, forall_const, ne_eq, reduceIte, reduceCtorEq, Nat.reduceEqDiff, Nat.reduceAdd, Nat.reduceMul, Nat.reduceLT, Nat.reduceSub, Nat.reduceLeDiff, Nat.reduceBNe, Nat.reduceBEq, Nat.reduceBeqDiff, List.range, List.range.loop, gl0, Tryd.ntmps71, Tryd.results71, retR, vb, e1, spec_cput, sp_cput, c_cput, b_cput]
  refine ⟨.inr ⟨rfl, rfl, hne⟩, ⟨by omega, by omega⟩, by omega, ?_⟩
  refine loopI (Fin (l.length + 1)) (fun k => [(16, .int .i64 (k.1 : Nat)), (15, .int .i64 (l.length : Nat)), (14, .sl .no 1 (slis l)), (0, .sli (.tok 28) .u8 (b ++ (countI l.length ++ (l.take k.1).flatMap textI))), (2, .fn 72 [])]) (fun k => ⟨[], [(0, (b.length, 1)), (28, ((b ++ (countI l.length ++ (l.take k.1).flatMap textI)).length, 1))], 48⟩) (fun k => l.length - k.1) 0 (fun _ => rfl) ?_ ?_
  · refine ⟨⟨wkD_eq rfl, rfl, wkD_eq rfl, rfl, wkD_eq rfl, rfl, wkD_eq ?_, rfl, wkD_eq rfl, rfl, trivial⟩, trivial, ⟨rfl, Nat.le_of_ble_eq_true rfl, ?_, Nat.le_of_ble_eq_true rfl, trivial⟩⟩
    · exact some_sli (by simp)
    · exact some_tok (by simp)
  rintro ⟨k, hk⟩
  simp (config := {dsimp := false}) only [↓vp0, vz, vn, nq, tys, cellD, wideIR, if_true, if_false, implies_true, forall_const, ne_eq, reduceIte, reduceCtorEq, Nat.reduceEqDiff, Nat.reduceAdd, Nat.reduceMul, Nat.reduceLT, Nat.reduceSub, Nat.reduceLeDiff, Nat.reduceBNe, Nat.reduceBEq, Nat.reduceBeqDiff, List.range, List.range.loop, gl0, Tryd.ntmps71, Tryd.results71]
  refine ⟨fun h => ?_, fun h => ?_⟩
  · have h := of_decide_eq_true h
    have hk' : k < l.length := by omega
    have g1 := slis_get l k hk'
    have hx := hok _ (getD_mem hk')
    have hfl := flat_le textI l k hk'
    have hsn := flat_snoc textI l k hk'
    have hfl : ((l.take k).flatMap textI).length + (textI (l.getD k [])).length ≤ (l.flatMap textI).length := hfl
    have hsn : (l.take (k + 1)).flatMap textI = (l.take k).flatMap textI ++ textI (l.getD k []) := hsn
    have hs : (l.getD k []).length ≤ (textI (l.getD k [])).length := by simp only [textI, List.length_append]; omega
    simp (config := {dsimp := false}) only [↓vp0, vz, vn, nq, tys, cellD, wideIR, if_true, if_false, implies_true, forall_const, ne_eq, reduceIte, reduceCtorEq, Nat.reduceEqDiff, Nat.reduceAdd, Nat.reduceMul, Nat.reduceLT, Nat.reduceSub, Nat.reduceLeDiff, Nat.reduceBNe, Nat.reduceBEq, Nat.reduceBeqDiff, List.range, List.range.loop, gl0, Tryd.ntmps71, Tryd.results71, vb, Int.toNat_natCast, g1, spec_putText, sp_putText, c_putText, b_putText]
    refine ⟨by omega, by omega, by simp only [List.length_append]; omega, by simp only [List.length_append]; omega, by omega, ⟨k + 1, by omega⟩, ⟨⟨wkD_eq ?_, rfl, wkD_eq rfl, rfl, wkD_eq rfl, rfl, wkD_eq ?_, rfl, wkD_eq rfl, rfl, trivial⟩, trivial, ⟨rfl, Nat.le_of_ble_eq_true rfl, ?_, Nat.le_of_ble_eq_true rfl, trivial⟩⟩, by (try simp only); omega⟩
    · exact some_i64 (by (try simp only); omega)
    · exact some_sli (by rw [hsn]; first | done | rfl | (simp only [List.append_assoc]; done) | (simp only [List.append_assoc]; rfl))
    · exact some_tok (by rw [hsn]; simp only [List.length_append, Nat.add_assoc]; try rfl)

  · have h := of_decide_eq_false h
    obtain rfl : k = l.length := by omega
    simp (config := {dsimp := false}) only [↓vp0, vz, vn, nq, tys, cellD, wideIR, if_true, if_false, implies_true, forall_const, ne_eq, reduceIte, reduceCtorEq, Nat.reduceEqDiff, Nat.reduceAdd, Nat.reduceMul, Nat.reduceLT, Nat.reduceSub, Nat.reduceLeDiff, Nat.reduceBNe, Nat.reduceBEq, Nat.reduceBeqDiff, List.range, List.range.loop, gl0, Tryd.ntmps71, Tryd.results71, retR, vb, List.take_length]
    refine ⟨0, 28, 6, _, _, ⟨rfl, ⟨by decide, by decide⟩, rfl, ⟨_, _, rfl, ?_⟩, rfl, [], [], [], ⟨rfl, rfl⟩, ⟨rfl, rfl⟩, ⟨by simp, by simp⟩, by simp, by simp [getAll, S.tok, look, reT], rfl, ⟨_, rfl, rfl⟩, ⟨_, rfl, rfl⟩, id rfl⟩⟩
    simp only [List.length_append]; omega
end Go.Vi.CK
end

section
set_option linter.unusedVariables false
set_option linter.unusedSimpArgs false
set_option maxHeartbeats 0
set_option maxRecDepth 20000
namespace Go.Vi.CK
open Go.Proofs

theorem c_laid : Contract E 58 := by
  refine contract_boxT hE hgl (show E.P.funcs[58]? = some Tryd.f58 from Tryd.func58) rfl (p := sp_laid) (fun _ _ _ => rfl) ?_
  intro args ds tv hv hdl htl
  unfold sp_laid at hv ⊢
  split at hv
  case h_2 => exact hv.elim
  rename_i b v is os l full
  refine ⟨by simp, Nat.le_of_ble_eq_true rfl, ?_⟩
  obtain ⟨hok, hlen⟩ := hv
  obtain ⟨t, rfl, rfl, rfl, rfl, ht, -⟩ := okT_tx hok
  simp only [ins_D, outs_D] at hlen ⊢
  have hi : isInL (insD t.ins) := ⟨_, rfl, ht.ins, ht.mi⟩
  have ho : isOutL (outsD t.outs) := ⟨_, rfl, ht.outs, ht.mo⟩
  have u1 : IntKind.wrap .u64 t.ver = t.ver := IntWalk.u64_in _ (by have := ht.ver.1; have := ht.ver.2; omega)
  have u2 : IntKind.wrap .u64 t.lock = t.lock := IntWalk.u64_in _ (by have := ht.lock.1; have := ht.lock.2; omega)
  have hlay : layI ⟨t.ver, t.ins, t.outs, t.lock⟩ full = leI 4 t.ver ++ ((if full = true then [0, 1] else []) ++ ((countI t.ins.length ++ t.ins.flatMap inI) ++ ((countI t.outs.length ++ t.outs.flatMap outI) ++ ((if full = true then t.ins.flatMap witI else []) ++ leI 4 t.lock)))) := by
    simp only [layI, List.append_assoc]
  rw [hlay] at hlen ⊢
  simp only [List.length_append, leI_len] at hlen
  obtain ⟨X, hX⟩ : ∃ X : Bool → List Int, ∀ f, X f = leI 4 t.ver ++ ((if f = true then [0, 1] else []) ++ ((countI t.ins.length ++ t.ins.flatMap inI) ++ (countI t.outs.length ++ t.outs.flatMap outI))) := ⟨_, fun _ => rfl⟩
  have t4 : Int.toNat 4 = 4 := rfl
  cases full
  · have hf := hX false
    simp only [Bool.false_eq_true, if_false, List.nil_append, List.length_nil, List.length_cons] at hlen hf
    have hl2 := congrArg List.length hf
    simp only [List.length_append, leI_len, List.length_cons, List.length_nil] at hl2
    have hmi := ht.mi
    have hne : (b ++ X false).length ≠ 0 := by simp only [List.length_append]; omega
    simp (config := {dsimp := false}) only [↓vp0, vz, vn, nq, tys, cellD, wideIR, if_true, if_false, implies_true, forall_const, ne_eq, reduceIte, reduceCtorEq, Nat.reduceEqDiff, Nat.reduceAdd, Nat.reduceMul, Nat.reduceLT, Nat.reduceSub, Nat.reduceLeDiff, Nat.reduceBNe, Nat.reduceBEq, Nat.reduceBeqDiff, List.range, List.range.loop, gl0, Tryd.ntmps58, Tryd.results58, retB, vb, u1, spec_num, sp_num, c_num, b_num, spec_layIn, sp_layIn, c_layIn, b_layIn, spec_layOut, sp_layOut, c_layOut, b_layOut]
    refine ⟨.inl ⟨rfl, rfl⟩, .inl trivial, ht.ver.1, ht.ver.2, by omega, by simp [leI_len], by simp [leI_len], hi, by simp only [List.length_append, List.length_cons, List.length_nil, leI_len, t4]; omega, by simp [leI_len], ho, by simp only [List.length_append, List.length_cons, List.length_nil, leI_len, t4]; omega, ?_⟩
    refine loopI (Fin (t.ins.length + 1)) (fun k => [(29, .int .i64 (k.1 : Nat)), (28, .int .i64 (t.ins.length : Nat)), (27, .sl .no 36 (insD t.ins)), (0, .sli (.tok 32) .u8 (b ++ (X false ++ []))), (2, .bool false), (4, .bp 8 0)]) (fun k => ⟨[(8, .agg [.int .u32 t.ver, .sl .no 36 (insD t.ins), .sl .no 2 (outsD t.outs), .int .u32 t.lock])], [(32, ((b ++ (X false ++ [])).length, 1))], 100⟩) (fun k => t.ins.length - k.1) 0 (fun _ => rfl) ?_ ?_
    · refine ⟨⟨wkD_eq rfl, rfl, wkD_eq rfl, rfl, wkD_eq rfl, rfl, wkD_eq ?_, rfl, wkD_eq rfl, rfl, wkD_eq rfl, rfl, trivial⟩, ⟨rfl, Nat.le_of_ble_eq_true rfl, rfl, trivial⟩, ⟨?_, Nat.le_of_ble_eq_true rfl, trivial⟩⟩
      · exact some_sli (by rw [hf]; simp [t4])
      · exact some_tok (by rw [hf]; simp only [List.length_append, List.length_cons, List.length_nil, leI_len, t4, Fin.val_zero, List.take_zero, List.flatMap_nil]; omega)
    rintro ⟨k, hk⟩
    simp (config := {dsimp := false}) only [↓vp0, vz, vn, nq, tys, cellD, wideIR, if_true, if_false, implies_true, forall_const, ne_eq, reduceIte, reduceCtorEq, Nat.reduceEqDiff, Nat.reduceAdd, Nat.reduceMul, Nat.reduceLT, Nat.reduceSub, Nat.reduceLeDiff, Nat.reduceBNe, Nat.reduceBEq, Nat.reduceBeqDiff, List.range, List.range.loop, gl0, Tryd.ntmps58, Tryd.results58]
    refine ⟨fun h => ?_, fun h => ?_⟩
    · have h := of_decide_eq_true h
      have hk' : k < t.ins.length := by omega
      have g1 := insD_get t.ins k hk'
      simp (config := {dsimp := false}) only [↓vp0, vz, vn, nq, tys, cellD, wideIR, if_true, if_false, implies_true, forall_const, ne_eq, reduceIte, reduceCtorEq, Nat.reduceEqDiff, Nat.reduceAdd, Nat.reduceMul, Nat.reduceLT, Nat.reduceSub, Nat.reduceLeDiff, Nat.reduceBNe, Nat.reduceBEq, Nat.reduceBeqDiff, List.range, List.range.loop, gl0, Tryd.ntmps58, Tryd.results58, vb, Int.toNat_natCast, g1, inD]
      refine ⟨by omega, by omega, ⟨k + 1, by omega⟩, ⟨⟨wkD_eq ?_, rfl, wkD_eq rfl, rfl, wkD_eq rfl, rfl, wkD_eq rfl, rfl, wkD_eq rfl, rfl, wkD_eq rfl, rfl, trivial⟩, ⟨rfl, Nat.le_of_ble_eq_true rfl, rfl, trivial⟩, ⟨rfl, Nat.le_of_ble_eq_true rfl, trivial⟩⟩, by (try simp only); omega⟩
      · exact some_i64 (by (try simp only); omega)
    · have h := of_decide_eq_false h
      obtain rfl : k = t.ins.length := by omega
      simp (config := {dsimp := false}) only [↓vp0, vz, vn, nq, tys, cellD, wideIR, if_true, if_false, implies_true, forall_const, ne_eq, reduceIte, reduceCtorEq, Nat.reduceEqDiff, Nat.reduceAdd, Nat.reduceMul, Nat.reduceLT, Nat.reduceSub, Nat.reduceLeDiff, Nat.reduceBNe, Nat.reduceBEq, Nat.reduceBeqDiff, List.range, List.range.loop, gl0, Tryd.ntmps58, Tryd.results58, retB, vb, u2, List.take_length, spec_num, sp_num, c_num, b_num]
      refine ⟨.inr ⟨rfl, rfl, by simp only [List.length_append, List.length_nil] at hne ⊢; omega⟩, .inl trivial, ht.lock.1, ht.lock.2, by simp only [List.length_append, List.length_nil]; omega, ?_⟩
      exact ⟨[], [120], [], ⟨rfl, rfl⟩, ⟨rfl, rfl⟩, ⟨by simp, by simp⟩, by simp, rfl, (show some [(_, 1)] = some [(_, 1)] from congrArg (fun n => some [(n, 1)]) (by rw [hf]; simp only [List.length_append, List.length_cons, List.length_nil, leI_len, t4]; omega)), ⟨_, rfl, rfl⟩, ⟨_, rfl, rfl⟩, by rw [hf]; simp only [List.append_assoc, List.cons_append, List.nil_append]; rfl⟩
  · have hf := hX true
    simp only [if_true, List.nil_append, List.length_nil, List.length_cons] at hlen hf
    have hl2 := congrArg List.length hf
    simp only [List.length_append, leI_len, List.length_cons, List.length_nil] at hl2
    have hmi := ht.mi
    have hne : (b ++ X true).length ≠ 0 := by simp only [List.length_append]; omega
    simp (config := {dsimp := false}) only [↓vp0, vz, vn, nq, tys, cellD, wideIR, if_true, if_false, implies_true, forall_const, ne_eq, reduceIte, reduceCtorEq, Nat.reduceEqDiff, Nat.reduceAdd, Nat.reduceMul, Nat.reduceLT, Nat.reduceSub, Nat.reduceLeDiff, Nat.reduceBNe, Nat.reduceBEq, Nat.reduceBeqDiff, List.range, List.range.loop, gl0, Tryd.ntmps58, Tryd.results58, retB, vb, u1, spec_num, sp_num, c_num, b_num, spec_layIn, sp_layIn, c_layIn, b_layIn, spec_layOut, sp_layOut, c_layOut, b_layOut]
    refine ⟨.inl ⟨rfl, rfl⟩, .inl trivial, ht.ver.1, ht.ver.2, by omega, by simp [leI_len], by simp [leI_len] <;> omega, by simp [leI_len], by simp [leI_len], hi, by simp only [List.length_append, List.length_cons, List.length_nil, leI_len, t4]; omega, by simp [leI_len], ho, by simp only [List.length_append, List.length_cons, List.length_nil, leI_len, t4]; omega, ?_⟩
    refine loopI (Fin (t.ins.length + 1)) (fun k => [(29, .int .i64 (k.1 : Nat)), (28, .int .i64 (t.ins.length : Nat)), (27, .sl .no 36 (insD t.ins)), (0, .sli (.tok 32) .u8 (b ++ (X true ++ (t.ins.take k.1).flatMap witI))), (2, .bool true), (4, .bp 8 0)]) (fun k => ⟨[(8, .agg [.int .u32 t.ver, .sl .no 36 (insD t.ins), .sl .no 2 (outsD t.outs), .int .u32 t.lock])], [(32, ((b ++ (X true ++ (t.ins.take k.1).flatMap witI)).length, 1))], 116⟩) (fun k => t.ins.length - k.1) 0 (fun _ => rfl) ?_ ?_
    · refine ⟨⟨wkD_eq rfl, rfl, wkD_eq rfl, rfl, wkD_eq rfl, rfl, wkD_eq ?_, rfl, wkD_eq rfl, rfl, wkD_eq rfl, rfl, trivial⟩, ⟨rfl, Nat.le_of_ble_eq_true rfl, rfl, trivial⟩, ⟨?_, Nat.le_of_ble_eq_true rfl, trivial⟩⟩
      · exact some_sli (by rw [hf]; simp [t4])
      · exact some_tok (by rw [hf]; simp only [List.length_append, List.length_cons, List.length_nil, leI_len, t4, Fin.val_zero, List.take_zero, List.flatMap_nil]; omega)
    rintro ⟨k, hk⟩
    simp (config := {dsimp := false}) only [↓vp0, vz, vn, nq, tys, cellD, wideIR, if_true, if_false, implies_true, forall_const, ne_eq, reduceIte, reduceCtorEq, Nat.reduceEqDiff, Nat.reduceAdd, Nat.reduceMul, Nat.reduceLT, Nat.reduceSub, Nat.reduceLeDiff, Nat.reduceBNe, Nat.reduceBEq, Nat.reduceBeqDiff, List.range, List.range.loop, gl0, Tryd.ntmps58, Tryd.results58]
    refine ⟨fun h => ?_, fun h => ?_⟩
    · have h := of_decide_eq_true h
      have hk' : k < t.ins.length := by omega
      have g1 := insD_get t.ins k hk'
      have hx := ht.ins _ (getD_memI hk')
      have hw : isWitL (slis (t.ins.getD k default).wit) := ⟨_, rfl, hx.wit, hx.many⟩
      have hfl := flat_le witI t.ins k hk'
      have hsn := flat_snoc witI t.ins k hk'
      have hwl : (witI (t.ins.getD k default)).length = (countI (t.ins.getD k default).wit.length).length + ((t.ins.getD k default).wit.flatMap textI).length := by simp only [witI, List.length_append]
      have hwe : witI (t.ins.getD k default) = countI (t.ins.getD k default).wit.length ++ (t.ins.getD k default).wit.flatMap textI := rfl
      simp (config := {dsimp := false}) only [↓vp0, vz, vn, nq, tys, cellD, wideIR, if_true, if_false, implies_true, forall_const, ne_eq, reduceIte, reduceCtorEq, Nat.reduceEqDiff, Nat.reduceAdd, Nat.reduceMul, Nat.reduceLT, Nat.reduceSub, Nat.reduceLeDiff, Nat.reduceBNe, Nat.reduceBEq, Nat.reduceBeqDiff, List.range, List.range.loop, gl0, Tryd.ntmps58, Tryd.results58, vb, Int.toNat_natCast, g1, inD, spec_layWit, sp_layWit, c_layWit, b_layWit]
      refine ⟨by omega, by omega, by simp only [List.length_append] at hne ⊢; omega, hw, by simp only [List.length_append]; omega, ⟨k + 1, by omega⟩, ⟨⟨wkD_eq ?_, rfl, wkD_eq rfl, rfl, wkD_eq rfl, rfl, wkD_eq ?_, rfl, wkD_eq rfl, rfl, wkD_eq rfl, rfl, trivial⟩, ⟨rfl, Nat.le_of_ble_eq_true rfl, rfl, trivial⟩, ⟨?_, Nat.le_of_ble_eq_true rfl, trivial⟩⟩, by (try simp only); omega⟩
      · exact some_i64 (by (try simp only); omega)
      · exact some_sli (by rw [hsn, hwe])
      · exact some_tok (by rw [hsn, hwe])
    · have h := of_decide_eq_false h
      obtain rfl : k = t.ins.length := by omega
      simp (config := {dsimp := false}) only [↓vp0, vz, vn, nq, tys, cellD, wideIR, if_true, if_false, implies_true, forall_const, ne_eq, reduceIte, reduceCtorEq, Nat.reduceEqDiff, Nat.reduceAdd, Nat.reduceMul, Nat.reduceLT, Nat.reduceSub, Nat.reduceLeDiff, Nat.reduceBNe, Nat.reduceBEq, Nat.reduceBeqDiff, List.range, List.range.loop, gl0, Tryd.ntmps58, Tryd.results58, retB, vb, u2, List.take_length, spec_num, sp_num, c_num, b_num]
      refine ⟨.inr ⟨rfl, rfl, by simp only [List.length_append, List.length_nil] at hne ⊢; omega⟩, .inl trivial, ht.lock.1, ht.lock.2, by simp only [List.length_append, List.length_nil]; omega, ?_⟩
      exact ⟨[], [136], [], ⟨rfl, rfl⟩, ⟨rfl, rfl⟩, ⟨by simp, by simp⟩, by simp, rfl, (show some [(_, 1)] = some [(_, 1)] from congrArg (fun n => some [(n, 1)]) (by rw [hf]; simp only [List.length_append, List.length_cons, List.length_nil, leI_len, t4]; omega)), ⟨_, rfl, rfl⟩, ⟨_, rfl, rfl⟩, by rw [hf]; simp only [List.append_assoc, List.cons_append, List.nil_append]; rfl⟩
end Go.Vi.CK
end

section
set_option linter.unusedVariables false
set_option linter.unusedSimpArgs false
set_option maxHeartbeats 0
set_option maxRecDepth 20000
namespace Go.Vi.CK
open Go.Proofs

theorem c_w1 : Contract E 32 := by
  refine contract_seeT hE hgl (show E.P.funcs[32]? = some Tryd.f32 from Tryd.func32) rfl (p := sp_w1) (fun _ _ _ => rfl) ?_
  intro args hv
  unfold sp_w1 at hv ⊢
  split at hv
  case h_2 => exact hv.elim
  rename_i p i s q w
  refine ⟨by simp, Nat.le_of_ble_eq_true rfl, ?_⟩
  simp (config := {dsimp := false}) only [↓vp0, vz, vn, nq, tys, cellD, wideIR, if_true, if_false, implies_true, forall_const, ne_eq, reduceIte, reduceCtorEq, Nat.reduceEqDiff, Nat.reduceAdd, Nat.reduceMul, Nat.reduceLT, Nat.reduceSub, Nat.reduceLeDiff, Nat.reduceBNe, Nat.reduceBEq, Nat.reduceBeqDiff, List.range, List.range.loop, gl0, Tryd.ntmps32, Tryd.results32]
  simp only [givesIf]
  congr 2
  exact propext (by omega)
theorem c_in1 : Contract E 79 := by
  refine contract_seeT hE hgl (show E.P.funcs[79]? = some Tryd.f79 from Tryd.func79) rfl (p := sp_in1) (fun _ _ _ => rfl) ?_
  intro args hv
  unfold sp_in1 at hv ⊢
  split at hv
  case h_2 => exact hv.elim
  rename_i s
  refine ⟨by simp, Nat.le_of_ble_eq_true rfl, ?_⟩
  simp (config := {dsimp := false}) only [↓vp0, vz, vn, nq, tys, cellD, wideIR, if_true, if_false, implies_true, forall_const, ne_eq, reduceIte, reduceCtorEq, Nat.reduceEqDiff, Nat.reduceAdd, Nat.reduceMul, Nat.reduceLT, Nat.reduceSub, Nat.reduceLeDiff, Nat.reduceBNe, Nat.reduceBEq, Nat.reduceBeqDiff, List.range, List.range.loop, gl0, Tryd.ntmps79, Tryd.results79]
  simp only [givesIf, longW]
  congr 2
  exact propext (by omega)
theorem c_tmany : Contract E 63 := by
  refine contract_seeT hE hgl (show E.P.funcs[63]? = some Tryd.f63 from Tryd.func63) rfl (p := sp_tmany) (fun _ _ _ => rfl) ?_
  intro args hv
  unfold sp_tmany at hv ⊢
  split at hv
  case h_2 => exact hv.elim
  rename_i n m
  refine ⟨by simp, Nat.le_of_ble_eq_true rfl, ?_⟩
  simp (config := {dsimp := false}) only [↓vp0, vz, vn, nq, tys, cellD, wideIR, if_true, if_false, implies_true, forall_const, ne_eq, reduceIte, reduceCtorEq, Nat.reduceEqDiff, Nat.reduceAdd, Nat.reduceMul, Nat.reduceLT, Nat.reduceSub, Nat.reduceLeDiff, Nat.reduceBNe, Nat.reduceBEq, Nat.reduceBeqDiff, List.range, List.range.loop, gl0, Tryd.ntmps63, Tryd.results63]
  simp only [gives, manyP, decide_eq_true_eq, decide_eq_false_iff_not]
  refine ⟨fun h => by rw [if_pos h], fun h => ⟨fun h2 => by rw [if_neg h, if_pos h2], fun h2 => by rw [if_neg h, if_neg h2]⟩⟩
theorem c_tout : Contract E 65 := by
  refine contract_seeT hE hgl (show E.P.funcs[65]? = some Tryd.f65 from Tryd.func65) rfl (p := sp_tout) (fun _ _ _ => rfl) ?_
  intro args hv
  unfold sp_tout at hv ⊢
  split at hv
  case h_2 => exact hv.elim
  rename_i v s
  refine ⟨by simp, Nat.le_of_ble_eq_true rfl, ?_⟩
  simp (config := {dsimp := false}) only [↓vp0, vz, vn, nq, tys, cellD, wideIR, if_true, if_false, implies_true, forall_const, ne_eq, reduceIte, reduceCtorEq, Nat.reduceEqDiff, Nat.reduceAdd, Nat.reduceMul, Nat.reduceLT, Nat.reduceSub, Nat.reduceLeDiff, Nat.reduceBNe, Nat.reduceBEq, Nat.reduceBeqDiff, List.range, List.range.loop, gl0, Tryd.ntmps65, Tryd.results65]
  simp only [givesIf]
  congr 2
  exact propext (by omega)
theorem idx_go {α : Type} [Inhabited α] (p : α → Bool) (l : List α) : (∀ k, k < l.length → (∀ j, j < k → p (l.getD j default) = false) → p (l.getD k default) = true → idxP p l = (k : Int)) ∧ ((∀ j, j < l.length → p (l.getD j default) = false) → idxP p l = -1) := by
  have hg : ∀ (i : Nat) (h : i < l.length), l.getD i default = l[i] := fun i h => by simp [List.getD, h]
  refine ⟨fun k hk hb hp => ?_, fun hb => ?_⟩
  · have : l.findIdx? p = some k := by
      rw [List.findIdx?_eq_some_iff_getElem]
      refine ⟨hk, by rw [← hg k hk]; exact hp, fun j hj => ?_⟩
      rw [← hg j (by omega), hb j hj]; decide
    simp only [idxP, this]
  · have : l.findIdx? p = none := by
      rw [List.findIdx?_eq_none_iff]
      intro x hx
      obtain ⟨i, h1, rfl⟩ := List.getElem_of_mem hx
      rw [← hg i h1]
      exact hb i h1
    simp only [idxP, this]
theorem idx_any {α : Type} (p : α → Bool) (l : List α) : decide (0 ≤ idxP p l) = l.any p := by
  cases h : l.findIdx? p with
  | none =>
    have h2 := List.findIdx?_eq_none_iff.1 h
    simp only [idxP, h]
    have : l.any p = false := List.any_eq_false.2 fun x hx => by rw [h2 x hx]; decide
    rw [this]; rfl
  | some k =>
    obtain ⟨h1, h2, _⟩ := List.findIdx?_eq_some_iff_getElem.1 h
    simp only [idxP, h]
    have : l.any p = true := List.any_eq_true.2 ⟨_, List.getElem_mem h1, h2⟩
    rw [this]; simp
theorem c_indexIn : Contract E 51 := by
  refine contract_seeT hE hgl (show E.P.funcs[51]? = some Tryd.f51 from Tryd.func51) rfl (p := (sp_indexIn 32)) (fun _ _ _ => rfl) ?_
  intro args hv
  unfold sp_indexIn at hv ⊢
  split at hv
  case h_2 => exact hv.elim
  rename_i es h
  refine ⟨by simp, Nat.le_of_ble_eq_true rfl, ?_⟩
  simp only [givesIf] at hv
  obtain ⟨rfl, l, rfl, hok, hl⟩ := hv
  obtain ⟨hI1, hI2⟩ := idx_go hasWit l
  simp (config := {dsimp := false}) only [↓vp0, vz, vn, nq, tys, cellD, wideIR, if_true, if_false, implies_true, forall_const, ne_eq, reduceIte, reduceCtorEq, Nat.reduceEqDiff, Nat.reduceAdd, Nat.reduceMul, Nat.reduceLT, Nat.reduceSub, Nat.reduceLeDiff, Nat.reduceBNe, Nat.reduceBEq, Nat.reduceBeqDiff, List.range, List.range.loop, gl0, Tryd.ntmps51, Tryd.results51]
  refine loopI {k : Nat // k ≤ l.length ∧ ∀ j, j < k → hasWit (l.getD j default) = false} (fun k => [(8, .int .i64 (k.1 : Nat)), (7, .int .i64 (l.length : Nat)), (0, .sl .no 36 (insD l)), (1, .fn 32 [])]) (fun _ => ⟨[], [], 16⟩) (fun k => l.length - k.1) ⟨0, by simp⟩ (fun _ => rfl) ?_ ?_
  · exact ⟨⟨wkD_eq rfl, rfl, wkD_eq rfl, rfl, wkD_eq rfl, rfl, wkD_eq rfl, rfl, trivial⟩, trivial, trivial⟩
  rintro ⟨k, hk, hb⟩
  simp (config := {dsimp := false}) only [↓vp0, vz, vn, nq, tys, cellD, wideIR, if_true, if_false, implies_true, forall_const, ne_eq, reduceIte, reduceCtorEq, Nat.reduceEqDiff, Nat.reduceAdd, Nat.reduceMul, Nat.reduceLT, Nat.reduceSub, Nat.reduceLeDiff, Nat.reduceBNe, Nat.reduceBEq, Nat.reduceBeqDiff, List.range, List.range.loop, gl0, Tryd.ntmps51, Tryd.results51]
  refine ⟨fun hh => ?_, fun hh => ?_⟩
  · have hh := of_decide_eq_true hh
    have hk' : k < l.length := by omega
    have g1 := insD_get l k hk'
    have hx := hok _ (getD_memI hk')
    cases hp : hasWit (l.getD k default)
    · have hq : decide (0 < (l.getD k default).wit.length) = false := hp
      simp (config := {dsimp := false}) only [↓vp0, vz, vn, nq, tys, cellD, wideIR, if_true, if_false, implies_true, forall_const, ne_eq, reduceIte, reduceCtorEq, Nat.reduceEqDiff, Nat.reduceAdd, Nat.reduceMul, Nat.reduceLT, Nat.reduceSub, Nat.reduceLeDiff, Nat.reduceBNe, Nat.reduceBEq, Nat.reduceBeqDiff, List.range, List.range.loop, gl0, Tryd.ntmps51, Tryd.results51, PF.toR, givesIf, Int.toNat_natCast, g1, inD, hq, spec_w1, sp_w1, c_w1, b_w1]
      refine ⟨by omega, by omega, hx.many, ⟨k + 1, by omega, fun j hj => ?_⟩, ⟨⟨wkD_eq ?_, rfl, wkD_eq rfl, rfl, wkD_eq rfl, rfl, wkD_eq rfl, rfl, trivial⟩, trivial, trivial⟩, by (try simp only); omega⟩
      · rcases Nat.lt_or_ge j k with h7 | h7
        · exact hb j h7
        · obtain rfl : j = k := by omega
          exact hp
      · exact some_i64 (by (try simp only); omega)
    · have hq : decide (0 < (l.getD k default).wit.length) = true := hp
      simp (config := {dsimp := false}) only [↓vp0, vz, vn, nq, tys, cellD, wideIR, if_true, if_false, implies_true, forall_const, ne_eq, reduceIte, reduceCtorEq, Nat.reduceEqDiff, Nat.reduceAdd, Nat.reduceMul, Nat.reduceLT, Nat.reduceSub, Nat.reduceLeDiff, Nat.reduceBNe, Nat.reduceBEq, Nat.reduceBeqDiff, List.range, List.range.loop, gl0, Tryd.ntmps51, Tryd.results51, PF.toR, givesIf, Int.toNat_natCast, g1, inD, hq, ins_D, hI1 k hk' hb hp, spec_w1, sp_w1, c_w1, b_w1]
      exact ⟨by omega, by omega, hx.many⟩
  · have hh := of_decide_eq_false hh
    obtain rfl : k = l.length := by omega
    simp (config := {dsimp := false}) only [↓vp0, vz, vn, nq, tys, cellD, wideIR, if_true, if_false, implies_true, forall_const, ne_eq, reduceIte, reduceCtorEq, Nat.reduceEqDiff, Nat.reduceAdd, Nat.reduceMul, Nat.reduceLT, Nat.reduceSub, Nat.reduceLeDiff, Nat.reduceBNe, Nat.reduceBEq, Nat.reduceBeqDiff, List.range, List.range.loop, gl0, Tryd.ntmps51, Tryd.results51, givesIf, ins_D, hI2 hb]
    all_goals rfl
theorem c_containsIn : Contract E 31 := by
  refine contract_seeT hE hgl (show E.P.funcs[31]? = some Tryd.f31 from Tryd.func31) rfl (p := (sp_containsIn 32)) (fun _ _ _ => rfl) ?_
  intro args hv
  unfold sp_containsIn at hv ⊢
  split at hv
  case h_2 => exact hv.elim
  rename_i es h
  refine ⟨by simp, Nat.le_of_ble_eq_true rfl, ?_⟩
  simp only [givesIf] at hv
  obtain ⟨rfl, l, rfl, hok, hl⟩ := hv
  simp (config := {dsimp := false}) only [↓vp0, vz, vn, nq, tys, cellD, wideIR, if_true, if_false, implies_true, forall_const, ne_eq, reduceIte, reduceCtorEq, Nat.reduceEqDiff, Nat.reduceAdd, Nat.reduceMul, Nat.reduceLT, Nat.reduceSub, Nat.reduceLeDiff, Nat.reduceBNe, Nat.reduceBEq, Nat.reduceBeqDiff, List.range, List.range.loop, gl0, Tryd.ntmps31, Tryd.results31, PF.toR, givesIf, ins_D, idx_any, spec_indexIn, sp_indexIn, c_indexIn, b_indexIn]
  exact ⟨_, rfl, hok, hl⟩
theorem c_twitnessed : Contract E 18 := by
  refine contract_seeT hE hgl (show E.P.funcs[18]? = some Tryd.f18 from Tryd.func18) rfl (p := sp_twitnessed) (fun _ _ _ => rfl) ?_
  intro args hv
  unfold sp_twitnessed at hv ⊢
  split at hv
  case h_2 => exact hv.elim
  rename_i v is os l
  refine ⟨by simp, Nat.le_of_ble_eq_true rfl, ?_⟩
  simp only [givesIf] at hv
  obtain ⟨t, rfl, rfl, rfl, rfl, ht, -⟩ := okT_tx hv
  simp (config := {dsimp := false}) only [↓vp0, vz, vn, nq, tys, cellD, wideIR, if_true, if_false, implies_true, forall_const, ne_eq, reduceIte, reduceCtorEq, Nat.reduceEqDiff, Nat.reduceAdd, Nat.reduceMul, Nat.reduceLT, Nat.reduceSub, Nat.reduceLeDiff, Nat.reduceBNe, Nat.reduceBEq, Nat.reduceBeqDiff, List.range, List.range.loop, gl0, Tryd.ntmps18, Tryd.results18, PF.toR, givesIf, spec_containsIn, sp_containsIn, c_containsIn, b_containsIn]
  exact ⟨_, rfl, ht.ins, ht.mi⟩
theorem c_indexB : Contract E 85 := by
  refine contract_seeT hE hgl (show E.P.funcs[85]? = some Tryd.f85 from Tryd.func85) rfl (p := (sp_indexB 79)) (fun _ _ _ => rfl) ?_
  intro args hv
  unfold sp_indexB at hv ⊢
  split at hv
  case h_2 => exact hv.elim
  rename_i es h
  refine ⟨by simp, Nat.le_of_ble_eq_true rfl, ?_⟩
  simp only [givesIf] at hv
  obtain ⟨rfl, l, rfl, hok, hl⟩ := hv
  obtain ⟨hI1, hI2⟩ := idx_go longW l
  simp (config := {dsimp := false}) only [↓vp0, vz, vn, nq, tys, cellD, wideIR, if_true, if_false, implies_true, forall_const, ne_eq, reduceIte, reduceCtorEq, Nat.reduceEqDiff, Nat.reduceAdd, Nat.reduceMul, Nat.reduceLT, Nat.reduceSub, Nat.reduceLeDiff, Nat.reduceBNe, Nat.reduceBEq, Nat.reduceBeqDiff, List.range, List.range.loop, gl0, Tryd.ntmps85, Tryd.results85]
  refine loopI {k : Nat // k ≤ l.length ∧ ∀ j, j < k → longW (l.getD j default) = false} (fun k => [(8, .int .i64 (k.1 : Nat)), (7, .int .i64 (l.length : Nat)), (0, .sl .no 1 (slis l)), (1, .fn 79 [])]) (fun _ => ⟨[], [], 16⟩) (fun k => l.length - k.1) ⟨0, by simp⟩ (fun _ => rfl) ?_ ?_
  · exact ⟨⟨wkD_eq rfl, rfl, wkD_eq rfl, rfl, wkD_eq rfl, rfl, wkD_eq rfl, rfl, trivial⟩, trivial, trivial⟩
  rintro ⟨k, hk, hb⟩
  simp (config := {dsimp := false}) only [↓vp0, vz, vn, nq, tys, cellD, wideIR, if_true, if_false, implies_true, forall_const, ne_eq, reduceIte, reduceCtorEq, Nat.reduceEqDiff, Nat.reduceAdd, Nat.reduceMul, Nat.reduceLT, Nat.reduceSub, Nat.reduceLeDiff, Nat.reduceBNe, Nat.reduceBEq, Nat.reduceBeqDiff, List.range, List.range.loop, gl0, Tryd.ntmps85, Tryd.results85]
  refine ⟨fun hh => ?_, fun hh => ?_⟩
  · have hh := of_decide_eq_true hh
    have hk' : k < l.length := by omega
    have g1 : (slis l).getD k .any = .sli .no .u8 (l.getD k default) := slis_get l k hk'
    have hx := hok _ (getD_memI hk')
    cases hp : longW (l.getD k default)
    · have hq : longW (l.getD k default) = false := hp
      simp (config := {dsimp := false}) only [↓vp0, vz, vn, nq, tys, cellD, wideIR, if_true, if_false, implies_true, forall_const, ne_eq, reduceIte, reduceCtorEq, Nat.reduceEqDiff, Nat.reduceAdd, Nat.reduceMul, Nat.reduceLT, Nat.reduceSub, Nat.reduceLeDiff, Nat.reduceBNe, Nat.reduceBEq, Nat.reduceBeqDiff, List.range, List.range.loop, gl0, Tryd.ntmps85, Tryd.results85, PF.toR, givesIf, Int.toNat_natCast, g1, hq, spec_in1, sp_in1, c_in1, b_in1]
      refine ⟨by omega, by omega, hx.2, ⟨k + 1, by omega, fun j hj => ?_⟩, ⟨⟨wkD_eq ?_, rfl, wkD_eq rfl, rfl, wkD_eq rfl, rfl, wkD_eq rfl, rfl, trivial⟩, trivial, trivial⟩, by (try simp only); omega⟩
      · rcases Nat.lt_or_ge j k with h7 | h7
        · exact hb j h7
        · obtain rfl : j = k := by omega
          exact hp
      · exact some_i64 (by (try simp only); omega)
    · have hq : longW (l.getD k default) = true := hp
      simp (config := {dsimp := false}) only [↓vp0, vz, vn, nq, tys, cellD, wideIR, if_true, if_false, implies_true, forall_const, ne_eq, reduceIte, reduceCtorEq, Nat.reduceEqDiff, Nat.reduceAdd, Nat.reduceMul, Nat.reduceLT, Nat.reduceSub, Nat.reduceLeDiff, Nat.reduceBNe, Nat.reduceBEq, Nat.reduceBeqDiff, List.range, List.range.loop, gl0, Tryd.ntmps85, Tryd.results85, PF.toR, givesIf, Int.toNat_natCast, g1, hq, ts_slis, hI1 k hk' hb hp, spec_in1, sp_in1, c_in1, b_in1]
      exact ⟨by omega, by omega, hx.2⟩
  · have hh := of_decide_eq_false hh
    obtain rfl : k = l.length := by omega
    simp (config := {dsimp := false}) only [↓vp0, vz, vn, nq, tys, cellD, wideIR, if_true, if_false, implies_true, forall_const, ne_eq, reduceIte, reduceCtorEq, Nat.reduceEqDiff, Nat.reduceAdd, Nat.reduceMul, Nat.reduceLT, Nat.reduceSub, Nat.reduceLeDiff, Nat.reduceBNe, Nat.reduceBEq, Nat.reduceBeqDiff, List.range, List.range.loop, gl0, Tryd.ntmps85, Tryd.results85, givesIf, ts_slis, hI2 hb]
    all_goals rfl
theorem c_containsB : Contract E 78 := by
  refine contract_seeT hE hgl (show E.P.funcs[78]? = some Tryd.f78 from Tryd.func78) rfl (p := (sp_containsB 79)) (fun _ _ _ => rfl) ?_
  intro args hv
  unfold sp_containsB at hv ⊢
  split at hv
  case h_2 => exact hv.elim
  rename_i es h
  refine ⟨by simp, Nat.le_of_ble_eq_true rfl, ?_⟩
  simp only [givesIf] at hv
  obtain ⟨rfl, l, rfl, hok, hl⟩ := hv
  simp (config := {dsimp := false}) only [↓vp0, vz, vn, nq, tys, cellD, wideIR, if_true, if_false, implies_true, forall_const, ne_eq, reduceIte, reduceCtorEq, Nat.reduceEqDiff, Nat.reduceAdd, Nat.reduceMul, Nat.reduceLT, Nat.reduceSub, Nat.reduceLeDiff, Nat.reduceBNe, Nat.reduceBEq, Nat.reduceBeqDiff, List.range, List.range.loop, gl0, Tryd.ntmps78, Tryd.results78, PF.toR, givesIf, ts_slis, idx_any, spec_indexB, sp_indexB, c_indexB, b_indexB]
  exact ⟨_, rfl, hok, hl⟩
theorem c_tin : Contract E 64 := by
  refine contract_seeT hE hgl (show E.P.funcs[64]? = some Tryd.f64 from Tryd.func64) rfl (p := sp_tin) (fun _ _ _ => rfl) ?_
  intro args hv
  unfold sp_tin at hv ⊢
  split at hv
  case h_2 => exact hv.elim
  rename_i p i s q w
  refine ⟨by simp, Nat.le_of_ble_eq_true rfl, ?_⟩
  simp only [givesIf] at hv
  obtain ⟨⟨l, rfl, hok, hl⟩, hs⟩ := hv
  have d1 : decide ((s.length : Int) ≤ 128) = decide (s.length ≤ 128) := by congr 1; exact propext (by omega)
  have d2 : decide ((l.length : Int) ≤ 8) = decide (l.length ≤ 8) := by congr 1; exact propext (by omega)
  have hw : isWitL (slis l) := ⟨_, rfl, hok, hl⟩
  cases h1 : decide (s.length ≤ 128) <;> cases h2 : decide (l.length ≤ 8)
  all_goals simp (config := {dsimp := false}) only [↓vp0, vz, vn, nq, tys, cellD, wideIR, if_true, if_false, implies_true, forall_const, ne_eq, reduceIte, reduceCtorEq, Nat.reduceEqDiff, Nat.reduceAdd, Nat.reduceMul, Nat.reduceLT, Nat.reduceSub, Nat.reduceLeDiff, Nat.reduceBNe, Nat.reduceBEq, Nat.reduceBeqDiff, List.range, List.range.loop, gl0, Tryd.ntmps64, Tryd.results64, PF.toR, givesIf, d1, d2, h1, h2, spec_containsB, sp_containsB, c_containsB, b_containsB]
  exact hw
theorem check_1 {t : TxP} (h : ¬ manyP t.ins.length 16 = 0) : checkP t = manyP t.ins.length 16 := by unfold checkP; rw [if_pos h]
theorem check_2 {t : TxP} (h : manyP t.ins.length 16 = 0) (h2 : ¬ manyP t.outs.length 16 = 0) : checkP t = manyP t.outs.length 16 := by unfold checkP; rw [if_neg (by simp [h]), if_pos h2]
theorem check_3 {t : TxP} (h : manyP t.ins.length 16 = 0) (h2 : manyP t.outs.length 16 = 0) {x : InP} (hx : x ∈ t.ins) (hb : inOkP x = false) : checkP t = 3 := by
  unfold checkP
  rw [if_neg (by simp [h]), if_neg (by simp [h2]), if_pos (List.all_eq_false.2 ⟨x, hx, by rw [hb]; decide⟩)]
theorem check_4 {t : TxP} (h : manyP t.ins.length 16 = 0) (h2 : manyP t.outs.length 16 = 0) (hi : ∀ j, j < t.ins.length → inOkP (t.ins.getD j default) = true) {x : OutP} (hx : x ∈ t.outs) (hb : outOkP x = false) : checkP t = 3 := by
  unfold checkP
  rw [if_neg (by simp [h]), if_neg (by simp [h2]), if_neg, if_pos (List.all_eq_false.2 ⟨x, hx, by rw [hb]; decide⟩)]
  rw [List.all_eq_true.2 fun x hx => by
    obtain ⟨i, h1, rfl⟩ := List.getElem_of_mem hx
    have := hi i h1
    simpa [List.getD, h1] using this]
  decide
theorem check_5 {t : TxP} (h : manyP t.ins.length 16 = 0) (h2 : manyP t.outs.length 16 = 0) (hi : ∀ j, j < t.ins.length → inOkP (t.ins.getD j default) = true) (ho : ∀ j, j < t.outs.length → outOkP (t.outs.getD j default) = true) : checkP t = 0 := by
  unfold checkP
  rw [if_neg (by simp [h]), if_neg (by simp [h2]), if_neg, if_neg]
  · rw [List.all_eq_true.2 fun x hx => by
      obtain ⟨i, h1, rfl⟩ := List.getElem_of_mem hx
      have := ho i h1
      simpa [List.getD, h1] using this]
    decide
  · rw [List.all_eq_true.2 fun x hx => by
      obtain ⟨i, h1, rfl⟩ := List.getElem_of_mem hx
      have := hi i h1
      simpa [List.getD, h1] using this]
    decide
theorem c_tcheck : Contract E 57 := by
  refine contract_seeT hE hgl (show E.P.funcs[57]? = some Tryd.f57 from Tryd.func57) rfl (p := sp_tcheck) (fun _ _ _ => rfl) ?_
  intro args hv
  unfold sp_tcheck at hv ⊢
  split at hv
  case h_2 => exact hv.elim
  rename_i v is os l
  refine ⟨by simp, Nat.le_of_ble_eq_true rfl, ?_⟩
  simp only [givesIf] at hv
  obtain ⟨t, rfl, rfl, rfl, rfl, ht, he⟩ := okT_tx hv
  have hmi := ht.mi
  have hmo := ht.mo
  have eta : (⟨t.ver, t.ins, t.outs, t.lock⟩ : TxP) = t := rfl
  by_cases h1 : manyP t.ins.length 16 = 0
  case neg => simp (config := {dsimp := false}) only [↓vp0, vz, vn, nq, tys, cellD, wideIR, if_true, if_false, implies_true, forall_const, ne_eq, reduceIte, reduceCtorEq, Nat.reduceEqDiff, Nat.reduceAdd, Nat.reduceMul, Nat.reduceLT, Nat.reduceSub, Nat.reduceLeDiff, Nat.reduceBNe, Nat.reduceBEq, Nat.reduceBeqDiff, List.range, List.range.loop, gl0, Tryd.ntmps57, Tryd.results57, PF.toR, givesIf, gives, h1, decide_false, eta, check_1 h1, spec_tmany, sp_tmany, c_tmany, b_tmany]
  by_cases h2 : manyP t.outs.length 16 = 0
  case neg => simp (config := {dsimp := false}) only [↓vp0, vz, vn, nq, tys, cellD, wideIR, if_true, if_false, implies_true, forall_const, ne_eq, reduceIte, reduceCtorEq, Nat.reduceEqDiff, Nat.reduceAdd, Nat.reduceMul, Nat.reduceLT, Nat.reduceSub, Nat.reduceLeDiff, Nat.reduceBNe, Nat.reduceBEq, Nat.reduceBeqDiff, List.range, List.range.loop, gl0, Tryd.ntmps57, Tryd.results57, PF.toR, givesIf, gives, h1, h2, eq_self, decide_true, decide_false, eta, check_2 h1 h2, spec_tmany, sp_tmany, c_tmany, b_tmany]
  simp (config := {dsimp := false}) only [↓vp0, vz, vn, nq, tys, cellD, wideIR, if_true, if_false, implies_true, forall_const, ne_eq, reduceIte, reduceCtorEq, Nat.reduceEqDiff, Nat.reduceAdd, Nat.reduceMul, Nat.reduceLT, Nat.reduceSub, Nat.reduceLeDiff, Nat.reduceBNe, Nat.reduceBEq, Nat.reduceBeqDiff, List.range, List.range.loop, gl0, Tryd.ntmps57, Tryd.results57, PF.toR, givesIf, gives, h1, h2, eq_self, decide_true, eta, spec_tmany, sp_tmany, c_tmany, b_tmany]
  refine loopI {k : Nat // k ≤ t.ins.length ∧ ∀ j, j < k → inOkP (t.ins.getD j default) = true} (fun k => [(26, .int .i64 (k.1 : Nat)), (25, .int .i64 (t.ins.length : Nat)), (24, .sl .no 36 (insD t.ins)), (1, .bp 0 0)]) (fun _ => ⟨[(0, .agg [.int .u32 t.ver, .sl .no 36 (insD t.ins), .sl .no 2 (outsD t.outs), .int .u32 t.lock])], [], 80⟩) (fun k => t.ins.length - k.1) ⟨0, by simp⟩ (fun _ => rfl) ?_ ?_
  · exact ⟨⟨wkD_eq rfl, rfl, wkD_eq rfl, rfl, wkD_eq rfl, rfl, wkD_eq rfl, rfl, trivial⟩, ⟨rfl, Nat.le_of_ble_eq_true rfl, rfl, trivial⟩, trivial⟩
  rintro ⟨k, hk, hb⟩
  simp (config := {dsimp := false}) only [↓vp0, vz, vn, nq, tys, cellD, wideIR, if_true, if_false, implies_true, forall_const, ne_eq, reduceIte, reduceCtorEq, Nat.reduceEqDiff, Nat.reduceAdd, Nat.reduceMul, Nat.reduceLT, Nat.reduceSub, Nat.reduceLeDiff, Nat.reduceBNe, Nat.reduceBEq, Nat.reduceBeqDiff, List.range, List.range.loop, gl0, Tryd.ntmps57, Tryd.results57]
  refine ⟨fun hh => ?_, fun hh => ?_⟩
  · have hh := of_decide_eq_true hh
    have hk' : k < t.ins.length := by omega
    have g1 := insD_get t.ins k hk'
    have hx := ht.ins _ (getD_memI hk')
    have hw : isWitL (slis (t.ins.getD k default).wit) := ⟨_, rfl, hx.wit, hx.many⟩
    cases hp : inOkP (t.ins.getD k default)
    · have hq : (decide ((t.ins.getD k default).script.length ≤ 128) && (decide ((t.ins.getD k default).wit.length ≤ 8) && !(t.ins.getD k default).wit.any longW)) = false := hp
      simp (config := {dsimp := false}) only [↓vp0, vz, vn, nq, tys, cellD, wideIR, if_true, if_false, implies_true, forall_const, ne_eq, reduceIte, reduceCtorEq, Nat.reduceEqDiff, Nat.reduceAdd, Nat.reduceMul, Nat.reduceLT, Nat.reduceSub, Nat.reduceLeDiff, Nat.reduceBNe, Nat.reduceBEq, Nat.reduceBeqDiff, List.range, List.range.loop, gl0, Tryd.ntmps57, Tryd.results57, PF.toR, givesIf, Int.toNat_natCast, g1, inD, hq, check_3 h1 h2 (getD_memI hk') hp, spec_tin, sp_tin, c_tin, b_tin]
      exact ⟨by omega, by omega, hw, hx.script.2⟩
    · have hq : (decide ((t.ins.getD k default).script.length ≤ 128) && (decide ((t.ins.getD k default).wit.length ≤ 8) && !(t.ins.getD k default).wit.any longW)) = true := hp
      simp (config := {dsimp := false}) only [↓vp0, vz, vn, nq, tys, cellD, wideIR, if_true, if_false, implies_true, forall_const, ne_eq, reduceIte, reduceCtorEq, Nat.reduceEqDiff, Nat.reduceAdd, Nat.reduceMul, Nat.reduceLT, Nat.reduceSub, Nat.reduceLeDiff, Nat.reduceBNe, Nat.reduceBEq, Nat.reduceBeqDiff, List.range, List.range.loop, gl0, Tryd.ntmps57, Tryd.results57, PF.toR, givesIf, Int.toNat_natCast, g1, inD, hq, spec_tin, sp_tin, c_tin, b_tin]
      refine ⟨by omega, by omega, hw, hx.script.2, ⟨k + 1, by omega, fun j hj => ?_⟩, ⟨⟨wkD_eq ?_, rfl, wkD_eq rfl, rfl, wkD_eq rfl, rfl, wkD_eq rfl, rfl, trivial⟩, ⟨rfl, Nat.le_of_ble_eq_true rfl, rfl, trivial⟩, trivial⟩, by (try simp only); omega⟩
      · rcases Nat.lt_or_ge j k with h7 | h7
        · exact hb j h7
        · obtain rfl : j = k := by omega
          exact hp
      · exact some_i64 (by (try simp only); omega)
  have hh := of_decide_eq_false hh
  obtain rfl : k = t.ins.length := by omega
  have hbi := hb
  refine loopI {k : Nat // k ≤ t.outs.length ∧ ∀ j, j < k → outOkP (t.outs.getD j default) = true} (fun k => [(37, .int .i64 (k.1 : Nat)), (36, .int .i64 (t.outs.length : Nat)), (35, .sl .no 2 (outsD t.outs)), (1, .bp 0 0)]) (fun _ => ⟨[(0, .agg [.int .u32 t.ver, .sl .no 36 (insD t.ins), .sl .no 2 (outsD t.outs), .int .u32 t.lock])], [], 100⟩) (fun k => t.outs.length - k.1) ⟨0, by simp⟩ (fun _ => rfl) ?_ ?_
  · exact ⟨⟨wkD_eq rfl, rfl, wkD_eq rfl, rfl, wkD_eq rfl, rfl, wkD_eq rfl, rfl, trivial⟩, ⟨rfl, Nat.le_of_ble_eq_true rfl, rfl, trivial⟩, trivial⟩
  rintro ⟨k, hk, hb⟩
  simp (config := {dsimp := false}) only [↓vp0, vz, vn, nq, tys, cellD, wideIR, if_true, if_false, implies_true, forall_const, ne_eq, reduceIte, reduceCtorEq, Nat.reduceEqDiff, Nat.reduceAdd, Nat.reduceMul, Nat.reduceLT, Nat.reduceSub, Nat.reduceLeDiff, Nat.reduceBNe, Nat.reduceBEq, Nat.reduceBeqDiff, List.range, List.range.loop, gl0, Tryd.ntmps57, Tryd.results57]
  refine ⟨fun hh => ?_, fun hh => ?_⟩
  · have hh := of_decide_eq_true hh
    have hk' : k < t.outs.length := by omega
    have g1 := outsD_get t.outs k hk'
    have hx := ht.outs _ (getD_memI hk')
    skip
    cases hp : outOkP (t.outs.getD k default)
    · have hq : decide ((t.outs.getD k default).script.length ≤ 128) = false := hp
      simp (config := {dsimp := false}) only [↓vp0, vz, vn, nq, tys, cellD, wideIR, if_true, if_false, implies_true, forall_const, ne_eq, reduceIte, reduceCtorEq, Nat.reduceEqDiff, Nat.reduceAdd, Nat.reduceMul, Nat.reduceLT, Nat.reduceSub, Nat.reduceLeDiff, Nat.reduceBNe, Nat.reduceBEq, Nat.reduceBeqDiff, List.range, List.range.loop, gl0, Tryd.ntmps57, Tryd.results57, PF.toR, givesIf, Int.toNat_natCast, g1, outD, hq, check_4 h1 h2 hbi (getD_memI hk') hp, spec_tout, sp_tout, c_tout, b_tout]
      exact ⟨by omega, by omega, hx.script.2⟩
    · have hq : decide ((t.outs.getD k default).script.length ≤ 128) = true := hp
      simp (config := {dsimp := false}) only [↓vp0, vz, vn, nq, tys, cellD, wideIR, if_true, if_false, implies_true, forall_const, ne_eq, reduceIte, reduceCtorEq, Nat.reduceEqDiff, Nat.reduceAdd, Nat.reduceMul, Nat.reduceLT, Nat.reduceSub, Nat.reduceLeDiff, Nat.reduceBNe, Nat.reduceBEq, Nat.reduceBeqDiff, List.range, List.range.loop, gl0, Tryd.ntmps57, Tryd.results57, PF.toR, givesIf, Int.toNat_natCast, g1, outD, hq, spec_tout, sp_tout, c_tout, b_tout]
      refine ⟨by omega, by omega, hx.script.2, ⟨k + 1, by omega, fun j hj => ?_⟩, ⟨⟨wkD_eq ?_, rfl, wkD_eq rfl, rfl, wkD_eq rfl, rfl, wkD_eq rfl, rfl, trivial⟩, ⟨rfl, Nat.le_of_ble_eq_true rfl, rfl, trivial⟩, trivial⟩, by (try simp only); omega⟩
      · rcases Nat.lt_or_ge j k with h7 | h7
        · exact hb j h7
        · obtain rfl : j = k := by omega
          exact hp
      · exact some_i64 (by (try simp only); omega)
  have hh := of_decide_eq_false hh
  obtain rfl : k = t.outs.length := by omega
  simp (config := {dsimp := false}) only [↓vp0, vz, vn, nq, tys, cellD, wideIR, if_true, if_false, implies_true, forall_const, ne_eq, reduceIte, reduceCtorEq, Nat.reduceEqDiff, Nat.reduceAdd, Nat.reduceMul, Nat.reduceLT, Nat.reduceSub, Nat.reduceLeDiff, Nat.reduceBNe, Nat.reduceBEq, Nat.reduceBeqDiff, List.range, List.range.loop, gl0, Tryd.ntmps57, Tryd.results57, check_5 h1 h2 hbi hb]
  all_goals rfl
end Go.Vi.CK
end

section
set_option linter.unusedVariables false
set_option linter.unusedSimpArgs false
set_option maxHeartbeats 0
set_option maxRecDepth 20000
namespace Go.Vi.CK
open Go.Proofs

theorem u64_ge (n : Int) : 0 ≤ IntKind.wrap .u64 n := by rw [IntKind.wrap_u64]; omega
theorem turnedI_take (x : Int) (ns : List Int) (i : Nat) (h : i < ns.length) : turnedI x (ns.take (i + 1)) = xorI .u32 (turnedI x (ns.take i)) (rotl x (IntKind.wrap .i64 (-(ns[i]?.getD 0)))) := by
  unfold turnedI
  rw [List.take_add_one, List.foldl_append]
  simp [h]
theorem c_first : Contract E 52 := by
  refine contract_seeT hE hgl (show E.P.funcs[52]? = some Tryd.f52 from Tryd.func52) rfl (p := sp_first) (fun _ _ _ => rfl) ?_
  intro args hv
  unfold sp_first at hv ⊢
  split at hv
  case h_2 => exact hv.elim
  refine ⟨by simp, by simp, ?_⟩
  simp (config := {dsimp := false}) only [↓vp0, vz, vn, nq, tys, cellD, wideIR, if_true, if_false, implies_true, forall_const, ne_eq, reduceIte, reduceCtorEq, Nat.reduceEqDiff, Nat.reduceAdd, Nat.reduceMul, Nat.reduceLT, Nat.reduceSub, Nat.reduceLeDiff, Nat.reduceBNe, Nat.reduceBEq, Nat.reduceBeqDiff, List.range, List.range.loop, gl0, Tryd.ntmps52, Tryd.results52, gives, u32s, h0]
theorem c_plus : Contract E 75 := by
  refine contract_seeT hE hgl (show E.P.funcs[75]? = some Tryd.f75 from Tryd.func75) rfl (p := sp_plus) (fun _ _ _ => rfl) ?_
  intro args hv
  unfold sp_plus at hv ⊢
  split at hv
  case h_2 => exact hv.elim
  refine ⟨by simp, Nat.le_of_ble_eq_true rfl, ?_⟩
  simp (config := {dsimp := false}) only [↓vp0, vz, vn, nq, tys, cellD, wideIR, if_true, if_false, implies_true, forall_const, ne_eq, reduceIte, reduceCtorEq, Nat.reduceEqDiff, Nat.reduceAdd, Nat.reduceMul, Nat.reduceLT, Nat.reduceSub, Nat.reduceLeDiff, Nat.reduceBNe, Nat.reduceBEq, Nat.reduceBeqDiff, List.range, List.range.loop, gl0, Tryd.ntmps75, Tryd.results75]
  rfl
theorem c_rotl : Contract E 89 := by
  refine contract_seeT hE hgl (show E.P.funcs[89]? = some Tryd.f89 from Tryd.func89) rfl (p := sp_rotl) (fun _ _ _ => rfl) ?_
  intro args hv
  unfold sp_rotl at hv ⊢
  split at hv
  case h_2 => exact hv.elim
  refine ⟨by simp, Nat.le_of_ble_eq_true rfl, ?_⟩
  simp (config := {dsimp := false}) only [↓vp0, vz, vn, nq, tys, cellD, wideIR, if_true, if_false, implies_true, forall_const, ne_eq, reduceIte, reduceCtorEq, Nat.reduceEqDiff, Nat.reduceAdd, Nat.reduceMul, Nat.reduceLT, Nat.reduceSub, Nat.reduceLeDiff, Nat.reduceBNe, Nat.reduceBEq, Nat.reduceBeqDiff, List.range, List.range.loop, gl0, Tryd.ntmps89, Tryd.results89]
  exact ⟨u64_ge _, u64_ge _, rfl⟩
theorem c_turned : Contract E 83 := by
  refine contract_seeT hE hgl (show E.P.funcs[83]? = some Tryd.f83 from Tryd.func83) rfl (p := sp_turned) (fun _ _ _ => rfl) ?_
  intro args hv
  unfold sp_turned at hv ⊢
  split at hv
  case h_2 => exact hv.elim
  rename_i x ns
  refine ⟨by simp, Nat.le_of_ble_eq_true rfl, ?_⟩
  simp (config := {dsimp := false}) only [↓vp0, vz, vn, nq, tys, cellD, wideIR, if_true, if_false, implies_true, forall_const, ne_eq, reduceIte, reduceCtorEq, Nat.reduceEqDiff, Nat.reduceAdd, Nat.reduceMul, Nat.reduceLT, Nat.reduceSub, Nat.reduceLeDiff, Nat.reduceBNe, Nat.reduceBEq, Nat.reduceBeqDiff, List.range, List.range.loop, gl0, Tryd.ntmps83, Tryd.results83]
  refine loopI (Fin (ns.length + 1)) (fun i => [(4, .int .u32 (turnedI x (ns.take i))), (0, .int .u32 x), (7, .sli .no .i64 ns), (8, .int .i64 ns.length), (9, .int .i64 (i : Nat))]) (fun _ => ⟨[], [], 16⟩) (fun i => ns.length - i) 0 (fun _ => rfl) ?_ ?_
  · simp [Wk, wkSl, wkD, wkBs, wkTs, look, D.under, underO, turnedI]
  intro i
  simp (config := {dsimp := false}) only [↓vp0, vz, vn, nq, tys, cellD, wideIR, if_true, if_false, implies_true, forall_const, ne_eq, reduceIte, reduceCtorEq, Nat.reduceEqDiff, Nat.reduceAdd, Nat.reduceMul, Nat.reduceLT, Nat.reduceSub, Nat.reduceLeDiff, Nat.reduceBNe, Nat.reduceBEq, Nat.reduceBeqDiff, List.range, List.range.loop, gl0, Tryd.ntmps83, Tryd.results83, PF.toR, gives, spec_rotl, sp_rotl, c_rotl, b_rotl]
  obtain ⟨i, hi⟩ := i
  simp only [givesIf] at hv
  refine ⟨fun h => ?_, fun h => ?_⟩
  · have h := of_decide_eq_true h
    simp only at h
    refine ⟨by simp, h, ⟨i + 1, by omega⟩, ?_, by simp only; omega⟩
    simp [Wk, wkSl, wkD, wkBs, wkTs, look, D.under, underO, turnedI_take x ns i (by omega), IntWalk.i64_in ((i : Int) + 1) (by omega)]
  · have h := of_decide_eq_false h
    simp only at h
    change D.int .u32 (turnedI x (ns.take i)) = D.int .u32 (turnedI x ns)
    rw [List.take_of_length_le (by omega)]
theorem c_round : Contract E 74 := by
  refine contract_seeT hE hgl (show E.P.funcs[74]? = some Tryd.f74 from Tryd.func74) rfl (p := sp_round) (fun _ _ _ => rfl) ?_
  intro args hv
  unfold sp_round at hv ⊢
  split at hv
  case h_2 => exact hv.elim
  refine ⟨by simp, Nat.le_of_ble_eq_true rfl, ?_⟩
  simp (config := {dsimp := false}) only [↓vp0, vz, vn, nq, tys, cellD, wideIR, if_true, if_false, implies_true, forall_const, ne_eq, reduceIte, reduceCtorEq, Nat.reduceEqDiff, Nat.reduceAdd, Nat.reduceMul, Nat.reduceLT, Nat.reduceSub, Nat.reduceLeDiff, Nat.reduceBNe, Nat.reduceBEq, Nat.reduceBeqDiff, List.range, List.range.loop, gl0, Tryd.ntmps74, Tryd.results74]
  refine drawI [2, 4, 1] (by kernel_rfl) ?_
  simp (config := {dsimp := false}) only [↓vp0, vz, vn, nq, tys, cellD, wideIR, if_true, if_false, implies_true, forall_const, ne_eq, reduceIte, reduceCtorEq, Nat.reduceEqDiff, Nat.reduceAdd, Nat.reduceMul, Nat.reduceLT, Nat.reduceSub, Nat.reduceLeDiff, Nat.reduceBNe, Nat.reduceBEq, Nat.reduceBeqDiff, List.range, List.range.loop, gl0, Tryd.ntmps74, Tryd.results74, PF.toR, givesIf, spec_turned, sp_turned, c_turned, b_turned]
  refine drawI [2, 4, 5] (by kernel_rfl) ?_
  simp (config := {dsimp := false}) only [↓vp0, vz, vn, nq, tys, cellD, wideIR, if_true, if_false, implies_true, forall_const, ne_eq, reduceIte, reduceCtorEq, Nat.reduceEqDiff, Nat.reduceAdd, Nat.reduceMul, Nat.reduceLT, Nat.reduceSub, Nat.reduceLeDiff, Nat.reduceBNe, Nat.reduceBEq, Nat.reduceBeqDiff, List.range, List.range.loop, gl0, Tryd.ntmps74, Tryd.results74, PF.toR, givesIf, spec_turned, sp_turned, c_turned, b_turned]
  rfl
theorem be_take (n : Int) (i : Nat) (h : i < 8) : (beBytes n).take (i + 1) = (beBytes n).take i ++ [IntKind.wrap .u8 (shrI .u64 (shlI .u64 (IntKind.wrap .u64 n) 3) (56 - 8 * (i : Int)))] := by
  match i, h with
  | 0, _ => rfl
  | 1, _ => rfl
  | 2, _ => rfl
  | 3, _ => rfl
  | 4, _ => rfl
  | 5, _ => rfl
  | 6, _ => rfl
  | 7, _ => rfl
theorem c_closing : Contract E 59 := by
  refine contract_seeT hE hgl (show E.P.funcs[59]? = some Tryd.f59 from Tryd.func59) rfl (p := sp_closing) (fun _ _ _ => rfl) ?_
  intro args hv
  unfold sp_closing at hv ⊢
  split at hv
  case h_2 => exact hv.elim
  rename_i n
  refine ⟨by simp, Nat.le_of_ble_eq_true rfl, ?_⟩
  simp (config := {dsimp := false}) only [↓vp0, vz, vn, nq, tys, cellD, wideIR, if_true, if_false, implies_true, forall_const, ne_eq, reduceIte, reduceCtorEq, Nat.reduceEqDiff, Nat.reduceAdd, Nat.reduceMul, Nat.reduceLT, Nat.reduceSub, Nat.reduceLeDiff, Nat.reduceBNe, Nat.reduceBEq, Nat.reduceBeqDiff, List.range, List.range.loop, gl0, Tryd.ntmps59, Tryd.results59]
  simp only [givesIf] at hv
  have hm : n.tmod 64 = n % 64 := Int.tmod_eq_emod_of_nonneg hv.1
  have hp : (IntKind.wrap .i64 (119 - n.tmod 64)).tmod 64 = (119 - n % 64) % 64 := by
    rw [hm, IntWalk.i64_in _ (by omega), Int.tmod_eq_emod_of_nonneg (by omega)]
  have hpad : ((IntKind.wrap .i64 (119 - n.tmod 64)).tmod 64).toNat = pad n := by rw [hp]; rfl
  have hp0 : 0 ≤ (IntKind.wrap .i64 (119 - n.tmod 64)).tmod 64 := by rw [hp]; omega
  have hp1 : pad n < 64 := by unfold pad; omega
  rw [hpad]
  refine ⟨by decide, by decide, by simp; omega, fun kk m e => by cases e; exact hp0, ?_⟩
  refine loopI (Fin 9) (fun i => [(5, .int .i64 (56 - 8 * (i.1 : Int))), (4, .sli (.tok 32) .u8 (128 :: List.replicate (pad n) 0 ++ (beBytes n).take i.1)), (0, .int .i64 n)]) (fun i => ⟨[], [(32, (1 + pad n + i.1, 1))], 44⟩) (fun i => 8 - i.1) 0 (fun _ => rfl) ?_ ?_
  · simp [Wk, wkSl, wkD, wkBs, wkTs, look, D.under, underO, S.tok]
  rintro ⟨i, hi⟩
  simp (config := {dsimp := false}) only [↓vp0, vz, vn, nq, tys, cellD, wideIR, if_true, if_false, implies_true, forall_const, ne_eq, reduceIte, reduceCtorEq, Nat.reduceEqDiff, Nat.reduceAdd, Nat.reduceMul, Nat.reduceLT, Nat.reduceSub, Nat.reduceLeDiff, Nat.reduceBNe, Nat.reduceBEq, Nat.reduceBeqDiff, List.range, List.range.loop, gl0, Tryd.ntmps59, Tryd.results59]
  have hbl : (beBytes n).length = 8 := rfl
  refine ⟨fun h => ?_, fun h => ?_⟩
  · have h := of_decide_eq_true h
    have hi8 : i < 8 := by omega
    have hlen : (List.replicate (pad n) (0 : Int) ++ (beBytes n).take i).length = pad n + i := by simp; omega
    refine ⟨by decide, h, by rw [hlen]; simp; omega, by rw [hlen]; omega, ⟨i + 1, by omega⟩, ?_, by simp only; omega⟩
    have e1 : IntKind.wrap .i64 (56 - 8 * (i : Int) - 8) = 56 - 8 * ((i : Int) + 1) := by rw [IntWalk.i64_in _ (by omega)]; omega
    simp [Wk, wkSl, wkD, wkBs, wkTs, look, D.under, underO, S.tok, e1, be_take n i hi8]
    omega
  · have h := of_decide_eq_false h
    obtain rfl : i = 8 := by omega
    rfl
end Go.Vi.CK
end

section
set_option linter.unusedVariables false
set_option linter.unusedSimpArgs false
set_option maxHeartbeats 0
set_option maxRecDepth 20000
namespace Go.Vi.CK
open Go.Proofs

theorem c_numbers : Contract E 73 := by
  refine contract_boxT hE hgl (show E.P.funcs[73]? = some Tryd.f73 from Tryd.func73) rfl (p := (sp_numbers 82)) (fun _ _ _ => rfl) ?_
  intro args ds tv hv hdl htl
  unfold sp_numbers at hv ⊢
  split at hv
  case h_2 => exact hv.elim
  rename_i b
  refine ⟨by simp, Nat.le_of_ble_eq_true rfl, ?_⟩
  simp (config := {dsimp := false}) only [↓vp0, vz, vn, nq, tys, cellD, wideIR, if_true, if_false, implies_true, forall_const, ne_eq, reduceIte, reduceCtorEq, Nat.reduceEqDiff, Nat.reduceAdd, Nat.reduceMul, Nat.reduceLT, Nat.reduceSub, Nat.reduceLeDiff, Nat.reduceBNe, Nat.reduceBEq, Nat.reduceBeqDiff, List.range, List.range.loop, gl0, Tryd.ntmps73, Tryd.results73, retB, vb]
  exact ⟨[20, 8, 16], [], [], ⟨rfl, rfl⟩, ⟨rfl, rfl⟩, ⟨by decide, by decide⟩, by simp, rfl, rfl, ⟨_, rfl, rfl⟩, ⟨_, rfl, rfl⟩, id rfl⟩
theorem c_next : Contract E 82 := by
  refine contract_boxT hE hgl (show E.P.funcs[82]? = some Tryd.f82 from Tryd.func82) rfl (p := sp_next) (fun _ _ _ => rfl) ?_
  intro args ds tv hv hdl htl
  unfold sp_next at hv ⊢
  split at hv
  case h_2 => exact hv.elim
  rename_i n b ws
  refine ⟨by simp, Nat.le_of_ble_eq_true rfl, ?_⟩
  simp (config := {dsimp := false}) only [↓vp0, vz, vn, nq, tys, cellD, wideIR, if_true, if_false, implies_true, forall_const, ne_eq, reduceIte, reduceCtorEq, Nat.reduceEqDiff, Nat.reduceAdd, Nat.reduceMul, Nat.reduceLT, Nat.reduceSub, Nat.reduceLeDiff, Nat.reduceBNe, Nat.reduceBEq, Nat.reduceBeqDiff, List.range, List.range.loop, gl0, Tryd.ntmps82, Tryd.results82, retB, vb]
  obtain ⟨⟨h0, h64⟩, hb, hw⟩ := hv
  refine ⟨fun h => ?_, fun h => ?_⟩
  · have h := of_decide_eq_true h
    have e4 : IntKind.wrap .i64 (4 * n) = 4 * n := IntWalk.i64_in _ (by omega)
    have ht : List.take (b.length : Int).toNat b = b := List.take_of_length_le (by omega)
    rw [e4, ht]
    refine ⟨by omega, by omega, Int.le_refl _, ?_⟩
    refine drawI [4, 0, 1, 2] (by kernel_rfl) ?_
    simp (config := {dsimp := false}) only [↓vp0, vz, vn, nq, tys, cellD, wideIR, if_true, if_false, implies_true, forall_const, ne_eq, reduceIte, reduceCtorEq, Nat.reduceEqDiff, Nat.reduceAdd, Nat.reduceMul, Nat.reduceLT, Nat.reduceSub, Nat.reduceLeDiff, Nat.reduceBNe, Nat.reduceBEq, Nat.reduceBeqDiff, List.range, List.range.loop, gl0, Tryd.ntmps82, Tryd.results82, retB, vb]
    have hd : ∀ j, (List.drop (4 * n).toNat b).getD j 0 = b.getD (4 * n.toNat + j) 0 := by
      intro j
      rw [show (4 * n).toNat = 4 * n.toNat by omega]
      simp [List.getD]
    have hdl2 : ((List.drop (4 * n).toNat b).length : Int) ≥ 4 := by simp; omega
    have e1 : IntKind.wrap .i64 (n + 1) = n + 1 := IntWalk.i64_in _ (by omega)
    have e2 : IntKind.wrap .i64 (n + 1 - 1) = n := by rw [IntWalk.i64_in _ (by omega)]; omega
    have hgs : ∀ x, (ws.set n.toNat x).getD n.toNat 0 = x := by intro x; simp [List.getD, List.getElem?_set_self (show n.toNat < ws.length by omega)]
    have hn16 : n.toNat < 16 := by omega
    have hnx : nextP b ws n.toNat = wordP b n.toNat := if_pos hn16
    simp only [hd, e1, e2, hgs, hnx, show Int.toNat 3 = 3 from rfl, show Int.toNat 2 = 2 from rfl, show Int.toNat 1 = 1 from rfl, show Int.toNat 0 = 0 from rfl, Nat.add_zero]
    refine ⟨by decide, by omega, by decide, by omega, by decide, by decide, by omega, by decide, by decide, by omega, by decide, by omega, by omega, by kernel_rfl, by omega, by omega, ?_⟩
    exact ⟨[], [], [], ⟨rfl, rfl⟩, ⟨rfl, rfl⟩, ⟨by simp, by simp⟩, by simp, rfl, rfl, ⟨_, rfl, rfl⟩, ⟨_, rfl, rfl⟩, id rfl⟩
  · have h := of_decide_eq_false h
    refine drawI [0, 1, 2] (by kernel_rfl) ?_
    simp (config := {dsimp := false}) only [↓vp0, vz, vn, nq, tys, cellD, wideIR, if_true, if_false, implies_true, forall_const, ne_eq, reduceIte, reduceCtorEq, Nat.reduceEqDiff, Nat.reduceAdd, Nat.reduceMul, Nat.reduceLT, Nat.reduceSub, Nat.reduceLeDiff, Nat.reduceBNe, Nat.reduceBEq, Nat.reduceBeqDiff, List.range, List.range.loop, gl0, Tryd.ntmps82, Tryd.results82, retB, vb]
    have e1 : IntKind.wrap .i64 (n + 1) = n + 1 := IntWalk.i64_in _ (by omega)
    have e2 : IntKind.wrap .i64 (n + 1 - 1) = n := by rw [IntWalk.i64_in _ (by omega)]; omega
    have e15 : IntKind.wrap .i64 (n - 15) = n - 15 := IntWalk.i64_in _ (by omega)
    have e3 : IntKind.wrap .i64 (n - 2) = n - 2 := IntWalk.i64_in _ (by omega)
    have e16 : IntKind.wrap .i64 (n - 16) = n - 16 := IntWalk.i64_in _ (by omega)
    have e7 : IntKind.wrap .i64 (n - 7) = n - 7 := IntWalk.i64_in _ (by omega)
    rw [e15, e3]
    refine ⟨by omega, by omega, by omega, by omega, ?_⟩
    refine drawI [0, 1, 2, 5, 6] (by kernel_rfl) ?_
    simp (config := {dsimp := false}) only [↓vp0, vz, vn, nq, tys, cellD, wideIR, if_true, if_false, implies_true, forall_const, ne_eq, reduceIte, reduceCtorEq, Nat.reduceEqDiff, Nat.reduceAdd, Nat.reduceMul, Nat.reduceLT, Nat.reduceSub, Nat.reduceLeDiff, Nat.reduceBNe, Nat.reduceBEq, Nat.reduceBeqDiff, List.range, List.range.loop, gl0, Tryd.ntmps82, Tryd.results82, retB, vb, PF.toR, gives, givesIf, e16, e7, spec_turned, sp_turned, c_turned, b_turned]
    have hgs : ∀ x, (ws.set n.toNat x).getD n.toNat 0 = x := by intro x; simp [List.getD, List.getElem?_set_self (show n.toNat < ws.length by omega)]
    have n15 : (n - 15).toNat = n.toNat - 15 := by omega
    have n2 : (n - 2).toNat = n.toNat - 2 := by omega
    have n16 : (n - 16).toNat = n.toNat - 16 := by omega
    have n7 : (n - 7).toNat = n.toNat - 7 := by omega
    have nn : ¬ n.toNat < 16 := by omega
    have hnx : nextP b ws n.toNat = _ := if_neg nn
    simp only [e1, e2, hgs, hnx, n15, n2, n16, n7]
    refine ⟨by omega, by omega, by decide, by omega, by omega, by decide, by omega, by omega, by kernel_rfl, by omega, by omega, ?_⟩
    exact ⟨[], [], [], ⟨rfl, rfl⟩, ⟨rfl, rfl⟩, ⟨by simp, by simp⟩, by simp, rfl, rfl, ⟨_, rfl, rfl⟩, ⟨_, rfl, rfl⟩, id rfl⟩
end Go.Vi.CK
end
