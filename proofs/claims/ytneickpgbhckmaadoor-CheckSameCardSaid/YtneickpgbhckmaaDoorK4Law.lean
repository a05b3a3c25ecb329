/- Two blocks of equally many transactions that pass, with the same Root, have the same names, or there is a clash. -/
import Derived.Test.YtneickpgbhckmaaDoorK46

section
set_option linter.unusedVariables false
set_option linter.unusedSimpArgs false
namespace Go.Proofs.YtneickpgbhckmaaDoor
open Go.ChangeShapes Go.WideShapes Go.RowKit Go.Vi Go.Vi.CD

section
variable {H : Type} {enc : TypeId × Value → H} {W : World} {base : Nat}
theorem rd22 : Reads enc Tryd.prog W base 22 rU32 := reads_int Tryd.underlying22
theorem rd32 : Reads enc Tryd.prog W base 32 rH := reads_arr Tryd.underlying32 Tryd.underlying5 (by kernel_rfl) (by kernel_rfl)
theorem rd34 : Reads enc Tryd.prog W base 34 (rAg [rU32, rH, rH, rU32, rU32, rU32]) := reads_struct (tot := 68) Tryd.underlying34 (by kernel_rfl) (And.intro (by kernel_rfl) (And.intro (by kernel_rfl) (And.intro (by kernel_rfl) (And.intro (by kernel_rfl) (And.intro (by kernel_rfl) (And.intro (by kernel_rfl) (lay_nil (by kernel_rfl)))))))) (And.intro rd22 (And.intro rd32 (And.intro rd32 (And.intro rd22 (And.intro rd22 (And.intro rd22 (trivial)))))))
theorem rd48 : Reads enc Tryd.prog W base 48 (rAg [rH, rU32]) := reads_struct (tot := 33) Tryd.underlying48 (by kernel_rfl) (And.intro (by kernel_rfl) (And.intro (by kernel_rfl) (lay_nil (by kernel_rfl)))) (And.intro rd32 (And.intro rd22 (trivial)))
theorem rd49 : Reads enc Tryd.prog W base 49 rScr := reads_ints Tryd.underlying49 Tryd.underlying5 (by kernel_rfl)
theorem rd50 : Reads enc Tryd.prog W base 50 (rSl 1 rScr) := reads_slice Tryd.underlying50 (by kernel_rfl) rd49
theorem rdx52 : Reads enc Tryd.prog W base 52 (rAg [(rAg [rH, rU32]), rScr, rU32, (rSl 1 rScr)]) := reads_struct (tot := 36) Tryd.underlying52 (by kernel_rfl) (And.intro (by kernel_rfl) (And.intro (by kernel_rfl) (And.intro (by kernel_rfl) (And.intro (by kernel_rfl) (lay_nil (by kernel_rfl)))))) (And.intro rd48 (And.intro rd49 (And.intro rd22 (And.intro rd50 (trivial)))))
theorem rd52 : Reads enc Tryd.prog W base 52 rIn := Reads.mono (R := rAg [(rAg [rH, rU32]), rScr, rU32, (rSl 1 rScr)]) (reads_struct (tot := 36) Tryd.underlying52 (by kernel_rfl) (And.intro (by kernel_rfl) (And.intro (by kernel_rfl) (And.intro (by kernel_rfl) (And.intro (by kernel_rfl) (lay_nil (by kernel_rfl)))))) (And.intro rd48 (And.intro rd49 (And.intro rd22 (And.intro rd50 (trivial)))))) raw_in
theorem rd23 : Reads enc Tryd.prog W base 23 (rSl 36 rIn) := reads_slice Tryd.underlying23 (by kernel_rfl) rd52
theorem rd2 : Reads enc Tryd.prog W base 2 rI64 := reads_int Tryd.underlying2
theorem rdx59 : Reads enc Tryd.prog W base 59 (rAg [rI64, rScr]) := reads_struct (tot := 2) Tryd.underlying59 (by kernel_rfl) (And.intro (by kernel_rfl) (And.intro (by kernel_rfl) (lay_nil (by kernel_rfl)))) (And.intro rd2 (And.intro rd49 (trivial)))
theorem rd59 : Reads enc Tryd.prog W base 59 rOut := Reads.mono (R := rAg [rI64, rScr]) (reads_struct (tot := 2) Tryd.underlying59 (by kernel_rfl) (And.intro (by kernel_rfl) (And.intro (by kernel_rfl) (lay_nil (by kernel_rfl)))) (And.intro rd2 (And.intro rd49 (trivial)))) raw_out
theorem rd24 : Reads enc Tryd.prog W base 24 (rSl 2 rOut) := reads_slice Tryd.underlying24 (by kernel_rfl) rd59
theorem rdx26 : Reads enc Tryd.prog W base 26 (rAg [rU32, (rSl 36 rIn), (rSl 2 rOut), rU32]) := reads_struct (tot := 4) Tryd.underlying26 (by kernel_rfl) (And.intro (by kernel_rfl) (And.intro (by kernel_rfl) (And.intro (by kernel_rfl) (And.intro (by kernel_rfl) (lay_nil (by kernel_rfl)))))) (And.intro rd22 (And.intro rd23 (And.intro rd24 (And.intro rd22 (trivial)))))
theorem rd26 : Reads enc Tryd.prog W base 26 rTx := Reads.mono (R := rAg [rU32, (rSl 36 rIn), (rSl 2 rOut), rU32]) (reads_struct (tot := 4) Tryd.underlying26 (by kernel_rfl) (And.intro (by kernel_rfl) (And.intro (by kernel_rfl) (And.intro (by kernel_rfl) (And.intro (by kernel_rfl) (lay_nil (by kernel_rfl)))))) (And.intro rd22 (And.intro rd23 (And.intro rd24 (And.intro rd22 (trivial)))))) raw_tx
theorem rd35 : Reads enc Tryd.prog W base 35 (rSl 4 rTx) := reads_slice Tryd.underlying35 (by kernel_rfl) rd26
theorem rd37 : Reads enc Tryd.prog W base 37 (rAg [(rAg [rU32, rH, rH, rU32, rU32, rU32]), (rSl 4 rTx)]) := reads_struct (tot := 69) Tryd.underlying37 (by kernel_rfl) (And.intro (by kernel_rfl) (And.intro (by kernel_rfl) (lay_nil (by kernel_rfl)))) (And.intro rd34 (And.intro rd35 (trivial)))
end

set_option maxRecDepth 100000 in
theorem checkSame_lifted (os : Os) (started : os.Started) (H : Type) (enc : TypeId × Value → H) :
    ReturnsInHanded {} Tryd.checked os 7 .any (fun w args => (Rows.checkSameSpec.pre enc Tryd.prog Tryd.f7 Rows.checkSameRow.domain false w args ∧ laidMetH Tryd.prog Rows.checkSameRow.laid w) ∧ sizedMet enc Tryd.prog Tryd.f7 (OpenSpec.ofChange Rows.checkSameSpec) false w args)
      (Rows.checkSameSpec.post enc Tryd.prog Tryd.f7 false true false false) := by
  refine returnsInHanded_of_change_and (C := Tryd.checked) (X := fun w _ => laidMetH Tryd.prog Rows.checkSameRow.laid w) (fun _ _ _ hh h => h.of_heap hh) Tryd.own started (by kernel_rfl) Tryd.func7
    (ChangeSpec.witness_shaped (enc := enc) (C := Tryd.checked) (os := os) (X := fun w _ => laidMetH Tryd.prog Rows.checkSameRow.laid w) false (World.laidAll Tryd.prog os Rows.checkSameRow.laid) #[.agg #[.int .u32 0, .int .u8 0, .int .u8 0, .int .u8 0, .int .u8 0, .int .u8 0, .int .u8 0, .int .u8 0, .int .u8 0, .int .u8 0, .int .u8 0, .int .u8 0, .int .u8 0, .int .u8 0, .int .u8 0, .int .u8 0, .int .u8 0, .int .u8 0, .int .u8 0, .int .u8 0, .int .u8 0, .int .u8 0, .int .u8 0, .int .u8 0, .int .u8 0, .int .u8 0, .int .u8 0, .int .u8 0, .int .u8 0, .int .u8 0, .int .u8 0, .int .u8 0, .int .u8 0, .int .u8 0, .int .u8 0, .int .u8 0, .int .u8 0, .int .u8 0, .int .u8 0, .int .u8 0, .int .u8 0, .int .u8 0, .int .u8 0, .int .u8 0, .int .u8 0, .int .u8 0, .int .u8 0, .int .u8 0, .int .u8 0, .int .u8 0, .int .u8 0, .int .u8 0, .int .u8 0, .int .u8 0, .int .u8 0, .int .u8 0, .int .u8 0, .int .u8 0, .int .u8 0, .int .u8 0, .int .u8 0, .int .u8 0, .int .u8 0, .int .u8 0, .int .u8 0, .int .u32 0, .int .u32 0, .int .u32 0, .slice none 0 0], .agg #[.int .u32 0, .int .u8 0, .int .u8 0, .int .u8 0, .int .u8 0, .int .u8 0, .int .u8 0, .int .u8 0, .int .u8 0, .int .u8 0, .int .u8 0, .int .u8 0, .int .u8 0, .int .u8 0, .int .u8 0, .int .u8 0, .int .u8 0, .int .u8 0, .int .u8 0, .int .u8 0, .int .u8 0, .int .u8 0, .int .u8 0, .int .u8 0, .int .u8 0, .int .u8 0, .int .u8 0, .int .u8 0, .int .u8 0, .int .u8 0, .int .u8 0, .int .u8 0, .int .u8 0, .int .u8 0, .int .u8 0, .int .u8 0, .int .u8 0, .int .u8 0, .int .u8 0, .int .u8 0, .int .u8 0, .int .u8 0, .int .u8 0, .int .u8 0, .int .u8 0, .int .u8 0, .int .u8 0, .int .u8 0, .int .u8 0, .int .u8 0, .int .u8 0, .int .u8 0, .int .u8 0, .int .u8 0, .int .u8 0, .int .u8 0, .int .u8 0, .int .u8 0, .int .u8 0, .int .u8 0, .int .u8 0, .int .u8 0, .int .u8 0, .int .u8 0, .int .u8 0, .int .u32 0, .int .u32 0, .int .u32 0, .slice none 0 0]] 8 (World.laidAll_os _ _ _)
      (World.shaped_of_ZipB (by kernel_rfl) (by kernel_rfl)) (by kernel_rfl) (by kernel_rfl) (by kernel_rfl)
      (by rw [MakeChecks.laidMetH_plain _ _ _ (by kernel_rfl)]; exact laidMet_laidAll _ (by kernel_rfl) (by kernel_rfl))) ?_
  intro W base args ds gs before hval0 hW hc _ hL _
  have hval : ∀ (j : Nat) t v, Tryd.f7.params[j]? = some t → args[j]? = some v → Value.okWide Tryd.prog W .any base t v := hval0
  have hW' := hW
  obtain ⟨p, q, hA0, hV, rfl, _, _⟩ := hW
  have hA : DataW.TrodAll enc Tryd.prog W 0 (fun _ => true) true Tryd.f7.params.toList args.toList ds p := hA0
  rw [Tryd.params7] at hA hval
  obtain ⟨v0, v1, d0, d1, p0, p1, rfl, rfl, rfl, h0, h1⟩ := trodAll_two hA
  obtain ⟨rfl, rfl⟩ := trodVars_none hV
  obtain ⟨ds0, r0, al0⟩ := rep_struct Tryd.underlying37 rd37 (hval 0 37 v0 rfl rfl) h0
  obtain ⟨ha0, hp0, hr0, hb0, hc0, hd0, l0, rfl, hh0, tw0⟩ := raw_block al0
  obtain ⟨ds1, r1, al1⟩ := rep_struct Tryd.underlying37 rd37 (hval 1 37 v1 rfl rfl) h1
  obtain ⟨ha1, hp1, hr1, hb1, hc1, hd1, l1, rfl, hh1, tw1⟩ := raw_block al1
  refine (law_calls c_lawCheckSame (args := [.agg [.agg [.int .u32 ha0, .arr .u8 32 hp0, .arr .u8 32 hr0, .int .u32 hb0, .int .u32 hc0, .int .u32 hd0], .sl .no 4 (txsD l0)], .agg [.agg [.int .u32 ha1, .arr .u8 32 hp1, .arr .u8 32 hr1, .int .u32 hb1, .int .u32 hc1, .int .u32 hd1], .sl .no 4 (txsD l1)]]) ?_ ?_ (globs_of_laid hL) ⟨_, _, rfl, r0, ⟨_, _, rfl, r1, rfl⟩⟩).mono fun e W' ⟨he, hb⟩ => ?_
  · simp (config := {dsimp := false}) only [vz, vn, nq, if_true, if_false, reduceIte, spec_lawCheckSame, sp_lawCheckSame, givesIf, PF.toR, txD]
    exact ⟨hh0, hh1, tw0, tw1⟩
  · simp (config := {dsimp := false}) only [vz, vn, nq, if_true, if_false, reduceIte, spec_lawCheckSame, sp_lawCheckSame, givesIf, PF.toR, txD]
  · subst he
    exact ⟨_, rfl, law_post (tb := 4) hW' rfl Tryd.laidOut (by rw [Tryd.params7]; kernel_rfl) (by kernel_rfl) Tryd.underlying4 rfl hb⟩

theorem checkSame_holds : Rows.CheckSameSaid :=
  OpenClaim.holds_of_wide 7 Tryd.f7 rfl rfl rfl rfl rfl rfl rfl ⟨rfl, rfl, rfl, rfl, rfl⟩ rfl rfl rfl rfl rfl (by kernel_rfl) Tryd.func7 (by kernel_rfl)
    (of_decide_eq_true (by kernel_rfl)) (by unfold Func.isWrapper; rw [if_neg (by decide +kernel)]; exact ⟨rfl, rfl⟩)
    (fun os started H enc _ => checkSame_lifted os started H enc)

theorem checkSame_card : Rows.CheckSameCardSaid :=
  Claim7.holds_tied_plain_at .later [] [.data] true (true, "e26440d463e2120dd3966de49fc51e64118e56e448ed5195040b38ecae2096f7") false checkSame_holds (fun _ h => by cases h) (by kernel_rfl) (fun _ h => by cases h) checkSame_row_tie rfl ⟨rfl, rfl⟩ (by kernel_rfl) rfl
    (fun f fn hf hfn => by
      obtain rfl : f = 7 := Option.some.inj ((show Tryd.prog.funcNamed Rows.checkSameRow.func = some 7 by kernel_rfl).symm.trans hf) |>.symm
      obtain rfl : fn = Tryd.f7 := (Option.some.inj (Tryd.func7.symm.trans hfn)).symm
      exact ⟨by kernel_rfl, fun j t ht => by
        have hm : t ∈ Tryd.f7.params.toList := by simpa using Array.mem_of_getElem? ht
        have hall : (Tryd.f7.params.toList.all fun u => !Tryd.prog.wantsStandIn u) = true := by kernel_rfl
        exact (show Tryd.prog.wantsStandIn t = false by simpa using List.all_eq_true.1 hall t hm)⟩)
    (by kernel_rfl)
#print axioms checkSame_card
end Go.Proofs.YtneickpgbhckmaaDoor
end
