/- Whether a block holds to the rules, and which one it does not hold to first, is as the document says. -/
import Derived.Test.YtneickpgbhckmaaGreatDoorK56

section
set_option linter.unusedVariables false
set_option linter.unusedSimpArgs false
namespace Go.Proofs.YtneickpgbhckmaaGreatDoor
open Go.ChangeShapes Go.WideShapes Go.RowKit Go.Vi Go.Vi.CZ

section
variable {H : Type} {enc : TypeId × Value → H} {W : World} {base : Nat}
theorem rd22 : Reads enc Tryz.prog W base 22 rU32 := reads_int Tryz.underlying22
theorem rd24 : Reads enc Tryz.prog W base 24 rH := reads_arr Tryz.underlying24 Tryz.underlying5 (by kernel_rfl) (by kernel_rfl)
theorem rd26 : Reads enc Tryz.prog W base 26 (rAg [rU32, rH, rH, rU32, rU32, rU32]) := reads_struct (tot := 68) Tryz.underlying26 (by kernel_rfl) (And.intro (by kernel_rfl) (And.intro (by kernel_rfl) (And.intro (by kernel_rfl) (And.intro (by kernel_rfl) (And.intro (by kernel_rfl) (And.intro (by kernel_rfl) (lay_nil (by kernel_rfl)))))))) (And.intro rd22 (And.intro rd24 (And.intro rd24 (And.intro rd22 (And.intro rd22 (And.intro rd22 (trivial)))))))
theorem rd40 : Reads enc Tryz.prog W base 40 (rAg [rH, rU32]) := reads_struct (tot := 33) Tryz.underlying40 (by kernel_rfl) (And.intro (by kernel_rfl) (And.intro (by kernel_rfl) (lay_nil (by kernel_rfl)))) (And.intro rd24 (And.intro rd22 (trivial)))
theorem rd41 : Reads enc Tryz.prog W base 41 rScr := reads_ints Tryz.underlying41 Tryz.underlying5 (by kernel_rfl)
theorem rd42 : Reads enc Tryz.prog W base 42 (rSl 1 rScr) := reads_slice Tryz.underlying42 (by kernel_rfl) rd41
theorem rd44 : Reads enc Tryz.prog W base 44 rIn := Reads.mono (R := rAg [(rAg [rH, rU32]), rScr, rU32, (rSl 1 rScr)]) (reads_struct (tot := 36) Tryz.underlying44 (by kernel_rfl) (And.intro (by kernel_rfl) (And.intro (by kernel_rfl) (And.intro (by kernel_rfl) (And.intro (by kernel_rfl) (lay_nil (by kernel_rfl)))))) (And.intro rd40 (And.intro rd41 (And.intro rd22 (And.intro rd42 (trivial)))))) raw_in
theorem rd35 : Reads enc Tryz.prog W base 35 (rSl 36 rIn) := reads_slice Tryz.underlying35 (by kernel_rfl) rd44
theorem rd2 : Reads enc Tryz.prog W base 2 rI64 := reads_int Tryz.underlying2
theorem rd46 : Reads enc Tryz.prog W base 46 rOut := Reads.mono (R := rAg [rI64, rScr]) (reads_struct (tot := 2) Tryz.underlying46 (by kernel_rfl) (And.intro (by kernel_rfl) (And.intro (by kernel_rfl) (lay_nil (by kernel_rfl)))) (And.intro rd2 (And.intro rd41 (trivial)))) raw_out
theorem rd36 : Reads enc Tryz.prog W base 36 (rSl 2 rOut) := reads_slice Tryz.underlying36 (by kernel_rfl) rd46
theorem rd38 : Reads enc Tryz.prog W base 38 rTx := Reads.mono (R := rAg [rU32, (rSl 36 rIn), (rSl 2 rOut), rU32]) (reads_struct (tot := 4) Tryz.underlying38 (by kernel_rfl) (And.intro (by kernel_rfl) (And.intro (by kernel_rfl) (And.intro (by kernel_rfl) (And.intro (by kernel_rfl) (lay_nil (by kernel_rfl)))))) (And.intro rd22 (And.intro rd35 (And.intro rd36 (And.intro rd22 (trivial)))))) raw_tx
theorem rd27 : Reads enc Tryz.prog W base 27 (rSl 4 rTx) := reads_slice Tryz.underlying27 (by kernel_rfl) rd38
theorem rd29 : Reads enc Tryz.prog W base 29 (rAg [(rAg [rU32, rH, rH, rU32, rU32, rU32]), (rSl 4 rTx)]) := reads_struct (tot := 69) Tryz.underlying29 (by kernel_rfl) (And.intro (by kernel_rfl) (And.intro (by kernel_rfl) (lay_nil (by kernel_rfl)))) (And.intro rd26 (And.intro rd27 (trivial)))
end

set_option maxRecDepth 100000 in
theorem checkBlocks_lifted (os : Os) (started : os.Started) (H : Type) (enc : TypeId × Value → H) :
    ReturnsInHanded {} Tryz.checked os 3 .any (fun w args => (Rows.checkBlocksSpec.pre enc Tryz.prog Tryz.f3 Rows.checkBlocksRow.domain false w args ∧ laidMetH Tryz.prog Rows.checkBlocksRow.laid w) ∧ sizedMet enc Tryz.prog Tryz.f3 (OpenSpec.ofChange Rows.checkBlocksSpec) false w args)
      (Rows.checkBlocksSpec.post enc Tryz.prog Tryz.f3 false true false false) := by
  refine returnsInHanded_of_change_and (C := Tryz.checked) (X := fun w _ => laidMetH Tryz.prog Rows.checkBlocksRow.laid w) (fun _ _ _ hh h => h.of_heap hh) Tryz.own started (by kernel_rfl) Tryz.func3
    (ChangeSpec.witness_shaped (enc := enc) (C := Tryz.checked) (os := os) (X := fun w _ => laidMetH Tryz.prog Rows.checkBlocksRow.laid w) false (World.laidAll Tryz.prog os Rows.checkBlocksRow.laid) #[.agg #[.int .u32 0, .int .u8 0, .int .u8 0, .int .u8 0, .int .u8 0, .int .u8 0, .int .u8 0, .int .u8 0, .int .u8 0, .int .u8 0, .int .u8 0, .int .u8 0, .int .u8 0, .int .u8 0, .int .u8 0, .int .u8 0, .int .u8 0, .int .u8 0, .int .u8 0, .int .u8 0, .int .u8 0, .int .u8 0, .int .u8 0, .int .u8 0, .int .u8 0, .int .u8 0, .int .u8 0, .int .u8 0, .int .u8 0, .int .u8 0, .int .u8 0, .int .u8 0, .int .u8 0, .int .u8 0, .int .u8 0, .int .u8 0, .int .u8 0, .int .u8 0, .int .u8 0, .int .u8 0, .int .u8 0, .int .u8 0, .int .u8 0, .int .u8 0, .int .u8 0, .int .u8 0, .int .u8 0, .int .u8 0, .int .u8 0, .int .u8 0, .int .u8 0, .int .u8 0, .int .u8 0, .int .u8 0, .int .u8 0, .int .u8 0, .int .u8 0, .int .u8 0, .int .u8 0, .int .u8 0, .int .u8 0, .int .u8 0, .int .u8 0, .int .u8 0, .int .u8 0, .int .u32 0, .int .u32 0, .int .u32 0, .slice none 0 0]] 8 (World.laidAll_os _ _ _)
      (World.shaped_of_ZipB (by kernel_rfl) (by kernel_rfl)) (by kernel_rfl) (by kernel_rfl) (by kernel_rfl)
      (by rw [MakeChecks.laidMetH_plain _ _ _ (by kernel_rfl)]; exact laidMet_laidAll _ (by kernel_rfl) (by kernel_rfl))) ?_
  intro W base args ds gs before hval0 hW hc _ hL _
  have hval : ∀ (j : Nat) t v, Tryz.f3.params[j]? = some t → args[j]? = some v → Value.okWide Tryz.prog W .any base t v := hval0
  have hW' := hW
  obtain ⟨p, q, hA0, hV, rfl, _, _⟩ := hW
  have hA : DataW.TrodAll enc Tryz.prog W 0 (fun _ => true) true Tryz.f3.params.toList args.toList ds p := hA0
  rw [Tryz.params3] at hA hval
  obtain ⟨v0, d0, rfl, rfl, h0⟩ := trodAll_one hA
  obtain ⟨rfl, rfl⟩ := trodVars_none hV
  obtain ⟨ds0, r0, al0⟩ := rep_struct Tryz.underlying29 rd29 (hval 0 29 v0 rfl rfl) h0
  obtain ⟨ha0, hp0, hr0, hb0, hc0, hd0, l0, rfl, hh0, tw0⟩ := raw_block al0
  refine (law_calls c_lawCheckBlocks (args := [.agg [.agg [.int .u32 ha0, .arr .u8 32 hp0, .arr .u8 32 hr0, .int .u32 hb0, .int .u32 hc0, .int .u32 hd0], .sl .no 4 (txsD l0)]]) ?_ ?_ (globs_of_laid hL) ⟨_, _, rfl, r0, rfl⟩).mono fun e W' ⟨he, hb⟩ => ?_
  · simp (config := {dsimp := false}) only [vz, vn, nq, if_true, if_false, reduceIte, spec_lawCheckBlocks, sp_lawCheckBlocks, givesIf, PF.toR, txD]
    exact ⟨hh0, tw0⟩
  · simp (config := {dsimp := false}) only [vz, vn, nq, if_true, if_false, reduceIte, spec_lawCheckBlocks, sp_lawCheckBlocks, givesIf, PF.toR, txD]
  · subst he
    exact ⟨_, rfl, law_post (tb := 4) hW' rfl Tryz.laidOut (by rw [Tryz.params3]; kernel_rfl) (by kernel_rfl) Tryz.underlying4 rfl hb⟩

theorem checkBlocks_holds : Rows.CheckBlocksSaid :=
  OpenClaim.holds_of_wide 3 Tryz.f3 rfl rfl rfl rfl rfl rfl rfl ⟨rfl, rfl, rfl, rfl, rfl⟩ rfl rfl rfl rfl rfl (by kernel_rfl) Tryz.func3 (by kernel_rfl)
    (of_decide_eq_true (by kernel_rfl)) (by unfold Func.isWrapper; rw [if_neg (by decide +kernel)]; exact ⟨rfl, rfl⟩)
    (fun os started H enc _ => checkBlocks_lifted os started H enc)

theorem checkBlocks_card : Rows.CheckBlocksCardSaid :=
  Claim7.holds_tied_plain_at .later [] [.data] true (true, "43e8ac8d65bc3bc77c57023f85af7b6e3b79f2d807da4768a78ad85f52e54492") false checkBlocks_holds (fun _ h => by cases h) (by kernel_rfl) (fun _ h => by cases h) checkBlocks_row_tie rfl ⟨rfl, rfl⟩ (by kernel_rfl) rfl
    (fun f fn hf hfn => by
      obtain rfl : f = 3 := Option.some.inj ((show Tryz.prog.funcNamed Rows.checkBlocksRow.func = some 3 by kernel_rfl).symm.trans hf) |>.symm
      obtain rfl : fn = Tryz.f3 := (Option.some.inj (Tryz.func3.symm.trans hfn)).symm
      exact ⟨by kernel_rfl, fun j t ht => by
        have hm : t ∈ Tryz.f3.params.toList := by simpa using Array.mem_of_getElem? ht
        have hall : (Tryz.f3.params.toList.all fun u => !Tryz.prog.wantsStandIn u) = true := by kernel_rfl
        exact (show Tryz.prog.wantsStandIn t = false by simpa using List.all_eq_true.1 hall t hm)⟩)
    (by kernel_rfl)
#print axioms checkBlocks_card
end Go.Proofs.YtneickpgbhckmaaGreatDoor
end
