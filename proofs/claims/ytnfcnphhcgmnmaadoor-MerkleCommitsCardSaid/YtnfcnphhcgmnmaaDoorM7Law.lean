/- For every block that is handed, the program's commitment and the commitment wanted are what the document says, or the block is not small. -/
import Derived.Test.YtnfcnphhcgmnmaaDoorM76

section
set_option linter.unusedVariables false
set_option linter.unusedSimpArgs false
namespace Go.Proofs.YtnfcnphhcgmnmaaDoor
open Go.ChangeShapes Go.WideShapes Go.RowKit Go.Vi Go.Vi.CM

section
variable {H : Type} {enc : TypeId × Value → H} {W : World} {base : Nat}
theorem rd42 : Reads enc Tryd.prog W base 42 rU32 := reads_int Tryd.underlying42
theorem rd26 : Reads enc Tryd.prog W base 26 rH := reads_arr Tryd.underlying26 Tryd.underlying5 (by kernel_rfl) (by kernel_rfl)
theorem rd44 : Reads enc Tryd.prog W base 44 (rAg [rU32, rH, rH, rU32, rU32, rU32]) := reads_struct (tot := 68) Tryd.underlying44 (by kernel_rfl) (And.intro (by kernel_rfl) (And.intro (by kernel_rfl) (And.intro (by kernel_rfl) (And.intro (by kernel_rfl) (And.intro (by kernel_rfl) (And.intro (by kernel_rfl) (lay_nil (by kernel_rfl)))))))) (And.intro rd42 (And.intro rd26 (And.intro rd26 (And.intro rd42 (And.intro rd42 (And.intro rd42 (trivial)))))))
theorem rd63 : Reads enc Tryd.prog W base 63 (rAg [rH, rU32]) := reads_struct (tot := 33) Tryd.underlying63 (by kernel_rfl) (And.intro (by kernel_rfl) (And.intro (by kernel_rfl) (lay_nil (by kernel_rfl)))) (And.intro rd26 (And.intro rd42 (trivial)))
theorem rd52 : Reads enc Tryd.prog W base 52 rScr := reads_ints Tryd.underlying52 Tryd.underlying5 (by kernel_rfl)
theorem rd31 : Reads enc Tryd.prog W base 31 (rSl 1 rScr) := reads_slice Tryd.underlying31 (by kernel_rfl) rd52
theorem rd65 : Reads enc Tryd.prog W base 65 rIn := Reads.mono (R := rAg [(rAg [rH, rU32]), rScr, rU32, (rSl 1 rScr)]) (reads_struct (tot := 36) Tryd.underlying65 (by kernel_rfl) (And.intro (by kernel_rfl) (And.intro (by kernel_rfl) (And.intro (by kernel_rfl) (And.intro (by kernel_rfl) (lay_nil (by kernel_rfl)))))) (And.intro rd63 (And.intro rd52 (And.intro rd42 (And.intro rd31 (trivial)))))) raw_in
theorem rd58 : Reads enc Tryd.prog W base 58 (rSl 36 rIn) := reads_slice Tryd.underlying58 (by kernel_rfl) rd65
theorem rd2 : Reads enc Tryd.prog W base 2 rI64 := reads_int Tryd.underlying2
theorem rd67 : Reads enc Tryd.prog W base 67 rOut := Reads.mono (R := rAg [rI64, rScr]) (reads_struct (tot := 2) Tryd.underlying67 (by kernel_rfl) (And.intro (by kernel_rfl) (And.intro (by kernel_rfl) (lay_nil (by kernel_rfl)))) (And.intro rd2 (And.intro rd52 (trivial)))) raw_out
theorem rd59 : Reads enc Tryd.prog W base 59 (rSl 2 rOut) := reads_slice Tryd.underlying59 (by kernel_rfl) rd67
theorem rd61 : Reads enc Tryd.prog W base 61 rTx := Reads.mono (R := rAg [rU32, (rSl 36 rIn), (rSl 2 rOut), rU32]) (reads_struct (tot := 4) Tryd.underlying61 (by kernel_rfl) (And.intro (by kernel_rfl) (And.intro (by kernel_rfl) (And.intro (by kernel_rfl) (And.intro (by kernel_rfl) (lay_nil (by kernel_rfl)))))) (And.intro rd42 (And.intro rd58 (And.intro rd59 (And.intro rd42 (trivial)))))) raw_tx
theorem rd45 : Reads enc Tryd.prog W base 45 (rSl 4 rTx) := reads_slice Tryd.underlying45 (by kernel_rfl) rd61
theorem rd47 : Reads enc Tryd.prog W base 47 (rAg [(rAg [rU32, rH, rH, rU32, rU32, rU32]), (rSl 4 rTx)]) := reads_struct (tot := 69) Tryd.underlying47 (by kernel_rfl) (And.intro (by kernel_rfl) (And.intro (by kernel_rfl) (lay_nil (by kernel_rfl)))) (And.intro rd44 (And.intro rd45 (trivial)))
end

set_option maxRecDepth 100000 in
theorem merkleCommits_lifted (os : Os) (started : os.Started) (H : Type) (enc : TypeId × Value → H) :
    ReturnsInHanded {} Tryd.checked os 8 .any (fun w args => (Rows.merkleCommitsSpec.pre enc Tryd.prog Tryd.f8 Rows.merkleCommitsRow.domain false w args ∧ laidMetH Tryd.prog Rows.merkleCommitsRow.laid w) ∧ sizedMet enc Tryd.prog Tryd.f8 (OpenSpec.ofChange Rows.merkleCommitsSpec) false w args)
      (Rows.merkleCommitsSpec.post enc Tryd.prog Tryd.f8 false true false false) := by
  refine returnsInHanded_of_change_and (C := Tryd.checked) (X := fun w _ => laidMetH Tryd.prog Rows.merkleCommitsRow.laid w) (fun _ _ _ hh h => h.of_heap hh) Tryd.own started (by kernel_rfl) Tryd.func8
    (ChangeSpec.witness_shaped (enc := enc) (C := Tryd.checked) (os := os) (X := fun w _ => laidMetH Tryd.prog Rows.merkleCommitsRow.laid w) false (World.laidAll Tryd.prog os Rows.merkleCommitsRow.laid) #[.agg #[.int .u32 0, .int .u8 0, .int .u8 0, .int .u8 0, .int .u8 0, .int .u8 0, .int .u8 0, .int .u8 0, .int .u8 0, .int .u8 0, .int .u8 0, .int .u8 0, .int .u8 0, .int .u8 0, .int .u8 0, .int .u8 0, .int .u8 0, .int .u8 0, .int .u8 0, .int .u8 0, .int .u8 0, .int .u8 0, .int .u8 0, .int .u8 0, .int .u8 0, .int .u8 0, .int .u8 0, .int .u8 0, .int .u8 0, .int .u8 0, .int .u8 0, .int .u8 0, .int .u8 0, .int .u8 0, .int .u8 0, .int .u8 0, .int .u8 0, .int .u8 0, .int .u8 0, .int .u8 0, .int .u8 0, .int .u8 0, .int .u8 0, .int .u8 0, .int .u8 0, .int .u8 0, .int .u8 0, .int .u8 0, .int .u8 0, .int .u8 0, .int .u8 0, .int .u8 0, .int .u8 0, .int .u8 0, .int .u8 0, .int .u8 0, .int .u8 0, .int .u8 0, .int .u8 0, .int .u8 0, .int .u8 0, .int .u8 0, .int .u8 0, .int .u8 0, .int .u8 0, .int .u32 0, .int .u32 0, .int .u32 0, .slice none 0 0]] 8 (World.laidAll_os _ _ _)
      (World.shaped_of_ZipB (by kernel_rfl) (by kernel_rfl)) (by kernel_rfl) (by kernel_rfl) (by kernel_rfl)
      (by rw [MakeChecks.laidMetH_plain _ _ _ (by kernel_rfl)]; exact laidMet_laidAll _ (by kernel_rfl) (by kernel_rfl))) ?_
  intro W base args ds gs before hval0 hW hc _ hL _
  have hval : ∀ (j : Nat) t v, Tryd.f8.params[j]? = some t → args[j]? = some v → Value.okWide Tryd.prog W .any base t v := hval0
  have hW' := hW
  obtain ⟨p, q, hA0, hV, rfl, _, _⟩ := hW
  have hA : DataW.TrodAll enc Tryd.prog W 0 (fun _ => true) true Tryd.f8.params.toList args.toList ds p := hA0
  rw [Tryd.params8] at hA hval
  obtain ⟨v0, d0, rfl, rfl, h0⟩ := trodAll_one hA
  obtain ⟨rfl, rfl⟩ := trodVars_none hV
  obtain ⟨ds0, r0, al0⟩ := rep_struct Tryd.underlying47 rd47 (hval 0 47 v0 rfl rfl) h0
  obtain ⟨ha0, hp0, hr0, hb0, hc0, hd0, l0, rfl, hh0, tw0⟩ := raw_block al0
  refine (law_calls c_lawMCommits (args := [.agg [.agg [.int .u32 ha0, .arr .u8 32 hp0, .arr .u8 32 hr0, .int .u32 hb0, .int .u32 hc0, .int .u32 hd0], .sl .no 4 (txsD l0)]]) ?_ ?_ (globs_of_laid hL) ⟨_, _, rfl, r0, rfl⟩).mono fun e W' ⟨he, hb⟩ => ?_
  · simp (config := {dsimp := false}) only [vz, vn, nq, if_true, if_false, reduceIte, spec_lawMCommits, sp_lawMCommits, givesIf, PF.toR]
    exact ⟨hh0, tw0⟩
  · simp (config := {dsimp := false}) only [vz, vn, nq, if_true, if_false, reduceIte, spec_lawMCommits, sp_lawMCommits, givesIf, PF.toR]
  · subst he
    exact ⟨_, rfl, law_post (tb := 4) hW' rfl Tryd.laidOut (by rw [Tryd.params8]; kernel_rfl) (by kernel_rfl) Tryd.underlying4 rfl hb⟩

theorem merkleCommits_holds : Rows.MerkleCommitsSaid :=
  OpenClaim.holds_of_wide 8 Tryd.f8 rfl rfl rfl rfl rfl rfl rfl ⟨rfl, rfl, rfl, rfl, rfl⟩ rfl rfl rfl rfl rfl (by kernel_rfl) Tryd.func8 (by kernel_rfl)
    (of_decide_eq_true (by kernel_rfl)) (by unfold Func.isWrapper; rw [if_neg (by decide +kernel)]; exact ⟨rfl, rfl⟩)
    (fun os started H enc _ => merkleCommits_lifted os started H enc)

theorem merkleCommits_card : Rows.MerkleCommitsCardSaid :=
  Claim7.holds_tied_plain_at .later [] [.data] true (true, "88a9b9c2141d189c1b11443de1808074e1e163c5d49f3b6f0eb9c66a10ff2048") false merkleCommits_holds (fun _ h => by cases h) (by kernel_rfl) (fun _ h => by cases h) merkleCommits_row_tie rfl ⟨rfl, rfl⟩ (by kernel_rfl) rfl
    (fun f fn hf hfn => by
      obtain rfl : f = 8 := Option.some.inj ((show Tryd.prog.funcNamed Rows.merkleCommitsRow.func = some 8 by kernel_rfl).symm.trans hf) |>.symm
      obtain rfl : fn = Tryd.f8 := (Option.some.inj (Tryd.func8.symm.trans hfn)).symm
      exact ⟨by kernel_rfl, fun j t ht => by
        have hm : t ∈ Tryd.f8.params.toList := by simpa using Array.mem_of_getElem? ht
        have hall : (Tryd.f8.params.toList.all fun u => !Tryd.prog.wantsStandIn u) = true := by kernel_rfl
        exact (show Tryd.prog.wantsStandIn t = false by simpa using List.all_eq_true.1 hall t hm)⟩)
    (by kernel_rfl)
#print axioms merkleCommits_card
end Go.Proofs.YtnfcnphhcgmnmaaDoor
end
