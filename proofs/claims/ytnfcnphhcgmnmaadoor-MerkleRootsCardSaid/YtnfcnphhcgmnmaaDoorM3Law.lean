/- Roots, whether hashes are mutated, and the texts that are hashed for a root, are as the document says, and what is handed in stays, for every list that the law is handed (it takes the first sixty). -/
import Derived.Test.YtnfcnphhcgmnmaaDoorM36

section
set_option linter.unusedVariables false
set_option linter.unusedSimpArgs false
namespace Go.Proofs.YtnfcnphhcgmnmaaDoor
open Go.ChangeShapes Go.WideShapes Go.RowKit Go.Vi Go.Vi.C8

set_option maxRecDepth 100000 in
theorem merkleRoots_lifted (os : Os) (started : os.Started) (H : Type) (enc : TypeId × Value → H) :
    ReturnsInHanded {} Tryd.checked os 4 .any (fun w args => (Rows.merkleRootsSpec.pre enc Tryd.prog Tryd.f4 Rows.merkleRootsRow.domain false w args ∧ laidMetH Tryd.prog Rows.merkleRootsRow.laid w) ∧ sizedMet enc Tryd.prog Tryd.f4 (OpenSpec.ofChange Rows.merkleRootsSpec) false w args)
      (Rows.merkleRootsSpec.post enc Tryd.prog Tryd.f4 false true false false) := by
  refine returnsInHanded_of_change_and (C := Tryd.checked) (X := fun w _ => laidMetH Tryd.prog Rows.merkleRootsRow.laid w) (fun _ _ _ hh h => h.of_heap hh) Tryd.own started (by kernel_rfl) Tryd.func4
    (ChangeSpec.witness_shaped (enc := enc) (C := Tryd.checked) (os := os) (X := fun w _ => laidMetH Tryd.prog Rows.merkleRootsRow.laid w) false (World.laidAll Tryd.prog os Rows.merkleRootsRow.laid) #[.slice none 0 0] 8 (World.laidAll_os _ _ _)
      (World.shaped_of_ZipB (by kernel_rfl) (by kernel_rfl)) (by kernel_rfl) (by kernel_rfl) (by kernel_rfl)
      (by rw [MakeChecks.laidMetH_plain _ _ _ (by kernel_rfl)]; exact laidMet_laidAll _ (by kernel_rfl) (by kernel_rfl))) ?_
  intro W base args ds gs before hval0 hW hc _ hL _
  have hval : ∀ (j : Nat) t v, Tryd.f4.params[j]? = some t → args[j]? = some v → Value.okWide Tryd.prog W .any base t v := hval0
  have hW' := hW
  obtain ⟨p, q, hA0, hV, rfl, _, _⟩ := hW
  have hA : DataW.TrodAll enc Tryd.prog W 0 (fun _ => true) true Tryd.f4.params.toList args.toList ds p := hA0
  rw [Tryd.params4] at hA hval
  obtain ⟨v0, d0, rfl, rfl, h0⟩ := trodAll_one hA
  obtain ⟨rfl, rfl⟩ := trodVars_none hV
  obtain ⟨bs0, r0, l0, w0⟩ := rep_arrs Tryd.underlying22 Tryd.underlying26 Tryd.underlying5 (by kernel_rfl) (by kernel_rfl) (hval 0 22 v0 rfl rfl) h0
  refine (law_calls c_lawMRoots (args := [.sl .no 32 (bs0.map (D.arr .u8 32))]) ?_ ?_ (globs_of_laid hL) ⟨_, _, rfl, r0, rfl⟩).mono fun e W' ⟨he, hb⟩ => ?_
  · exact ⟨⟨⟨bs0, strips_arrs _ bs0, l0⟩, hsB bs0 w0⟩, fun h => by cases h⟩
  · rfl
  · subst he
    exact ⟨_, rfl, law_post (tb := 4) hW' rfl Tryd.laidOut (by rw [Tryd.params4]; kernel_rfl) (by kernel_rfl) Tryd.underlying4 rfl hb⟩

theorem merkleRoots_holds : Rows.MerkleRootsSaid :=
  OpenClaim.holds_of_wide 4 Tryd.f4 rfl rfl rfl rfl rfl rfl rfl ⟨rfl, rfl, rfl, rfl, rfl⟩ rfl rfl rfl rfl rfl (by kernel_rfl) Tryd.func4 (by kernel_rfl)
    (of_decide_eq_true (by kernel_rfl)) (by unfold Func.isWrapper; rw [if_neg (by decide +kernel)]; exact ⟨rfl, rfl⟩)
    (fun os started H enc _ => merkleRoots_lifted os started H enc)

theorem merkleRoots_card : Rows.MerkleRootsCardSaid :=
  Claim7.holds_tied_plain_at .later [] [.data] true (true, "88a9b9c2141d189c1b11443de1808074e1e163c5d49f3b6f0eb9c66a10ff2048") false merkleRoots_holds (fun _ h => by cases h) (by kernel_rfl) (fun _ h => by cases h) merkleRoots_row_tie rfl ⟨rfl, rfl⟩ (by kernel_rfl) rfl
    (fun f fn hf hfn => by
      obtain rfl : f = 4 := Option.some.inj ((show Tryd.prog.funcNamed Rows.merkleRootsRow.func = some 4 by kernel_rfl).symm.trans hf) |>.symm
      obtain rfl : fn = Tryd.f4 := (Option.some.inj (Tryd.func4.symm.trans hfn)).symm
      exact ⟨by kernel_rfl, fun j t ht => by
        have hm : t ∈ Tryd.f4.params.toList := by simpa using Array.mem_of_getElem? ht
        have hall : (Tryd.f4.params.toList.all fun u => !Tryd.prog.wantsStandIn u) = true := by kernel_rfl
        exact (show Tryd.prog.wantsStandIn t = false by simpa using List.all_eq_true.1 hall t hm)⟩)
    (by kernel_rfl)
#print axioms merkleRoots_card
end Go.Proofs.YtnfcnphhcgmnmaaDoor
end
