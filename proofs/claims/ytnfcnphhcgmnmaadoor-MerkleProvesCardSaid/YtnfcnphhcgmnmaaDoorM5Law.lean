/- Fold of a hash and its branch is the root, and if it is so for another hash or another branch then two unlike texts have one hash, one of Texts and one that Fold hashes, for every list that the law is handed (it takes the first sixty), every number, and every other hash and branch. -/
import Derived.Test.YtnfcnphhcgmnmaaDoorM57

section
set_option linter.unusedVariables false
set_option linter.unusedSimpArgs false
namespace Go.Proofs.YtnfcnphhcgmnmaaDoor
open Go.ChangeShapes Go.WideShapes Go.RowKit Go.Vi Go.Vi.C8

set_option maxRecDepth 100000 in
theorem merkleProves_lifted (os : Os) (started : os.Started) (H : Type) (enc : TypeId × Value → H) :
    ReturnsInHanded {} Tryd.checked os 7 .any (fun w args => (Rows.merkleProvesSpec.pre enc Tryd.prog Tryd.f7 Rows.merkleProvesRow.domain false w args ∧ laidMetH Tryd.prog Rows.merkleProvesRow.laid w) ∧ sizedMet enc Tryd.prog Tryd.f7 (OpenSpec.ofChange Rows.merkleProvesSpec) false w args)
      (Rows.merkleProvesSpec.post enc Tryd.prog Tryd.f7 false true false false) := by
  refine returnsInHanded_of_change_and (C := Tryd.checked) (X := fun w _ => laidMetH Tryd.prog Rows.merkleProvesRow.laid w) (fun _ _ _ hh h => h.of_heap hh) Tryd.own started (by kernel_rfl) Tryd.func7
    (ChangeSpec.witness_shaped (enc := enc) (C := Tryd.checked) (os := os) (X := fun w _ => laidMetH Tryd.prog Rows.merkleProvesRow.laid w) false (World.laidAll Tryd.prog os Rows.merkleProvesRow.laid) #[.slice none 0 0, .int .i64 0, .agg #[.int .u8 0, .int .u8 0, .int .u8 0, .int .u8 0, .int .u8 0, .int .u8 0, .int .u8 0, .int .u8 0, .int .u8 0, .int .u8 0, .int .u8 0, .int .u8 0, .int .u8 0, .int .u8 0, .int .u8 0, .int .u8 0, .int .u8 0, .int .u8 0, .int .u8 0, .int .u8 0, .int .u8 0, .int .u8 0, .int .u8 0, .int .u8 0, .int .u8 0, .int .u8 0, .int .u8 0, .int .u8 0, .int .u8 0, .int .u8 0, .int .u8 0, .int .u8 0, .int .i64 0, .int .i64 0, .slice none 0 0]] 8 (World.laidAll_os _ _ _)
      (World.shaped_of_ZipB (by kernel_rfl) (by kernel_rfl)) (by kernel_rfl) (by kernel_rfl) (by kernel_rfl)
      (by rw [MakeChecks.laidMetH_plain _ _ _ (by kernel_rfl)]; exact laidMet_laidAll _ (by kernel_rfl) (by kernel_rfl))) ?_
  intro W base args ds gs before hval0 hW hc _ hL _
  have hval : ∀ (j : Nat) t v, Tryd.f7.params[j]? = some t → args[j]? = some v → Value.okWide Tryd.prog W .any base t v := hval0
  have hW' := hW
  obtain ⟨p, q, hA0, hV, rfl, _, _⟩ := hW
  have hA : DataW.TrodAll enc Tryd.prog W 0 (fun _ => true) true Tryd.f7.params.toList args.toList ds p := hA0
  rw [Tryd.params7] at hA hval
  obtain ⟨v0, v1, v2, d0, d1, d2, p0, p1, p2, rfl, rfl, rfl, h0, h1, h2⟩ := trodAll_three hA
  obtain ⟨rfl, rfl⟩ := trodVars_none hV
  obtain ⟨bs0, r0, l0, w0⟩ := rep_arrs Tryd.underlying22 Tryd.underlying26 Tryd.underlying5 (by kernel_rfl) (by kernel_rfl) (hval 0 22 v0 rfl rfl) h0
  obtain ⟨n1, r1, w1⟩ := rep_int Tryd.underlying3 (hval 1 3 v1 rfl rfl) h1 (g0 W)
  obtain ⟨hh2, ia2, na2, bs2, r2, hw2, l2, w2⟩ := rep_claim Tryd.underlying35 rfl rfl rfl rfl rfl rfl rfl rfl rfl (by kernel_rfl) (by kernel_rfl) (by kernel_rfl) (by kernel_rfl) (by kernel_rfl) Tryd.underlying26 Tryd.underlying5 (by kernel_rfl) Tryd.underlying3 Tryd.underlying3 Tryd.underlying22 (hval 2 35 v2 rfl rfl) h2
  refine (law_calls c_lawMProves (args := [.sl .no 32 (bs0.map (D.arr .u8 32)), .int .i64 n1, .agg [.arr .u8 32 hh2, .int .i64 ia2, .int .i64 na2, .sl .no 32 (bs2.map (D.arr .u8 32))]]) ?_ ?_ (globs_of_laid hL) ⟨_, _, rfl, r0, ⟨_, _, rfl, r1, ⟨_, _, rfl, r2, rfl⟩⟩⟩).mono fun e W' ⟨he, hb⟩ => ?_
  · exact ⟨⟨⟨bs0, strips_arrs _ bs0, l0⟩, hsB bs0 w0, ⟨bs2, strips_arrs _ bs2, l2⟩, hsB bs2 w2, hw2.1, bytes_of hw2.2⟩, fun h => by cases h⟩
  · rfl
  · subst he
    exact ⟨_, rfl, law_post (tb := 4) hW' rfl Tryd.laidOut (by rw [Tryd.params7]; kernel_rfl) (by kernel_rfl) Tryd.underlying4 rfl hb⟩

theorem merkleProves_holds : Rows.MerkleProvesSaid :=
  OpenClaim.holds_of_wide 7 Tryd.f7 rfl rfl rfl rfl rfl rfl rfl ⟨rfl, rfl, rfl, rfl, rfl⟩ rfl rfl rfl rfl rfl (by kernel_rfl) Tryd.func7 (by kernel_rfl)
    (of_decide_eq_true (by kernel_rfl)) (by unfold Func.isWrapper; rw [if_neg (by decide +kernel)]; exact ⟨rfl, rfl⟩)
    (fun os started H enc _ => merkleProves_lifted os started H enc)

theorem merkleProves_card : Rows.MerkleProvesCardSaid :=
  Claim7.holds_tied_plain_at .later [] [.data] true (true, "88a9b9c2141d189c1b11443de1808074e1e163c5d49f3b6f0eb9c66a10ff2048") false merkleProves_holds (fun _ h => by cases h) (by kernel_rfl) (fun _ h => by cases h) merkleProves_row_tie rfl ⟨rfl, rfl⟩ (by kernel_rfl) rfl
    (fun f fn hf hfn => by
      obtain rfl : f = 7 := Option.some.inj ((show Tryd.prog.funcNamed Rows.merkleProvesRow.func = some 7 by kernel_rfl).symm.trans hf) |>.symm
      obtain rfl : fn = Tryd.f7 := (Option.some.inj (Tryd.func7.symm.trans hfn)).symm
      exact ⟨by kernel_rfl, fun j t ht => by
        have hm : t ∈ Tryd.f7.params.toList := by simpa using Array.mem_of_getElem? ht
        have hall : (Tryd.f7.params.toList.all fun u => !Tryd.prog.wantsStandIn u) = true := by kernel_rfl
        exact (show Tryd.prog.wantsStandIn t = false by simpa using List.all_eq_true.1 hall t hm)⟩)
    (by kernel_rfl)
#print axioms merkleProves_card
end Go.Proofs.YtnfcnphhcgmnmaaDoor
end
