/- For every two transactions that are handed, whether they are the same is the document's answer, or one of them is large. -/
import Derived.Test.YtckeppediepakaaS15

section
set_option linter.unusedVariables false
set_option linter.unusedSimpArgs false
namespace Go.Proofs.Ytckeppediepakaa
open Go.ChangeShapes Go.WideShapes Go.RowKit Go.Vi Go.Vi.T5

section
variable {H : Type} {enc : TypeId × Value → H} {W : World} {base : Nat}
theorem rd22 : Reads enc Try.prog W base 22 rU32 := reads_int Try.underlying22
theorem rd31 : Reads enc Try.prog W base 31 rH := reads_arr Try.underlying31 Try.underlying5 (by kernel_rfl) (by kernel_rfl)
theorem rd33 : Reads enc Try.prog W base 33 (rAg [rH, rU32]) := reads_struct (tot := 33) Try.underlying33 (by kernel_rfl) (And.intro (by kernel_rfl) (And.intro (by kernel_rfl) (lay_nil (by kernel_rfl)))) (And.intro rd31 (And.intro rd22 (trivial)))
theorem rd34 : Reads enc Try.prog W base 34 rScr := reads_ints Try.underlying34 Try.underlying5 (by kernel_rfl)
theorem rd35 : Reads enc Try.prog W base 35 (rSl 1 rScr) := reads_slice Try.underlying35 (by kernel_rfl) rd34
theorem rdx37 : Reads enc Try.prog W base 37 (rAg [(rAg [rH, rU32]), rScr, rU32, (rSl 1 rScr)]) := reads_struct (tot := 36) Try.underlying37 (by kernel_rfl) (And.intro (by kernel_rfl) (And.intro (by kernel_rfl) (And.intro (by kernel_rfl) (And.intro (by kernel_rfl) (lay_nil (by kernel_rfl)))))) (And.intro rd33 (And.intro rd34 (And.intro rd22 (And.intro rd35 (trivial)))))
theorem rd37 : Reads enc Try.prog W base 37 rIn := Reads.mono (R := rAg [(rAg [rH, rU32]), rScr, rU32, (rSl 1 rScr)]) (reads_struct (tot := 36) Try.underlying37 (by kernel_rfl) (And.intro (by kernel_rfl) (And.intro (by kernel_rfl) (And.intro (by kernel_rfl) (And.intro (by kernel_rfl) (lay_nil (by kernel_rfl)))))) (And.intro rd33 (And.intro rd34 (And.intro rd22 (And.intro rd35 (trivial)))))) raw_in
theorem rd23 : Reads enc Try.prog W base 23 (rSl 36 rIn) := reads_slice Try.underlying23 (by kernel_rfl) rd37
theorem rd2 : Reads enc Try.prog W base 2 rI64 := reads_int Try.underlying2
theorem rdx39 : Reads enc Try.prog W base 39 (rAg [rI64, rScr]) := reads_struct (tot := 2) Try.underlying39 (by kernel_rfl) (And.intro (by kernel_rfl) (And.intro (by kernel_rfl) (lay_nil (by kernel_rfl)))) (And.intro rd2 (And.intro rd34 (trivial)))
theorem rd39 : Reads enc Try.prog W base 39 rOut := Reads.mono (R := rAg [rI64, rScr]) (reads_struct (tot := 2) Try.underlying39 (by kernel_rfl) (And.intro (by kernel_rfl) (And.intro (by kernel_rfl) (lay_nil (by kernel_rfl)))) (And.intro rd2 (And.intro rd34 (trivial)))) raw_out
theorem rd24 : Reads enc Try.prog W base 24 (rSl 2 rOut) := reads_slice Try.underlying24 (by kernel_rfl) rd39
theorem rdx26 : Reads enc Try.prog W base 26 (rAg [rU32, (rSl 36 rIn), (rSl 2 rOut), rU32]) := reads_struct (tot := 4) Try.underlying26 (by kernel_rfl) (And.intro (by kernel_rfl) (And.intro (by kernel_rfl) (And.intro (by kernel_rfl) (And.intro (by kernel_rfl) (lay_nil (by kernel_rfl)))))) (And.intro rd22 (And.intro rd23 (And.intro rd24 (And.intro rd22 (trivial)))))
theorem rd26 : Reads enc Try.prog W base 26 rTx := Reads.mono (R := rAg [rU32, (rSl 36 rIn), (rSl 2 rOut), rU32]) (reads_struct (tot := 4) Try.underlying26 (by kernel_rfl) (And.intro (by kernel_rfl) (And.intro (by kernel_rfl) (And.intro (by kernel_rfl) (And.intro (by kernel_rfl) (lay_nil (by kernel_rfl)))))) (And.intro rd22 (And.intro rd23 (And.intro rd24 (And.intro rd22 (trivial)))))) raw_tx
end

set_option maxRecDepth 100000 in
theorem txSame_lifted (os : Os) (started : os.Started) (H : Type) (enc : TypeId × Value → H) :
    ReturnsInHanded {} Try.checked os 3 .any (fun w args => (Rows.txSameSpec.pre enc Try.prog Try.f3 Rows.txSameRow.domain false w args ∧ True) ∧ sizedMet enc Try.prog Try.f3 (OpenSpec.ofChange Rows.txSameSpec) false w args)
      (Rows.txSameSpec.post enc Try.prog Try.f3 false true false false) := by
  refine returnsInHanded_of_change_and (C := Try.checked) (X := fun _ _ => True) (fun _ _ _ _ _ => trivial) Try.own started (by kernel_rfl) Try.func3
    (ChangeSpec.witness_shaped (enc := enc) (C := Try.checked) (os := os) (X := fun _ _ => True) false (World.laidAll Try.prog os Rows.txSameRow.laid) #[.agg #[.int .u32 0, .slice none 0 0, .slice none 0 0, .int .u32 0], .agg #[.int .u32 0, .slice none 0 0, .slice none 0 0, .int .u32 0]] 8 (World.laidAll_os _ _ _)
      (World.shaped_of_ZipB (by kernel_rfl) (by kernel_rfl)) (by kernel_rfl) (by kernel_rfl) (by kernel_rfl)
      trivial) ?_
  intro W base args ds gs before hval0 hW hc _ hL _
  have hval : ∀ (j : Nat) t v, Try.f3.params[j]? = some t → args[j]? = some v → Value.okWide Try.prog W .any base t v := hval0
  have hW' := hW
  obtain ⟨p, q, hA0, hV, rfl, _, _⟩ := hW
  have hA : DataW.TrodAll enc Try.prog W 0 (fun _ => true) true Try.f3.params.toList args.toList ds p := hA0
  rw [Try.params3] at hA hval
  obtain ⟨v0, v1, d0, d1, p0, p1, rfl, rfl, rfl, h0, h1⟩ := trodAll_two hA
  obtain ⟨rfl, rfl⟩ := trodVars_none hV
  obtain ⟨ds0, r0, al0⟩ := rep_struct Try.underlying26 rdx26 (hval 0 26 v0 rfl rfl) h0
  obtain ⟨tx0, e0, hx0⟩ := raw_txs al0
  rw [e0] at r0
  obtain ⟨ds1, r1, al1⟩ := rep_struct Try.underlying26 rdx26 (hval 1 26 v1 rfl rfl) h1
  obtain ⟨tx1, e1, hx1⟩ := raw_txs al1
  rw [e1] at r1
  refine (law_calls c_lawTxSame (args := [txD tx0, txD tx1]) ?_ ?_ globs_of_none ⟨_, _, rfl, r0, ⟨_, _, rfl, r1, rfl⟩⟩).mono fun e W' ⟨he, hb⟩ => ?_
  · simp (config := {dsimp := false}) only [vz, vn, nq, if_true, if_false, reduceIte, spec_lawTxSame, sp_lawTxSame, givesIf, PF.toR, txD]
    exact ⟨anyT_tx hx0, anyT_tx hx1⟩
  · simp (config := {dsimp := false}) only [vz, vn, nq, if_true, if_false, reduceIte, spec_lawTxSame, sp_lawTxSame, givesIf, PF.toR, txD]
  · subst he
    exact ⟨_, rfl, law_post (tb := 4) hW' rfl Try.laidOut (by rw [Try.params3]; kernel_rfl) (by kernel_rfl) Try.underlying4 rfl hb⟩

theorem txSame_holds : Rows.TxSameSaid :=
  OpenClaim.holds_of_wide 3 Try.f3 rfl rfl rfl rfl rfl rfl rfl ⟨rfl, rfl, rfl, rfl, rfl⟩ rfl rfl rfl rfl rfl (by kernel_rfl) Try.func3 (by kernel_rfl)
    (of_decide_eq_true (by kernel_rfl)) (by unfold Func.isWrapper; rw [if_neg (by decide +kernel)]; exact ⟨rfl, rfl⟩)
    (fun os started H enc _ => by
      have h := txSame_lifted os started H enc
      simp only [and_true] at h
      exact h)

#print axioms txSame_holds
end Go.Proofs.Ytckeppediepakaa
end
