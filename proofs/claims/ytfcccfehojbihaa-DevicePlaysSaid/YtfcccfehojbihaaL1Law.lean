/- the device does what the document's does, whatever is done to it -/
import Derived.Test.YtfcccfehojbihaaL15

section
set_option linter.unusedVariables false
set_option linter.unusedSimpArgs false
namespace Go.Proofs.Ytfcccfehojbihaa
open Go.ChangeShapes Go.WideShapes Go.RowKit Go.Vi Go.Vi.DV

section
variable {H : Type} {enc : TypeId × Value → H} {W : World} {base : Nat}
theorem rd3 : Reads enc Try.prog W base 3 rI64 := reads_int Try.underlying3
theorem rd29 : Reads enc Try.prog W base 29 rScr := reads_ints Try.underlying29 Try.underlying5 (by kernel_rfl)
theorem rd48 : Reads enc Try.prog W base 48 rAct := Reads.mono (R := rAg [rI64, rI64, rI64, rScr]) (reads_struct (tot := 4) Try.underlying48 (by kernel_rfl) (And.intro (by kernel_rfl) (And.intro (by kernel_rfl) (And.intro (by kernel_rfl) (And.intro (by kernel_rfl) (lay_nil (by kernel_rfl)))))) (And.intro rd3 (And.intro rd3 (And.intro rd3 (And.intro rd29 (trivial)))))) raw_act
end

set_option maxRecDepth 100000 in
theorem devicePlays_lifted (os : Os) (started : os.Started) (H : Type) (enc : TypeId × Value → H) :
    ReturnsInHanded {} Try.checked os 4 .any (fun w args => (Rows.devicePlaysSpec.pre enc Try.prog Try.f4 Rows.devicePlaysRow.domain false w args ∧ True) ∧ sizedMet enc Try.prog Try.f4 (OpenSpec.ofChange Rows.devicePlaysSpec) false w args)
      (Rows.devicePlaysSpec.post enc Try.prog Try.f4 false true false false) := by
  refine returnsInHanded_of_change_and (C := Try.checked) (X := fun _ _ => True) (fun _ _ _ _ _ => trivial) Try.own started (by kernel_rfl) Try.func4
    (ChangeSpec.witness_shaped (enc := enc) (C := Try.checked) (os := os) (X := fun _ _ => True) false (World.laidAll Try.prog os Rows.devicePlaysRow.laid) #[.int .i64 0, .slice none 0 0] 8 (World.laidAll_os _ _ _)
      (World.shaped_of_ZipB (by kernel_rfl) (by kernel_rfl)) (by kernel_rfl) (by kernel_rfl) (by kernel_rfl)
      trivial) ?_
  intro W base args ds gs before hval0 hW hc _ hL _
  have hval : ∀ (j : Nat) t v, Try.f4.params[j]? = some t → args[j]? = some v → Value.okWide Try.prog W .any base t v := hval0
  have hW' := hW
  obtain ⟨p, q, hA0, hV, rfl, _, _⟩ := hW
  have hA : DataW.TrodAll enc Try.prog W 0 (fun _ => true) true Try.f4.params.toList args.toList ds p := hA0
  rw [Try.params4] at hA hval
  obtain ⟨v0, v1, d0, d1, p0, p1, rfl, rfl, rfl, h0, h1⟩ := trodAll_two hA
  obtain ⟨rfl, rfl⟩ := trodVars_none hV
  obtain ⟨n0, r0, w0⟩ := rep_int Try.underlying3 (hval 0 3 v0 rfl rfl) h0 (g0 W)
  obtain ⟨es1, r1, al1, el1⟩ := rep_slice (sz := 4) Try.underlying38 (by kernel_rfl) rd48 (hval 1 38 v1 rfl rfl) h1
  have hact1 := raw_actL al1 el1
  obtain ⟨cl1, rfl, -⟩ := id hact1
  refine (law_calls c_lawDPlays (args := [.int .i64 n0, .sl .no 4 (actsD cl1)]) ?_ ?_ globs_of_none ⟨_, _, rfl, r0, ⟨_, _, rfl, r1, rfl⟩⟩).mono fun e W' ⟨he, hb⟩ => ?_
  · simp (config := {dsimp := false}) only [vz, vn, nq, norm_acts, strips_acts, vb, if_true, if_false, reduceIte, spec_lawDPlays, sp_lawDPlays, givesIf, PF.toR, txD]
    exact ⟨hact1, by decide, by decide⟩
  · simp (config := {dsimp := false}) only [vz, vn, nq, norm_acts, strips_acts, vb, if_true, if_false, reduceIte, spec_lawDPlays, sp_lawDPlays, givesIf, PF.toR, txD]
  · subst he
    exact ⟨_, rfl, law_post (tb := 4) hW' rfl Try.laidOut (by rw [Try.params4]; kernel_rfl) (by kernel_rfl) Try.underlying4 rfl hb⟩

theorem devicePlays_holds : Rows.DevicePlaysSaid :=
  OpenClaim.holds_of_wide 4 Try.f4 rfl rfl rfl rfl rfl rfl rfl ⟨rfl, rfl, rfl, rfl, rfl⟩ rfl rfl rfl rfl rfl (by kernel_rfl) Try.func4 (by kernel_rfl)
    (of_decide_eq_true (by kernel_rfl)) (by unfold Func.isWrapper; rw [if_neg (by decide +kernel)]; exact ⟨rfl, rfl⟩)
    (fun os started H enc _ => by
      have h := devicePlays_lifted os started H enc
      simp only [and_true] at h
      exact h)

#print axioms devicePlays_holds
end Go.Proofs.Ytfcccfehojbihaa
end
