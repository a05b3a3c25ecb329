/- The program's answers to the chapter's examples are walked function by function over an abstract state (values, boxes, rows); a device is a box of sectors. -/
import Derived.Test.YtfcccfehojbihaaD14

section
set_option linter.unusedVariables false
set_option linter.unusedSimpArgs false
namespace Go.Proofs.Ytfcccfehojbihaa
open Go.ChangeShapes Go.WideShapes Go.RowKit Go.Vi Go.Vi.DV


set_option maxRecDepth 100000 in
theorem deviceKnown_lifted (os : Os) (started : os.Started) (H : Type) (enc : TypeId × Value → H) :
    ReturnsInHanded {} Try.checked os 5 .any (fun w args => (Rows.deviceKnownSpec.pre enc Try.prog Try.f5 Rows.deviceKnownRow.domain false w args ∧ True) ∧ sizedMet enc Try.prog Try.f5 (OpenSpec.ofChange Rows.deviceKnownSpec) false w args)
      (Rows.deviceKnownSpec.post enc Try.prog Try.f5 false true false false) := by
  refine returnsInHanded_of_change_and (C := Try.checked) (X := fun _ _ => True) (fun _ _ _ _ _ => trivial) Try.own started (by kernel_rfl) Try.func5
    (ChangeSpec.witness_shaped (enc := enc) (C := Try.checked) (os := os) (X := fun _ _ => True) false (World.laidAll Try.prog os Rows.deviceKnownRow.laid) #[] 8 (World.laidAll_os _ _ _)
      (World.shaped_of_ZipB (by kernel_rfl) (by kernel_rfl)) (by kernel_rfl) (by kernel_rfl) (by kernel_rfl)
      trivial) ?_
  intro W base args ds gs before hval0 hW hc _ hL _
  have hval : ∀ (j : Nat) t v, Try.f5.params[j]? = some t → args[j]? = some v → Value.okWide Try.prog W .any base t v := hval0
  have hW' := hW
  obtain ⟨p, q, hA0, hV, rfl, _, _⟩ := hW
  have hA : DataW.TrodAll enc Try.prog W 0 (fun _ => true) true Try.f5.params.toList args.toList ds p := hA0
  rw [Try.params5] at hA hval
  obtain ⟨ha, rfl, rfl⟩ := trodAll_nil hA
  obtain rfl : args = #[] := by cases args; simp_all
  obtain ⟨rfl, rfl⟩ := trodVars_none hV
  refine (law_calls c_lawDKnown (args := []) ?_ ?_ globs_of_none rfl).mono fun e W' ⟨he, hb⟩ => ?_
  · exact ⟨trivial, fun h => by cases h⟩
  · rfl
  · subst he
    exact ⟨_, rfl, law_post (tb := 4) hW' rfl Try.laidOut (by rw [Try.params5]; kernel_rfl) (by kernel_rfl) Try.underlying4 rfl hb⟩

theorem deviceKnown_holds : Rows.DeviceKnownSaid :=
  OpenClaim.holds_of_wide 5 Try.f5 rfl rfl rfl rfl rfl rfl rfl ⟨rfl, rfl, rfl, rfl, rfl⟩ rfl rfl rfl rfl rfl (by kernel_rfl) Try.func5 (by kernel_rfl)
    (of_decide_eq_true (by kernel_rfl)) (by unfold Func.isWrapper; rw [if_neg (by decide +kernel)]; exact ⟨rfl, rfl⟩)
    (fun os started H enc _ => by
      have h := deviceKnown_lifted os started H enc
      simp only [and_true] at h
      exact h)

#print axioms deviceKnown_holds
end Go.Proofs.Ytfcccfehojbihaa
end
