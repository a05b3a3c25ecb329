/- The program is walked function by function over an abstract state (values, boxes, rows); what is wanted, byte by byte, is the sectors one behind the other at each step. -/
import Derived.Test.YtfcccfehojbihaaO14

section
set_option linter.unusedVariables false
set_option linter.unusedSimpArgs false
namespace Go.Proofs.Ytfcccfehojbihaa
open Go.ChangeShapes Go.WideShapes Go.RowKit Go.Vi Go.Vi.DV

section
variable {H : Type} {enc : TypeId × Value → H} {W : World} {base : Nat}
theorem rd5 : Reads enc Try.prog W base 5 rU8 := reads_int Try.underlying5
theorem rd29 : Reads enc Try.prog W base 29 rScr := reads_ints Try.underlying29 Try.underlying5 (by kernel_rfl)
theorem rd31 : Reads enc Try.prog W base 31 rPut := Reads.mono (R := rAg [rU8, rScr]) (reads_struct (tot := 2) Try.underlying31 (by kernel_rfl) (And.intro (by kernel_rfl) (And.intro (by kernel_rfl) (lay_nil (by kernel_rfl)))) (And.intro rd5 (And.intro rd29 (trivial)))) raw_put
end

set_option maxRecDepth 100000 in
theorem deviceOrder_lifted (os : Os) (started : os.Started) (H : Type) (enc : TypeId × Value → H) :
    ReturnsInHanded {} Try.checked os 3 .any (fun w args => (Rows.deviceOrderSpec.pre enc Try.prog Try.f3 Rows.deviceOrderRow.domain false w args ∧ True) ∧ sizedMet enc Try.prog Try.f3 (OpenSpec.ofChange Rows.deviceOrderSpec) false w args)
      (Rows.deviceOrderSpec.post enc Try.prog Try.f3 false true false false) := by
  refine returnsInHanded_of_change_and (C := Try.checked) (X := fun _ _ => True) (fun _ _ _ _ _ => trivial) Try.own started (by kernel_rfl) Try.func3
    (ChangeSpec.witness_shaped (enc := enc) (C := Try.checked) (os := os) (X := fun _ _ => True) false (World.laidAll Try.prog os Rows.deviceOrderRow.laid) #[.slice none 0 0, .int .u8 0, .int .u8 0] 8 (World.laidAll_os _ _ _)
      (World.shaped_of_ZipB (by kernel_rfl) (by kernel_rfl)) (by kernel_rfl) (by kernel_rfl) (by kernel_rfl)
      trivial) ?_
  intro W base args ds gs before hval0 hW hc _ hL _
  have hval : ∀ (j : Nat) t v, Try.f3.params[j]? = some t → args[j]? = some v → Value.okWide Try.prog W .any base t v := hval0
  have hW' := hW
  obtain ⟨p, q, hA0, hV, rfl, _, _⟩ := hW
  have hA : DataW.TrodAll enc Try.prog W 0 (fun _ => true) true Try.f3.params.toList args.toList ds p := hA0
  rw [Try.params3] at hA hval
  obtain ⟨v0, v1, v2, d0, d1, d2, p0, p1, p2, rfl, rfl, rfl, h0, h1, h2⟩ := trodAll_three hA
  obtain ⟨rfl, rfl⟩ := trodVars_none hV
  obtain ⟨es0, r0, al0, el0⟩ := rep_slice (sz := 2) Try.underlying22 (by kernel_rfl) rd31 (hval 0 22 v0 rfl rfl) h0
  have hput0 := raw_putL al0 el0
  obtain ⟨pl0, rfl, -⟩ := id hput0
  obtain ⟨n1, r1, w1⟩ := rep_int Try.underlying5 (hval 1 5 v1 rfl rfl) h1 (g0 W)
  obtain ⟨n2, r2, w2⟩ := rep_int Try.underlying5 (hval 2 5 v2 rfl rfl) h2 (g0 W)
  refine (law_calls c_lawDOrder (args := [.sl .no 2 (putsD pl0), .int .u8 n1, .int .u8 n2]) ?_ ?_ globs_of_none ⟨_, _, rfl, r0, ⟨_, _, rfl, r1, ⟨_, _, rfl, r2, rfl⟩⟩⟩).mono fun e W' ⟨he, hb⟩ => ?_
  · simp (config := {dsimp := false}) only [vz, vn, nq, norm_puts, strips_puts, if_true, if_false, reduceIte, spec_lawDOrder, sp_lawDOrder, givesIf, PF.toR, txD]
    exact ⟨hput0, (wf_u8 w1).1, (wf_u8 w1).2, (wf_u8 w2).1, (wf_u8 w2).2⟩
  · simp (config := {dsimp := false}) only [vz, vn, nq, norm_puts, strips_puts, if_true, if_false, reduceIte, spec_lawDOrder, sp_lawDOrder, givesIf, PF.toR, txD]
  · subst he
    exact ⟨_, rfl, law_post (tb := 4) hW' rfl Try.laidOut (by rw [Try.params3]; kernel_rfl) (by kernel_rfl) Try.underlying4 rfl hb⟩

theorem deviceOrder_holds : Rows.DeviceOrderSaid :=
  OpenClaim.holds_of_wide 3 Try.f3 rfl rfl rfl rfl rfl rfl rfl ⟨rfl, rfl, rfl, rfl, rfl⟩ rfl rfl rfl rfl rfl (by kernel_rfl) Try.func3 (by kernel_rfl)
    (of_decide_eq_true (by kernel_rfl)) (by unfold Func.isWrapper; rw [if_neg (by decide +kernel)]; exact ⟨rfl, rfl⟩)
    (fun os started H enc _ => by
      have h := deviceOrder_lifted os started H enc
      simp only [and_true] at h
      exact h)

#print axioms deviceOrder_holds
end Go.Proofs.Ytfcccfehojbihaa
end
