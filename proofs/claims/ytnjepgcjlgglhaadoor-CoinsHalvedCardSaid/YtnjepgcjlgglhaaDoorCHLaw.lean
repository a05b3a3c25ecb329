/- The law CoinsHalved of chapter 22 returns true for every input, and its arguments read behind the call as they read before; the card ties the laid table of the hash's round numbers to the program's text. Conditions: those of the row alone. -/
import Derived.Test.YtnjepgcjlgglhaaDoorCH6
set_option linter.unusedVariables false
set_option linter.unnecessarySimpa false
set_option linter.unusedSimpArgs false
set_option maxHeartbeats 0
set_option maxRecDepth 20000
section
namespace Go.Proofs.YtnjepgcjlgglhaaDoor
open Go.ChangeShapes Go.WideShapes Go.RowKit Go.Vi Go.Vi.CO
section
variable {H : Type} {enc : TypeId × Value → H} {W : World} {base : Nat}
theorem Zt3 : Zdo enc Tryd.prog W base 41 Zgf := ZfV Tryd.underlying41
theorem ZyX : Zdo enc Tryd.prog W base 40 rH := ZsY Tryd.underlying40 Tryd.underlying5 (by kernel_rfl) (by kernel_rfl)
theorem Zzd : Zdo enc Tryd.prog W base 58 (rAg [Zgf, rH, rH, Zgf, Zgf, Zgf]) := Zg4 (tot := 68) Tryd.underlying58 (by kernel_rfl) (And.intro (by kernel_rfl) (And.intro (by kernel_rfl) (And.intro (by kernel_rfl) (And.intro (by kernel_rfl) (And.intro (by kernel_rfl) (And.intro (by kernel_rfl) (Zrk (by kernel_rfl)))))))) (And.intro Zt3 (And.intro ZyX (And.intro ZyX (And.intro Zt3 (And.intro Zt3 (And.intro Zt3 (trivial)))))))
theorem rd3 : Zdo enc Tryd.prog W base 3 Zfa := ZfV Tryd.underlying3
theorem rd2 : Zdo enc Tryd.prog W base 2 Zfa := ZfV Tryd.underlying2
theorem Zzf : Zdo enc Tryd.prog W base 59 Zyd := ZfV Tryd.underlying59
theorem ZyG : Zdo enc Tryd.prog W base 61 (rAg [(rAg [Zgf, rH, rH, Zgf, Zgf, Zgf]), Zgf, Zfa, Zfa, Zfa, Zfa, Zfa, Zfa, Zfa, Zyd, Zfa]) := Zg4 (tot := 78) Tryd.underlying61 (by kernel_rfl) (And.intro (by kernel_rfl) (And.intro (by kernel_rfl) (And.intro (by kernel_rfl) (And.intro (by kernel_rfl) (And.intro (by kernel_rfl) (And.intro (by kernel_rfl) (And.intro (by kernel_rfl) (And.intro (by kernel_rfl) (And.intro (by kernel_rfl) (And.intro (by kernel_rfl) (And.intro (by kernel_rfl) (Zrk (by kernel_rfl))))))))))))) (And.intro Zzd (And.intro Zt3 (And.intro rd3 (And.intro rd3 (And.intro rd3 (And.intro rd3 (And.intro rd2 (And.intro rd3 (And.intro rd3 (And.intro Zzf (And.intro rd3 (trivial))))))))))))
end
set_option maxRecDepth 100000 in
theorem ZgI (os : Os) (started : os.Started) (H : Type) (enc : TypeId × Value → H) :
  ReturnsInHanded {} Tryd.checked os 8 .any (fun w args => (Rows.coinsHalvedSpec.pre enc Tryd.prog Tryd.f8 Rows.coinsHalvedRow.domain false w args ∧ laidMetH Tryd.prog Rows.coinsHalvedRow.laid w) ∧ sizedMet enc Tryd.prog Tryd.f8 (OpenSpec.ofChange Rows.coinsHalvedSpec) false w args)
   (Rows.coinsHalvedSpec.post enc Tryd.prog Tryd.f8 false true false false) := by
 refine returnsInHanded_of_change_and (C := Tryd.checked) (X := fun w _ => laidMetH Tryd.prog Rows.coinsHalvedRow.laid w) (fun _ _ _ hh h => h.of_heap hh) Tryd.own started (by kernel_rfl) Tryd.func8
  (ChangeSpec.witness_shaped (enc := enc) (C := Tryd.checked) (os := os) (X := fun w _ => laidMetH Tryd.prog Rows.coinsHalvedRow.laid w) false (World.laidAll Tryd.prog os Rows.coinsHalvedRow.laid) #[.agg #[.int .u32 0, .int .u8 0, .int .u8 0, .int .u8 0, .int .u8 0, .int .u8 0, .int .u8 0, .int .u8 0, .int .u8 0, .int .u8 0, .int .u8 0, .int .u8 0, .int .u8 0, .int .u8 0, .int .u8 0, .int .u8 0, .int .u8 0, .int .u8 0, .int .u8 0, .int .u8 0, .int .u8 0, .int .u8 0, .int .u8 0, .int .u8 0, .int .u8 0, .int .u8 0, .int .u8 0, .int .u8 0, .int .u8 0, .int .u8 0, .int .u8 0, .int .u8 0, .int .u8 0, .int .u8 0, .int .u8 0, .int .u8 0, .int .u8 0, .int .u8 0, .int .u8 0, .int .u8 0, .int .u8 0, .int .u8 0, .int .u8 0, .int .u8 0, .int .u8 0, .int .u8 0, .int .u8 0, .int .u8 0, .int .u8 0, .int .u8 0, .int .u8 0, .int .u8 0, .int .u8 0, .int .u8 0, .int .u8 0, .int .u8 0, .int .u8 0, .int .u8 0, .int .u8 0, .int .u8 0, .int .u8 0, .int .u8 0, .int .u8 0, .int .u8 0, .int .u8 0, .int .u32 0, .int .u32 0, .int .u32 0, .int .u32 0, .int .i64 0, .int .i64 0, .int .i64 0, .int .i64 0, .int .i64 0, .int .i64 0, .int .i64 0, .int .u64 0, .int .i64 0], .int .i64 0, .int .i64 0] 8 (World.laidAll_os _ _ _)
   (World.shaped_of_ZipB (by kernel_rfl) (by kernel_rfl)) (by kernel_rfl) (by kernel_rfl) (by kernel_rfl)
   (by rw [MakeChecks.laidMetH_plain _ _ _ (by kernel_rfl)]; exact laidMet_laidAll _ (by kernel_rfl) (by kernel_rfl))) ?_
 intro W base args ds gs before hval0 hW hc _ hL _
 have hval : ∀ (j : Nat) t v, Tryd.f8.params[j]? = some t → args[j]? = some v → Value.okWide Tryd.prog W .any base t v := hval0
 have hW' := hW
 obtain ⟨p, q, hA0, hV, rfl, _, _⟩ := hW
 have hA : DataW.TrodAll enc Tryd.prog W 0 (fun _ => true) true Tryd.f8.params.toList args.toList ds p := hA0
 rw [Tryd.params8] at hA hval
 obtain ⟨v0, v1, v2, d0, d1, d2, p0, p1, p2, rfl, rfl, rfl, h0, h1, h2⟩ := trodAll_three hA
 obtain ⟨rfl, rfl⟩ := trodVars_none hV
 obtain ⟨ds0, r0, al0⟩ := Zpj Tryd.underlying61 ZyG (hval 0 61 v0 rfl rfl) h0
 obtain ⟨par0, e0, hpar0⟩ := Zv4 _ ⟨ds0, rfl, al0⟩
 rw [e0] at r0
 obtain ⟨n1, r1, w1⟩ := Zrj Tryd.underlying3 (hval 1 3 v1 rfl rfl) h1 (g0 W)
 obtain ⟨n2, r2, w2⟩ := Zrj Tryd.underlying3 (hval 2 3 v2 rfl rfl) h2 (g0 W)
 refine (Zta ZoU (args := [Zfz par0, .int .i64 n1, .int .i64 n2]) ?_ ?_ (Zkj hL) ⟨_, _, rfl, r0, ⟨_, _, rfl, r1, ⟨_, _, rfl, r2, rfl⟩⟩⟩).mono fun e W' ⟨he, hb⟩ => ?_
 ·simp (config := {dsimp := false}) only [vz, vn, nq, Zfz, ZuW, Zgs, ZG, if_true, if_false, reduceIte, Zfe, ZbS, Zl, PF.toR, txD]
  exact ⟨hpar0.2.2, hpar0.2.1, ZjV w1, ZjV w2⟩
 ·simp (config := {dsimp := false}) only [vz, vn, nq, Zfz, ZuW, Zgs, ZG, if_true, if_false, reduceIte, Zfe, ZbS, Zl, PF.toR, txD]
 ·subst he
  exact ⟨_, rfl, Zu7 (tb := 4) hW' rfl Tryd.laidOut (by rw [Tryd.params8]; kernel_rfl) (by kernel_rfl) Tryd.underlying4 rfl hb⟩
theorem coinsHalved_holds : Rows.CoinsHalvedSaid :=
 OpenClaim.holds_of_wide 8 Tryd.f8 rfl rfl rfl rfl rfl rfl rfl ⟨rfl, rfl, rfl, rfl, rfl⟩ rfl rfl rfl rfl rfl (by kernel_rfl) Tryd.func8 (by kernel_rfl)
  (of_decide_eq_true (by kernel_rfl)) (by unfold Func.isWrapper; rw [if_neg (by decide +kernel)]; exact ⟨rfl, rfl⟩)
  (fun os started H enc _ => ZgI os started H enc)
theorem coinsHalved_card : Rows.CoinsHalvedCardSaid :=
 Claim7.holds_tied_plain_at .later [] [.data] true (true, "3721ae586317c8a766cc20095eb2ffbdeafb63e99b7d32665985bc42ca5e5656") true coinsHalved_holds (fun _ h => by cases h) (by kernel_rfl) (fun _ h => by cases h) coinsHalved_row_tie rfl ⟨rfl, rfl⟩ (by kernel_rfl) rfl
  (fun f fn hf hfn => by
   obtain rfl : f = 8 := Option.some.inj ((show Tryd.prog.funcNamed Rows.coinsHalvedRow.func = some 8 by kernel_rfl).symm.trans hf) |>.symm
   obtain rfl : fn = Tryd.f8 := (Option.some.inj (Tryd.func8.symm.trans hfn)).symm
   exact ⟨by kernel_rfl, fun j t ht => by
    have hm : t ∈ Tryd.f8.params.toList := by simpa using Array.mem_of_getElem? ht
    have hall : (Tryd.f8.params.toList.all fun u => !Tryd.prog.wantsStandIn u) = true := by kernel_rfl
    exact (show Tryd.prog.wantsStandIn t = false by simpa using List.all_eq_true.1 hall t hm)⟩)
  (by kernel_rfl)
#print axioms coinsHalved_card
end Go.Proofs.YtnjepgcjlgglhaaDoor
end
