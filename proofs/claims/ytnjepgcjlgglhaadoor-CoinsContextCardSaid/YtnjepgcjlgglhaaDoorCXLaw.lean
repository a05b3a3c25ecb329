/- The law CoinsContext of chapter 22 returns true for every input, and its arguments read behind the call as they read before; the card ties the laid table of the hash's round numbers to the program's text. Conditions: those of the row alone. -/
import Derived.Test.YtnjepgcjlgglhaaDoorCX6
set_option linter.unusedVariables false
set_option linter.unnecessarySimpa false
set_option linter.unusedSimpArgs false
set_option maxHeartbeats 0
set_option maxRecDepth 20000
section
namespace Go.Proofs.YtnjepgcjlgglhaaDoor
open Go.ChangeShapes Go.WideShapes Go.RowKit Go.Vi Go.Vi.CO
section
variable {H : Type} {enc : TypeId × Value → H} {W : World} {base : Nat}
theorem Zi2 : Zan enc Tryd.prog W base 41 Zbr := Zge Tryd.underlying41
theorem ZvS : Zan enc Tryd.prog W base 40 rH := Ztm Tryd.underlying40 Tryd.underlying5 (by kernel_rfl) (by kernel_rfl)
theorem ZzU : Zan enc Tryd.prog W base 58 (rAg [Zbr, rH, rH, Zbr, Zbr, Zbr]) := Zay (tot := 68) Tryd.underlying58 (by kernel_rfl) (And.intro (by kernel_rfl) (And.intro (by kernel_rfl) (And.intro (by kernel_rfl) (And.intro (by kernel_rfl) (And.intro (by kernel_rfl) (And.intro (by kernel_rfl) (ZcN (by kernel_rfl)))))))) (And.intro Zi2 (And.intro ZvS (And.intro ZvS (And.intro Zi2 (And.intro Zi2 (And.intro Zi2 (trivial)))))))
theorem rd3 : Zan enc Tryd.prog W base 3 Zdx := Zge Tryd.underlying3
theorem rd2 : Zan enc Tryd.prog W base 2 Zdx := Zge Tryd.underlying2
theorem ZAH : Zan enc Tryd.prog W base 59 Zzf := Zge Tryd.underlying59
theorem ZAp : Zan enc Tryd.prog W base 61 ZwZ := Zan.mono (R := rAg [(rAg [Zbr, rH, rH, Zbr, Zbr, Zbr]), Zbr, Zdx, Zdx, Zdx, Zdx, Zdx, Zdx, Zdx, Zzf, Zdx]) (Zay (tot := 78) Tryd.underlying61 (by kernel_rfl) (And.intro (by kernel_rfl) (And.intro (by kernel_rfl) (And.intro (by kernel_rfl) (And.intro (by kernel_rfl) (And.intro (by kernel_rfl) (And.intro (by kernel_rfl) (And.intro (by kernel_rfl) (And.intro (by kernel_rfl) (And.intro (by kernel_rfl) (And.intro (by kernel_rfl) (And.intro (by kernel_rfl) (ZcN (by kernel_rfl))))))))))))) (And.intro ZzU (And.intro Zi2 (And.intro rd3 (And.intro rd3 (And.intro rd3 (And.intro rd3 (And.intro rd2 (And.intro rd3 (And.intro rd3 (And.intro ZAH (And.intro rd3 (trivial))))))))))))) ZwX
theorem ZAz : Zan enc Tryd.prog W base 78 ZmK := Zan.mono (R := rAg [rH, Zdx, Zbr]) (Zay (tot := 34) Tryd.underlying78 (by kernel_rfl) (And.intro (by kernel_rfl) (And.intro (by kernel_rfl) (And.intro (by kernel_rfl) (ZcN (by kernel_rfl))))) (And.intro ZvS (And.intro rd3 (And.intro Zi2 (trivial))))) ZtJ
theorem ZzF : Zan enc Tryd.prog W base 43 (rAg [rH, Zbr]) := Zay (tot := 33) Tryd.underlying43 (by kernel_rfl) (And.intro (by kernel_rfl) (And.intro (by kernel_rfl) (ZcN (by kernel_rfl)))) (And.intro ZvS (And.intro Zi2 (trivial)))
theorem rd4 : Zan enc Tryd.prog W base 4 Zwu := Zqh Tryd.underlying4
theorem ZzB : Zan enc Tryd.prog W base 44 ZmE := ZqT Tryd.underlying44 Tryd.underlying5 (by kernel_rfl)
theorem ZzX : Zan enc Tryd.prog W base 46 Znj := Zan.mono (R := rAg [Zdx, ZmE]) (Zay (tot := 2) Tryd.underlying46 (by kernel_rfl) (And.intro (by kernel_rfl) (And.intro (by kernel_rfl) (ZcN (by kernel_rfl)))) (And.intro rd2 (And.intro ZzB (trivial)))) Zw3
theorem ZAw : Zan enc Tryd.prog W base 48 ZpE := Zan.mono (R := rAg [(rAg [rH, Zbr]), rH, Zdx, Zwu, Znj]) (Zay (tot := 69) Tryd.underlying48 (by kernel_rfl) (And.intro (by kernel_rfl) (And.intro (by kernel_rfl) (And.intro (by kernel_rfl) (And.intro (by kernel_rfl) (And.intro (by kernel_rfl) (ZcN (by kernel_rfl))))))) (And.intro ZzF (And.intro ZvS (And.intro rd3 (And.intro rd4 (And.intro ZzX (trivial))))))) ZwN
theorem ZAx : Zan enc Tryd.prog W base 26 (rSl 69 ZpE) := Zc7 Tryd.underlying26 (by kernel_rfl) ZAw
theorem ZAv : Zan enc Tryd.prog W base 85 (rAg [ZwZ, ZmK, (rSl 69 ZpE)]) := Zay (tot := 113) Tryd.underlying85 (by kernel_rfl) (And.intro (by kernel_rfl) (And.intro (by kernel_rfl) (And.intro (by kernel_rfl) (ZcN (by kernel_rfl))))) (And.intro ZAp (And.intro ZAz (And.intro ZAx (trivial))))
theorem ZAD : Zan enc Tryd.prog W base 63 (rSl 1 ZmE) := Zc7 Tryd.underlying63 (by kernel_rfl) ZzB
theorem ZAy : Zan enc Tryd.prog W base 65 rIn := Zan.mono (R := rAg [(rAg [rH, Zbr]), ZmE, Zbr, (rSl 1 ZmE)]) (Zay (tot := 36) Tryd.underlying65 (by kernel_rfl) (And.intro (by kernel_rfl) (And.intro (by kernel_rfl) (And.intro (by kernel_rfl) (And.intro (by kernel_rfl) (ZcN (by kernel_rfl)))))) (And.intro ZzF (And.intro ZzB (And.intro Zi2 (And.intro ZAD (trivial)))))) Zzn
theorem Zz8 : Zan enc Tryd.prog W base 66 (rSl 36 rIn) := Zc7 Tryd.underlying66 (by kernel_rfl) ZAy
theorem ZzS : Zan enc Tryd.prog W base 67 (rSl 2 Znj) := Zc7 Tryd.underlying67 (by kernel_rfl) ZzX
theorem ZAe : Zan enc Tryd.prog W base 69 (rAg [Zbr, (rSl 36 rIn), (rSl 2 Znj), Zbr]) := Zay (tot := 4) Tryd.underlying69 (by kernel_rfl) (And.intro (by kernel_rfl) (And.intro (by kernel_rfl) (And.intro (by kernel_rfl) (And.intro (by kernel_rfl) (ZcN (by kernel_rfl)))))) (And.intro Zi2 (And.intro Zz8 (And.intro ZzS (And.intro Zi2 (trivial)))))
theorem ZAC : Zan enc Tryd.prog W base 69 rTx := Zan.mono (R := rAg [Zbr, (rSl 36 rIn), (rSl 2 Znj), Zbr]) (Zay (tot := 4) Tryd.underlying69 (by kernel_rfl) (And.intro (by kernel_rfl) (And.intro (by kernel_rfl) (And.intro (by kernel_rfl) (And.intro (by kernel_rfl) (ZcN (by kernel_rfl)))))) (And.intro Zi2 (And.intro Zz8 (And.intro ZzS (And.intro Zi2 (trivial)))))) ZwE
theorem ZAA : Zan enc Tryd.prog W base 70 (rSl 4 rTx) := Zc7 Tryd.underlying70 (by kernel_rfl) ZAC
theorem ZAr : Zan enc Tryd.prog W base 72 (rAg [(rAg [Zbr, rH, rH, Zbr, Zbr, Zbr]), (rSl 4 rTx)]) := Zay (tot := 69) Tryd.underlying72 (by kernel_rfl) (And.intro (by kernel_rfl) (And.intro (by kernel_rfl) (ZcN (by kernel_rfl)))) (And.intro ZzU (And.intro ZAA (trivial)))
end
set_option maxRecDepth 100000 in
theorem Zgn (os : Os) (started : os.Started) (H : Type) (enc : TypeId × Value → H) :
  ReturnsInHanded {} Tryd.checked os 9 .any (fun w args => (Rows.coinsContextSpec.pre enc Tryd.prog Tryd.f9 Rows.coinsContextRow.domain false w args ∧ laidMetH Tryd.prog Rows.coinsContextRow.laid w) ∧ sizedMet enc Tryd.prog Tryd.f9 (OpenSpec.ofChange Rows.coinsContextSpec) false w args)
   (Rows.coinsContextSpec.post enc Tryd.prog Tryd.f9 false true false false) := by
 refine returnsInHanded_of_change_and (C := Tryd.checked) (X := fun w _ => laidMetH Tryd.prog Rows.coinsContextRow.laid w) (fun _ _ _ hh h => h.of_heap hh) Tryd.own started (by kernel_rfl) Tryd.func9
  (ChangeSpec.witness_shaped (enc := enc) (C := Tryd.checked) (os := os) (X := fun w _ => laidMetH Tryd.prog Rows.coinsContextRow.laid w) false (World.laidAll Tryd.prog os Rows.coinsContextRow.laid) #[.agg #[.int .u32 0, .int .u8 0, .int .u8 0, .int .u8 0, .int .u8 0, .int .u8 0, .int .u8 0, .int .u8 0, .int .u8 0, .int .u8 0, .int .u8 0, .int .u8 0, .int .u8 0, .int .u8 0, .int .u8 0, .int .u8 0, .int .u8 0, .int .u8 0, .int .u8 0, .int .u8 0, .int .u8 0, .int .u8 0, .int .u8 0, .int .u8 0, .int .u8 0, .int .u8 0, .int .u8 0, .int .u8 0, .int .u8 0, .int .u8 0, .int .u8 0, .int .u8 0, .int .u8 0, .int .u8 0, .int .u8 0, .int .u8 0, .int .u8 0, .int .u8 0, .int .u8 0, .int .u8 0, .int .u8 0, .int .u8 0, .int .u8 0, .int .u8 0, .int .u8 0, .int .u8 0, .int .u8 0, .int .u8 0, .int .u8 0, .int .u8 0, .int .u8 0, .int .u8 0, .int .u8 0, .int .u8 0, .int .u8 0, .int .u8 0, .int .u8 0, .int .u8 0, .int .u8 0, .int .u8 0, .int .u8 0, .int .u8 0, .int .u8 0, .int .u8 0, .int .u8 0, .int .u32 0, .int .u32 0, .int .u32 0, .int .u32 0, .int .i64 0, .int .i64 0, .int .i64 0, .int .i64 0, .int .i64 0, .int .i64 0, .int .i64 0, .int .u64 0, .int .i64 0, .int .u8 0, .int .u8 0, .int .u8 0, .int .u8 0, .int .u8 0, .int .u8 0, .int .u8 0, .int .u8 0, .int .u8 0, .int .u8 0, .int .u8 0, .int .u8 0, .int .u8 0, .int .u8 0, .int .u8 0, .int .u8 0, .int .u8 0, .int .u8 0, .int .u8 0, .int .u8 0, .int .u8 0, .int .u8 0, .int .u8 0, .int .u8 0, .int .u8 0, .int .u8 0, .int .u8 0, .int .u8 0, .int .u8 0, .int .u8 0, .int .u8 0, .int .u8 0, .int .i64 0, .int .u32 0, .slice none 0 0], .agg #[.int .u32 0, .int .u8 0, .int .u8 0, .int .u8 0, .int .u8 0, .int .u8 0, .int .u8 0, .int .u8 0, .int .u8 0, .int .u8 0, .int .u8 0, .int .u8 0, .int .u8 0, .int .u8 0, .int .u8 0, .int .u8 0, .int .u8 0, .int .u8 0, .int .u8 0, .int .u8 0, .int .u8 0, .int .u8 0, .int .u8 0, .int .u8 0, .int .u8 0, .int .u8 0, .int .u8 0, .int .u8 0, .int .u8 0, .int .u8 0, .int .u8 0, .int .u8 0, .int .u8 0, .int .u8 0, .int .u8 0, .int .u8 0, .int .u8 0, .int .u8 0, .int .u8 0, .int .u8 0, .int .u8 0, .int .u8 0, .int .u8 0, .int .u8 0, .int .u8 0, .int .u8 0, .int .u8 0, .int .u8 0, .int .u8 0, .int .u8 0, .int .u8 0, .int .u8 0, .int .u8 0, .int .u8 0, .int .u8 0, .int .u8 0, .int .u8 0, .int .u8 0, .int .u8 0, .int .u8 0, .int .u8 0, .int .u8 0, .int .u8 0, .int .u8 0, .int .u8 0, .int .u32 0, .int .u32 0, .int .u32 0, .slice none 0 0], .agg #[.int .u32 0, .slice none 0 0, .slice none 0 0, .int .u32 0]] 8 (World.laidAll_os _ _ _)
   (World.shaped_of_ZipB (by kernel_rfl) (by kernel_rfl)) (by kernel_rfl) (by kernel_rfl) (by kernel_rfl)
   (by rw [MakeChecks.laidMetH_plain _ _ _ (by kernel_rfl)]; exact laidMet_laidAll _ (by kernel_rfl) (by kernel_rfl))) ?_
 intro W base args ds gs before hval0 hW hc _ hL _
 have hval : ∀ (j : Nat) t v, Tryd.f9.params[j]? = some t → args[j]? = some v → Value.okWide Tryd.prog W .any base t v := hval0
 have hW' := hW
 obtain ⟨p, q, hA0, hV, rfl, _, _⟩ := hW
 have hA : DataW.TrodAll enc Tryd.prog W 0 (fun _ => true) true Tryd.f9.params.toList args.toList ds p := hA0
 rw [Tryd.params9] at hA hval
 obtain ⟨v0, v1, v2, d0, d1, d2, p0, p1, p2, rfl, rfl, rfl, h0, h1, h2⟩ := trodAll_three hA
 obtain ⟨rfl, rfl⟩ := trodVars_none hV
 obtain ⟨ds0, r0, al0⟩ := ZgP Tryd.underlying85 ZAv (hval 0 85 v0 rfl rfl) h0
 obtain ⟨par0, bk0, ht0, md0, cl0, rfl, hpar0, hbk0, hht0, hcl0, hcn0⟩ := ZtB al0
 obtain ⟨ds1, r1, al1⟩ := ZgP Tryd.underlying72 ZAr (hval 1 72 v1 rfl rfl) h1
 obtain ⟨ha1, hp1, hr1, hb1, hc1, hd1, l1, rfl, hh1, tw1⟩ := Zs7 al1
 obtain ⟨ds2, r2, al2⟩ := ZgP Tryd.underlying69 ZAe (hval 2 69 v2 rfl rfl) h2
 obtain ⟨tx2, e2, hx2⟩ := Zxb al2
 rw [e2] at r2
 refine (Zun Znm (args := [.agg [Zfr par0, Zj2 bk0 ht0 md0, .sl .no 69 (ZK cl0)], .agg [.agg [.int .u32 ha1, .arr .u8 32 hp1, .arr .u8 32 hr1, .int .u32 hb1, .int .u32 hc1, .int .u32 hd1], .sl .no 4 (ZaX l1)], txD tx2]) ?_ ?_ (ZkJ hL) ⟨_, _, rfl, r0, ⟨_, _, rfl, r1, ⟨_, _, rfl, r2, rfl⟩⟩⟩).mono fun e W' ⟨he, hb⟩ => ?_
 ·simp (config := {dsimp := false}) only [vz, vn, nq, Zfr, Zj2, ZgR, ZH, if_true, if_false, reduceIte, Zfl, ZbF, Zk, PF.toR, txD]
  exact ⟨hpar0.2.2, hpar0.2.1, hbk0.1, hht0, hh1, tw1, Zfg hx2⟩
 ·simp (config := {dsimp := false}) only [vz, vn, nq, Zfr, Zj2, ZgR, ZH, if_true, if_false, reduceIte, Zfl, ZbF, Zk, PF.toR, txD]
 ·subst he
  exact ⟨_, rfl, ZuD (tb := 4) hW' rfl Tryd.laidOut (by rw [Tryd.params9]; kernel_rfl) (by kernel_rfl) Tryd.underlying4 rfl hb⟩
theorem coinsContext_holds : Rows.CoinsContextSaid :=
 OpenClaim.holds_of_wide 9 Tryd.f9 rfl rfl rfl rfl rfl rfl rfl ⟨rfl, rfl, rfl, rfl, rfl⟩ rfl rfl rfl rfl rfl (by kernel_rfl) Tryd.func9 (by kernel_rfl)
  (of_decide_eq_true (by kernel_rfl)) (by unfold Func.isWrapper; rw [if_neg (by decide +kernel)]; exact ⟨rfl, rfl⟩)
  (fun os started H enc _ => Zgn os started H enc)
theorem coinsContext_card : Rows.CoinsContextCardSaid :=
 Claim7.holds_tied_plain_at .later [] [.data] true (true, "3721ae586317c8a766cc20095eb2ffbdeafb63e99b7d32665985bc42ca5e5656") true coinsContext_holds (fun _ h => by cases h) (by kernel_rfl) (fun _ h => by cases h) coinsContext_row_tie rfl ⟨rfl, rfl⟩ (by kernel_rfl) rfl
  (fun f fn hf hfn => by
   obtain rfl : f = 9 := Option.some.inj ((show Tryd.prog.funcNamed Rows.coinsContextRow.func = some 9 by kernel_rfl).symm.trans hf) |>.symm
   obtain rfl : fn = Tryd.f9 := (Option.some.inj (Tryd.func9.symm.trans hfn)).symm
   exact ⟨by kernel_rfl, fun j t ht => by
    have hm : t ∈ Tryd.f9.params.toList := by simpa using Array.mem_of_getElem? ht
    have hall : (Tryd.f9.params.toList.all fun u => !Tryd.prog.wantsStandIn u) = true := by kernel_rfl
    exact (show Tryd.prog.wantsStandIn t = false by simpa using List.all_eq_true.1 hall t hm)⟩)
  (by kernel_rfl)
#print axioms coinsContext_card
end Go.Proofs.YtnjepgcjlgglhaaDoor
end
