/- Lemmas for the law proved in the text whose name ends with Law. -/
import Derived.Test.YtnfcnphhcgmnmaaDoorM75
import Derived.RangeFuncNested
import Derived.RangeFuncBound
import Derived.RangeFuncLeaves
import Derived.Shelf.Abstract
import Derived.Shelf.RegionOpen
import Derived.WalkKit
import Derived.OwnWalkIn
import Derived.TacticsInMore
import Derived.LoopNIn
import Derived.LoopIn
import Derived.Test.YtnfcnphhcgmnmaaDoorProg
import Derived.ProofKit
import Derived.KernelRfl
import Derived.Test.YtnfcnphhcgmnmaaDoorTie
import Derived.Test.YtnfcnphhcgmnmaaDoorCards
import Derived.SevenTiedAt

section
set_option linter.unusedVariables false
set_option linter.unusedSimpArgs false
set_option maxHeartbeats 0
set_option maxRecDepth 20000
namespace Go.Vi.CM
open Go.Proofs

theorem c_rput : Contract E 67 := by
  refine contract_seeT hE hgl (show E.P.funcs[67]? = some Tryd.f67 from Tryd.func67) rfl (p := sp_rput) (fun _ _ _ => rfl) ?_
  intro args hv
  unfold sp_rput at hv ⊢
  split at hv
  case h_2 => exact hv.elim
  rename_i v is os l
  refine ⟨by simp, Nat.le_of_ble_eq_true rfl, ?_⟩
  simp only [givesIf] at hv
  have hok := hv
  obtain ⟨t, rfl, rfl, rfl, rfl, ht, -⟩ := okT_tx hok
  have eta : (⟨t.ver, t.ins, t.outs, t.lock⟩ : TxP) = t := rfl
  obtain ⟨W, hW⟩ : ∃ W, witnessedP t = W := ⟨_, rfl⟩
  have hW' : t.ins.any hasWit = W := hW
  by_cases h : checkP t = 0
  · have hlen := lay_len ht h W
    have hd : decide (checkP t = 0) = true := decide_eq_true h
    simp (config := {dsimp := false}) only [↓vp0, vz, vn, nq, tys, cellD, wideIR, if_true, if_false, implies_true, forall_const, ne_eq, reduceIte, reduceCtorEq, Nat.reduceEqDiff, Nat.reduceAdd, Nat.reduceMul, Nat.reduceLT, Nat.reduceSub, Nat.reduceLeDiff, Nat.reduceBNe, Nat.reduceBEq, Nat.reduceBeqDiff, List.range, List.range.loop, gl0, Tryd.ntmps67, Tryd.results67, PF.toR, givesIf, eta, hd, hW, put_0 h, spec_rcheck, sp_tcheck, c_rcheck, b_rcheck]
    refine ⟨hok, ?_⟩
    refine drawI [1] (by kernel_rfl) ?_
    simp (config := {dsimp := false}) only [↓vp0, vz, vn, nq, tys, cellD, wideIR, if_true, if_false, implies_true, forall_const, ne_eq, reduceIte, reduceCtorEq, Nat.reduceEqDiff, Nat.reduceAdd, Nat.reduceMul, Nat.reduceLT, Nat.reduceSub, Nat.reduceLeDiff, Nat.reduceBNe, Nat.reduceBEq, Nat.reduceBeqDiff, List.range, List.range.loop, gl0, Tryd.ntmps67, Tryd.results67, PF.toR, givesIf, eta, hW', spec_rwitnessed, sp_twitnessed, c_rwitnessed, b_rwitnessed, spec_rlay, sp_rlay, c_rlay, b_rlay]
    refine ⟨hok, hok, by omega, ?_⟩
    rw [hW, put_0 h]; rfl
  · have hd : decide (checkP t = 0) = false := decide_eq_false h
    simp (config := {dsimp := false}) only [↓vp0, vz, vn, nq, tys, cellD, wideIR, if_true, if_false, implies_true, forall_const, ne_eq, reduceIte, reduceCtorEq, Nat.reduceEqDiff, Nat.reduceAdd, Nat.reduceMul, Nat.reduceLT, Nat.reduceSub, Nat.reduceLeDiff, Nat.reduceBNe, Nat.reduceBEq, Nat.reduceBeqDiff, List.range, List.range.loop, gl0, Tryd.ntmps67, Tryd.results67, PF.toR, givesIf, eta, hd, put_e h, spec_rcheck, sp_tcheck, c_rcheck, b_rcheck]
    exact hok
theorem c_rfull : Contract E 57 := by
  refine contract_seeT hE hgl (show E.P.funcs[57]? = some Tryd.f57 from Tryd.func57) rfl (p := sp_tfull) (fun _ _ _ => rfl) ?_
  intro args hv
  unfold sp_tfull at hv ⊢
  split at hv
  case h_2 => exact hv.elim
  rename_i v is os l
  refine ⟨by simp, Nat.le_of_ble_eq_true rfl, ?_⟩
  simp only [givesIf] at hv
  have hok := hv
  obtain ⟨t, rfl, rfl, rfl, rfl, ht, -⟩ := okT_tx hok
  have eta : (⟨t.ver, t.ins, t.outs, t.lock⟩ : TxP) = t := rfl
  by_cases h : checkP t = 0
  · have hlen := lay_len ht h (witnessedP t)
    have hby := lay_bytes ht (witnessedP t)
    have hf : fullP t = sumP (sumP (layI t (witnessedP t))) := if_pos h
    simp (config := {dsimp := false}) only [↓vp0, vz, vn, nq, tys, cellD, wideIR, if_true, if_false, implies_true, forall_const, ne_eq, reduceIte, reduceCtorEq, Nat.reduceEqDiff, Nat.reduceAdd, Nat.reduceMul, Nat.reduceLT, Nat.reduceSub, Nat.reduceLeDiff, Nat.reduceBNe, Nat.reduceBEq, Nat.reduceBeqDiff, List.range, List.range.loop, gl0, Tryd.ntmps57, Tryd.results57, PF.toR, givesIf, eta, put_0 h, hf, eq_self, decide_true, List.nil_append, spec_rput, sp_rput, c_rput, b_rput, spec_refTwice, sp_refTwice, c_refTwice, b_refTwice]
    exact ⟨hok, by omega, by rw [twice_eq _ hby (by omega)]⟩
  · have hf : fullP t = List.replicate 32 0 := if_neg h
    simp (config := {dsimp := false}) only [↓vp0, vz, vn, nq, tys, cellD, wideIR, if_true, if_false, implies_true, forall_const, ne_eq, reduceIte, reduceCtorEq, Nat.reduceEqDiff, Nat.reduceAdd, Nat.reduceMul, Nat.reduceLT, Nat.reduceSub, Nat.reduceLeDiff, Nat.reduceBNe, Nat.reduceBEq, Nat.reduceBeqDiff, List.range, List.range.loop, gl0, Tryd.ntmps57, Tryd.results57, PF.toR, givesIf, eta, put_e h, hf, h, decide_false, spec_rput, sp_rput, c_rput, b_rput, spec_refTwice, sp_refTwice, c_refTwice, b_refTwice]
    exact hok
theorem c_rfulls : Contract E 47 := by
  refine contract_seeT hE hgl (show E.P.funcs[47]? = some Tryd.f47 from Tryd.func47) rfl (p := sp_fulls) (fun _ _ _ => rfl) ?_
  intro args hv
  unfold sp_fulls at hv ⊢
  split at hv
  case h_2 => exact hv.elim
  rename_i h0' hp hr h1 h2 h3 es
  refine ⟨by simp, Nat.le_of_ble_eq_true rfl, ?_⟩
  simp only [givesIf] at hv
  obtain ⟨hhd, ⟨l, rfl, hok, hl⟩, hlen⟩ := hv
  simp only [txsD_length] at hlen
  have hx : ∀ (a : L2) (x : List Int), arrs a ++ [D.arr .u8 32 x] = arrs (a ++ [x]) := fun a x => arrs_append a [x]
  have htl : (hashesP true l).take l.length = hashesP true l := List.take_of_length_le (by rw [hashes_len]; exact Nat.le_refl _)
  simp (config := {dsimp := false}) only [↓vp0, vz, vn, nq, tys, cellD, wideIR, if_true, if_false, implies_true, forall_const, ne_eq, reduceIte, reduceCtorEq, Nat.reduceEqDiff, Nat.reduceAdd, Nat.reduceMul, Nat.reduceLT, Nat.reduceSub, Nat.reduceLeDiff, Nat.reduceBNe, Nat.reduceBEq, Nat.reduceBeqDiff, List.range, List.range.loop, gl0, Tryd.ntmps47, Tryd.results47]
  refine loopA [(3, none, 32)] ?_
  simp only [adopt, look, if_true, if_false, reduceIte, Nat.reduceEqDiff, setL, List.length_nil]
  refine ⟨Fin (l.length + 1), fun k => [(3, .sl (.tok 16) 32 (arrs ((hashesP true l).take k.1))), (4, .int .i64 (k.1 : Nat)), (1, .bp 0 0)], fun k => ⟨[(0, .agg [.agg [.int .u32 h0', .arr .u8 32 hp, .arr .u8 32 hr, .int .u32 h1, .int .u32 h2, .int .u32 h3], .sl .no 4 (txsD l)])], [(16, (k.1, 32))], 20⟩, fun k => l.length - k.1, 0, fun _ => rfl, ?_, ?_⟩
  · exact ⟨⟨wkD_eq rfl, rfl, wkD_eq rfl, rfl, wkD_eq rfl, rfl, trivial⟩, ⟨rfl, Nat.le_of_ble_eq_true rfl, rfl, trivial⟩, ⟨rfl, Nat.le_of_ble_eq_true rfl, trivial⟩⟩
  rintro ⟨k, hk⟩
  have hal : (arrs ((hashesP true l).take k)).length = k := by rw [arrs_length, List.length_take, hashes_len]; omega
  simp (config := {dsimp := false}) only [↓vp0, vz, vn, nq, tys, cellD, wideIR, if_true, if_false, implies_true, forall_const, ne_eq, reduceIte, reduceCtorEq, Nat.reduceEqDiff, Nat.reduceAdd, Nat.reduceMul, Nat.reduceLT, Nat.reduceSub, Nat.reduceLeDiff, Nat.reduceBNe, Nat.reduceBEq, Nat.reduceBeqDiff, List.range, List.range.loop, gl0, Tryd.ntmps47, Tryd.results47]
  refine ⟨fun hh => ?_, fun hh => ?_⟩
  · have hh := of_decide_eq_true hh
    have hk' : k < l.length := by omega
    have g1 := txsD_get l k hk'
    have ht := hok _ (getD_memI hk')
    have hg := hashes_get true l k hk'
    rw [if_pos rfl] at hg
    by_cases hz : k = 0
    · have hd : decide (((k : Nat) : Int) = 0) = true := decide_eq_true (by omega)
      simp (config := {dsimp := false}) only [↓vp0, vz, vn, nq, tys, cellD, wideIR, if_true, if_false, implies_true, forall_const, ne_eq, reduceIte, reduceCtorEq, Nat.reduceEqDiff, Nat.reduceAdd, Nat.reduceMul, Nat.reduceLT, Nat.reduceSub, Nat.reduceLeDiff, Nat.reduceBNe, Nat.reduceBEq, Nat.reduceBeqDiff, List.range, List.range.loop, gl0, Tryd.ntmps47, Tryd.results47, PF.toR, givesIf, Int.toNat_natCast, g1, txD, hal, hd, spec_rfull, sp_tfull, c_rfull, b_rfull]
      refine ⟨by omega, by omega, tx_okT ht, by omega, .inr trivial, .inr trivial, ⟨k + 1, by omega⟩, ⟨⟨wkD_eq ?_, rfl, wkD_eq ?_, rfl, wkD_eq rfl, rfl, trivial⟩, ⟨rfl, Nat.le_of_ble_eq_true rfl, rfl, trivial⟩, ⟨rfl, Nat.le_of_ble_eq_true rfl, trivial⟩⟩, by (try simp only); omega⟩
      · rw [hg, if_pos hz, bare_arr, hx]; rfl
      · exact some_i64 (by (try simp only); omega)
    · have hd : decide (((k : Nat) : Int) = 0) = false := decide_eq_false (by omega)
      simp (config := {dsimp := false}) only [↓vp0, vz, vn, nq, tys, cellD, wideIR, if_true, if_false, implies_true, forall_const, ne_eq, reduceIte, reduceCtorEq, Nat.reduceEqDiff, Nat.reduceAdd, Nat.reduceMul, Nat.reduceLT, Nat.reduceSub, Nat.reduceLeDiff, Nat.reduceBNe, Nat.reduceBEq, Nat.reduceBeqDiff, List.range, List.range.loop, gl0, Tryd.ntmps47, Tryd.results47, PF.toR, givesIf, Int.toNat_natCast, g1, txD, hal, hd, spec_rfull, sp_tfull, c_rfull, b_rfull]
      refine ⟨by omega, by omega, tx_okT ht, by omega, .inr trivial, .inr trivial, ⟨k + 1, by omega⟩, ⟨⟨wkD_eq ?_, rfl, wkD_eq ?_, rfl, wkD_eq rfl, rfl, trivial⟩, ⟨rfl, Nat.le_of_ble_eq_true rfl, rfl, trivial⟩, ⟨rfl, Nat.le_of_ble_eq_true rfl, trivial⟩⟩, by (try simp only); omega⟩
      · rw [hg, if_neg hz, bare_arr, hx]; rfl
      · exact some_i64 (by (try simp only); omega)
  · have hh := of_decide_eq_false hh
    obtain rfl : k = l.length := by omega
    simp (config := {dsimp := false}) only [↓vp0, vz, vn, nq, tys, cellD, wideIR, if_true, if_false, implies_true, forall_const, ne_eq, reduceIte, reduceCtorEq, Nat.reduceEqDiff, Nat.reduceAdd, Nat.reduceMul, Nat.reduceLT, Nat.reduceSub, Nat.reduceLeDiff, Nat.reduceBNe, Nat.reduceBEq, Nat.reduceBeqDiff, List.range, List.range.loop, gl0, Tryd.ntmps47, Tryd.results47, givesIf, htl, strips_arrs]
    all_goals rfl
end Go.Vi.CM
end

section
set_option linter.unusedVariables false
set_option linter.unusedSimpArgs false
namespace Go.Proofs
open Go.RowKit Go.Shelf
attribute [local go_sem] Oper.semAt_some

def Tryd.upto {α : Type} (f : Nat → α) (k : Nat) : List α := (List.range k).map f
theorem Tryd.upto_succ {α : Type} (f : Nat → α) (k : Nat) : Tryd.upto f (k + 1) = Tryd.upto f k ++ [f k] := by simp [Tryd.upto, List.range_succ]

set_option maxRecDepth 100000 in
set_option maxHeartbeats 2000000 in
theorem Tryd.chunk1_in (F : Fence) (n : Nat) (h60 : F.fn 60) (hro : F.round = none) (hn : 1 ≤ n) (l B0 B1 o1 B2 o2 b off len cap : Nat) (Kp : World → World → Prop) (hlen : len ≤ cap) (hb : len < 1000000000) (J Jx : List Nat → World → Prop)
    (hK1 : ∀ A B, Kp A B → B.cell? ⟨B1, o1, none⟩ = A.cell? ⟨B1, o1, none⟩) (hK2 : ∀ A B, Kp A B → B.cell? ⟨B2, o2, none⟩ = A.cell? ⟨B2, o2, none⟩)
    (hJ : AbidesFrom B0 J)
    (hY : ∀ pre i W, J pre W → pre.length = i → 2 * i < len → YieldAt F (n - 1) Tryd.prog l #[.slice (some ⟨b, off + 2 * i * 32, none⟩) (if 2 * i + 2 ≤ len then 2 else 1) (if 2 * i + 2 ≤ len then 2 else 1)] W fun e W' =>
      (e = .returned (.bool true) ∧ J (pre ++ [i]) W' ∧ Kp W W') ∨ (e = .returned (.bool false) ∧ Jx (pre ++ [i]) W'))
    (W : World) (h1 : W.cell? ⟨B1, o1, none⟩ = some (.slice (some ⟨b, off, none⟩) len cap)) (h2 : W.cell? ⟨B2, o2, none⟩ = some (.int .i64 2)) (h0 : J [] W) :
    CallsIn F n Tryd.prog 60 #[.func (.yield l) #[] #[], .pointer (some ⟨B1, o1, none⟩), .pointer (some ⟨B2, o2, none⟩)] W fun e W' => (∃ v, e = .returned v) ∧
      ((∃ k, (len ≤ 2 * k ∧ 2 * k < len + 2) ∧ J (List.range k) W') ∨ (∃ pre, Jx pre W')) := by
  refine callsIn_of_wp Tryd.func60 rfl h60 ?_ hro
  simp only [Tryd.ntmps60, List.size_toArray, List.length_cons, List.length_nil, Nat.reduceAdd, Nat.reduceSub, Array.replicate_succ, Array.replicate_zero, List.push_toArray, List.append_toArray, List.nil_append, List.cons_append]
  gi_wp2
  gi_loopw [4] (fun i wr => ∃ k : Nat, 2 * k < len + 2 ∧ i = .int .i64 (2 * k : Int) ∧ J (List.range k) wr ∧ wr.cell? ⟨B1, o1, none⟩ = some (.slice (some ⟨b, off, none⟩) len cap) ∧ wr.cell? ⟨B2, o2, none⟩ = some (.int .i64 2))
    (fun i _ => len + 2 - (intOf i).toNat)
  case atStart => exact ⟨0, by omega, rfl, h0, h1, h2⟩
  case round =>
    obtain ⟨k, hk, rfl, hJs, hc1, hc2⟩ := hrel
    by_cases hlt : 2 * k < len
    · have hD : J (List.range k) wr.drew := hJ _ _ _ none hJs ⟨rfl, rfl, rfl, Nat.le_refl _, fun _ _ _ => rfl⟩ (fun r e => by cases e)
      have hcD1 : wr.drew.cell? ⟨B1, o1, none⟩ = some (.slice (some ⟨b, off, none⟩) len cap) := hc1
      have hcD2 : wr.drew.cell? ⟨B2, o2, none⟩ = some (.int .i64 2) := hc2
      by_cases h2 : 2 * k + 2 ≤ len
      · obtain ⟨fn, tmps, assign, body, hy, hR⟩ := hY _ k wr.drew hD (by simp) hlt
        simp only [if_pos h2] at hy
        gi_wp2
        refine wpIn_mono (Q := fun e a w' => e = .normal ∧ (∃ u6 u7 u8 u9 u10 u11 u12 u13 u14 u15 u16 u17 u18 u19 u20 u21 u22 u23 u24 u25 u26 u27 u28 u29 u30, a = { tmps := #[Value.func (Fn.yield l) #[] #[], Value.pointer (some ⟨B1, o1, none⟩), Value.pointer (some ⟨B2, o2, none⟩), undef, Value.int IntKind.i64 (2 * (k : Int)), Value.int IntKind.i64 2, u6, u7, u8, u9, u10, u11, u12, u13, u14, u15, u16, u17, u18, u19, u20, u21, u22, u23, u24, u25, u26, u27, u28, u29, u30], defers := [] }) ∧ w' = wr.drew) ?_ ?_
        · gi_region
          all_goals rw [if_neg (by omega)]
          
          all_goals exact ⟨rfl, ⟨_, _, _, _, _, _, _, _, _, _, _, _, _, _, _, _, _, _, _, _, _, _, _, _, _, rfl⟩, rfl⟩
        rintro e a w' ⟨rfl, ⟨u6, u7, u8, u9, u10, u11, u12, u13, u14, u15, u16, u17, u18, u19, u20, u21, u22, u23, u24, u25, u26, u27, u28, u29, u30, rfl⟩, rfl⟩
        gi_wp2
        refine hR.mono ?_
        rintro e W3 (⟨rfl, hJ3, hk3⟩ | ⟨rfl, hJx3⟩)
        · have hd1 : W3.cell? ⟨B1, o1, none⟩ = some (.slice (some ⟨b, off, none⟩) len cap) := (hK1 _ _ hk3).trans hc1
          have hd2 : W3.cell? ⟨B2, o2, none⟩ = some (.int .i64 2) := (hK2 _ _ hk3).trans hc2
          gi_wp2
          go_roundw
          case rel => exact ⟨k + 1, by omega, by simp; omega, by rw [List.range_succ]; exact hJ3, hd1, hd2⟩
          case measure => simp [intOf]; omega
        · gi_wp2
          refine bodyPost_ret (results_none rfl _ _ _) rfl ?_
          exact ⟨⟨_, rfl⟩, .inr ⟨_, hJx3⟩⟩
      · obtain ⟨fn, tmps, assign, body, hy, hR⟩ := hY _ k wr.drew hD (by simp) hlt
        simp only [if_neg h2] at hy
        gi_wp2
        refine wpIn_mono (Q := fun e a w' => e = .normal ∧ (∃ u6 u7 u8 u9 u10 u11 u12 u13 u14 u15 u16 u17 u18 u19 u20 u21 u22 u23 u24 u25 u26 u27 u28 u29 u30, a = { tmps := #[Value.func (Fn.yield l) #[] #[], Value.pointer (some ⟨B1, o1, none⟩), Value.pointer (some ⟨B2, o2, none⟩), undef, Value.int IntKind.i64 (2 * (k : Int)), Value.int IntKind.i64 1, u6, u7, u8, u9, u10, u11, u12, u13, u14, u15, u16, u17, u18, u19, u20, u21, u22, u23, u24, u25, u26, u27, u28, u29, u30], defers := [] }) ∧ w' = wr.drew) ?_ ?_
        · gi_region
          all_goals rw [if_pos (by omega)]
          all_goals rw [show ((len - 2 * k : Nat) : Int) = 1 by omega]
          all_goals exact ⟨rfl, ⟨_, _, _, _, _, _, _, _, _, _, _, _, _, _, _, _, _, _, _, _, _, _, _, _, _, rfl⟩, rfl⟩
        rintro e a w' ⟨rfl, ⟨u6, u7, u8, u9, u10, u11, u12, u13, u14, u15, u16, u17, u18, u19, u20, u21, u22, u23, u24, u25, u26, u27, u28, u29, u30, rfl⟩, rfl⟩
        gi_wp2
        refine hR.mono ?_
        rintro e W3 (⟨rfl, hJ3, hk3⟩ | ⟨rfl, hJx3⟩)
        · have hd1 : W3.cell? ⟨B1, o1, none⟩ = some (.slice (some ⟨b, off, none⟩) len cap) := (hK1 _ _ hk3).trans hc1
          have hd2 : W3.cell? ⟨B2, o2, none⟩ = some (.int .i64 2) := (hK2 _ _ hk3).trans hc2
          gi_wp2
          go_roundw
          case rel => exact ⟨k + 1, by omega, by simp; omega, by rw [List.range_succ]; exact hJ3, hd1, hd2⟩
          case measure => simp [intOf]; omega
        · gi_wp2
          refine bodyPost_ret (results_none rfl _ _ _) rfl ?_
          exact ⟨⟨_, rfl⟩, .inr ⟨_, hJx3⟩⟩
    · gi_wp2
      go_end0
      exact ⟨⟨_, rfl⟩, .inl ⟨k, ⟨by omega, hk⟩, hJs⟩⟩
end Go.Proofs
end

section
set_option linter.unusedVariables false
namespace Go.Vi
open Go.Proofs Go.RowKit

theorem at_partC {w : World} {b off : Nat} {cs : List Value} (h : At w b off cs) (i n : Nat) : At w b (off + i) ((cs.take n).drop i) := by
  intro j v hv
  rw [List.getElem?_drop, List.getElem?_take] at hv
  split at hv
  · have := h (i + j) v hv
    rwa [← Nat.add_assoc] at this
  · cases hv

def chunkEl (es : List D) (i : Nat) : D := .sl .full 32 ((es.take (2 * i + 2)).drop (2 * i))

theorem iter_chunk {E : Env} (hP : E.P = Tryd.prog) (es : List D) (h0 : es ≠ []) (hb : es.length < 1000000000) : Iter E 60 [.ip (.sl .no 32 es) 0, .ip (.int .i64 2) 0] (m := (es.length + 1) / 2) (fun i => [chunkEl es i.1]) := by
  refine ⟨by rw [hP, Tryd.func60]; simp, fun g w vs n hn hl hr => ?_⟩
  obtain ⟨c1, c2, rfl, ⟨B1, o1, vs1, rfl, ⟨a, c, vsE, rfl, hc, hes, hrow, _⟩, hl1, ha1⟩, ⟨c3, c4, rfl, ⟨B2, o2, vs2, rfl, h2, hl2, ha2⟩, h4⟩⟩ := hr
  have h2 : vs2 = [.int .i64 2] := h2
  subst h2
  have h4 : c4 = [] := h4
  subst h4
  have hlen := es_length es hes
  have hpos : 0 < es.length := List.length_pos_iff.2 h0
  obtain ⟨b, off, rfl, hlb, hat⟩ := hrow (by intro e; subst e; simp at hlen; exact h0 (List.eq_nil_of_length_eq_zero (by omega)))
  have k1 : w.cell? ⟨B1, o1, none⟩ = some (.slice (some ⟨b, off, none⟩) es.length c) := ha1 0 _ rfl
  have k2 : w.cell? ⟨B2, o2, none⟩ = some (.int .i64 2) := ha2 0 _ rfl
  have hB1 : B1 < w.heap.size := by
    rcases Nat.lt_or_ge B1 w.heap.size with h | h
    · exact h
    · rw [hl B1 h] at hl1; simp at hl1
  have hB2 : B2 < w.heap.size := by
    rcases Nat.lt_or_ge B2 w.heap.size with h | h
    · exact h
    · rw [hl B2 h] at hl2; simp at hl2
  refine ⟨fun args w => (by rw [hP]; exact enters_of Tryd.func60 (by kernel_rfl) rfl args w), fun i => #[.slice (some ⟨b, off + 2 * i.1 * 32, none⟩) (if 2 * i.1 + 2 ≤ es.length then 2 else 1) (if 2 * i.1 + 2 ≤ es.length then 2 else 1)], fun i => ?_, ?_⟩
  · have hil : 2 * i.1 < es.length := by have := i.2; omega
    have hcl : ((es.take (2 * i.1 + 2)).drop (2 * i.1)).length = if 2 * i.1 + 2 ≤ es.length then 2 else 1 := by
      simp only [List.length_drop, List.length_take]
      split <;> omega
    refine ⟨_, [], rfl, ?_, rfl⟩
    show RepC g w (chunkEl es i.1) _
    unfold chunkEl
    refine ⟨some ⟨b, off + 2 * i.1 * 32, none⟩, (if 2 * i.1 + 2 ≤ es.length then 2 else 1), ((vsE.take ((2 * i.1 + 2) * 32)).drop (2 * i.1 * 32)), by rw [hcl], by rw [hcl]; exact Nat.le_refl _, es_part es (2 * i.1) (2 * i.1 + 2) hes, fun _ => ⟨b, _, rfl, ?_, at_partC hat _ _⟩, by simp only [OwnOk]; exact hcl.symm⟩
    have e1 := hlen
    have hlb2 : off + vsE.length ≤ g.lim b := hlb
    simp only [List.length_drop, List.length_take]
    omega
  · intro l J Jx W hW hJ hJx hY hJ0
    have kW1 : W.cell? ⟨B1, o1, none⟩ = some (.slice (some ⟨b, off, none⟩) es.length c) := (hW.cell (p := ⟨B1, o1, none⟩) hB1).trans k1
    have kW2 : W.cell? ⟨B2, o2, none⟩ = some (.int .i64 2) := (hW.cell (p := ⟨B2, o2, none⟩) hB2).trans k2
    let up : List Nat → List (Fin ((es.length + 1) / 2)) := fun l => l.filterMap fun i => if h : i < (es.length + 1) / 2 then some ⟨i, h⟩ else none
    have up_snoc : ∀ l i (h : i < (es.length + 1) / 2), up (l ++ [i]) = up l ++ [⟨i, h⟩] := fun l i h => by simp [up, h]
    rw [hP] at hY ⊢
    refine (Tryd.chunk1_in (FR none) n trivial rfl hn l W.heap.size B1 o1 B2 o2 b off es.length c (KpOf g w) hc hb (fun l W => (∀ i ∈ l, i < (es.length + 1) / 2) ∧ J (up l) W) (fun l W => Jx (up l) W)
      (fun A B h => h B1 o1 hB1 (by simp at hl1; omega)) (fun A B h => h B2 o2 hB2 (by simp at hl2; omega))
      (fun s A B row hs hg hr => ⟨hs.1, hJ _ A B row hs.2 hg hr⟩) ?_ W kW1 kW2 ⟨by simp, hJ0⟩).mono ?_
    · rintro pre i W1 ⟨hp, hj⟩ hpi hi
      have hlt : i < (es.length + 1) / 2 := by omega
      have hul : (up pre).length = pre.length := by
        have : ∀ l : List Nat, (∀ i ∈ l, i < (es.length + 1) / 2) → (up l).length = l.length := by
          intro l
          induction l with
          | nil => intro _; rfl
          | cons x r ih =>
            intro h
            have hx := h x (List.mem_cons_self ..)
            have := ih fun i hi => h i (List.mem_cons_of_mem _ hi)
            simp only [up, List.filterMap_cons, hx, dif_pos, List.length_cons]
            exact congrArg (· + 1) this
        exact this pre hp
      have := hY (up pre) ⟨i, hlt⟩ W1 hj (by rw [hul, hpi]; exact hlt)
      obtain ⟨fn, tmps, assign, body, hy, hR⟩ := this
      refine ⟨fn, tmps, assign, body, hy, hR.mono ?_⟩
      rintro e W' (⟨rfl, h1, h2⟩ | ⟨rfl, h1⟩)
      · refine .inl ⟨rfl, ⟨fun j hj => ?_, by rw [up_snoc pre i hlt]; exact h1⟩, h2⟩
        rcases List.mem_append.1 hj with h | h
        · exact hp j h
        · simp at h; subst h; exact hlt
      · exact .inr ⟨rfl, by rw [up_snoc pre i hlt]; exact h1⟩
    · rintro e W' ⟨hv, ⟨k, ⟨hk1, hk2⟩, _, hj⟩ | ⟨pre, hj⟩⟩
      · refine ⟨hv, .inl ⟨_, ?_, hj⟩⟩
        have hk : k = (es.length + 1) / 2 := by omega
        subst hk
        apply List.ext_getElem
        · have : ∀ m, m ≤ (es.length + 1) / 2 → (up (List.range m)).length = m := by
            intro m
            induction m with
            | zero => intro _; rfl
            | succ m ih => intro h; rw [List.range_succ, up_snoc _ m (by omega), List.length_append, ih (by omega)]; rfl
          rw [this _ (Nat.le_refl _)]; simp
        · intro j h1 h2
          have : ∀ m, m ≤ (es.length + 1) / 2 → ∀ j (hj : j < m) (hx : j < (es.length + 1) / 2), (up (List.range m))[j]? = some ⟨j, hx⟩ := by
            intro m
            induction m with
            | zero => intro _ j hj; omega
            | succ m ih =>
              intro h j hj hx
              have hlen' : (up (List.range m)).length = m := by
                clear ih hj hx
                have : ∀ m, m ≤ (es.length + 1) / 2 → (up (List.range m)).length = m := by
                  intro m
                  induction m with
                  | zero => intro _; rfl
                  | succ m ih => intro h; rw [List.range_succ, up_snoc _ m (by omega), List.length_append, ih (by omega)]; rfl
                exact this m (by omega)
              rw [List.range_succ, up_snoc _ m (by omega)]
              rcases Nat.lt_or_ge j m with h' | h'
              · rw [List.getElem?_append_left (by omega)]
                exact ih (by omega) j h' hx
              · obtain rfl : j = m := by omega
                rw [List.getElem?_append_right (by omega), hlen']
                simp
          have hx : j < (es.length + 1) / 2 := by simpa using h2
          have := this _ (Nat.le_refl _) j hx hx
          rw [List.getElem?_eq_getElem h1] at this
          simp at this
          rw [this]
          simp
      · exact ⟨hv, .inr ⟨_, trivial, hj⟩⟩
end Go.Vi
end

section
/-
  A FUNCTION WALKED IN THE KIT's OWN WAY, its arguments made even.
-/
set_option linter.unusedVariables false
namespace Go.Vi
open Go.RowKit

theorem contract_callsT {E : Env} {f : FuncId} {p : List D → PF} {ts : List NT} (hT : ∀ args s nm, E.T f args s nm = seeR p (normL ts args) s)
    (hc : ∀ xs, (p xs).vc → ∀ g w vs, (∀ b, w.heap.size ≤ b → g.lim b = 0) → RepL g w xs vs → Calls E.P f vs.toArray w fun e w' => ∃ v, e = .returned v ∧ Rep (g.newer w w') w' (p xs).val v ∧ Below w.heap.size w w') : Contract E f := by
  refine ⟨fun args s s' nm h hv => ?_, fun args s nm g w F vs hv hg hi hF hr => ?_⟩
  · simp only [hT, seeR] at hv ⊢
    cases h1 : seeL s (normL ts args) with
    | none => simp [h1, bad] at hv
    | some zs =>
      simp only [h1, seeL_mono h h1] at hv ⊢
      exact ⟨hv, trivial, trivial, trivial⟩
  · simp only [hT, seeR] at hv ⊢
    have hr := normL_rep (ts := ts) hr
    generalize normL ts args = args at hv hr ⊢
    cases hse : seeL s args with
    | none => simp [hse, bad] at hv
    | some zs =>
      simp only [hse] at hv ⊢
      have hr1 : RepL (g.lent s w (hasB args)) w zs vs := seeL_rep hi hse (fun h => h) hr
      refine (hc zs hv.1 _ w vs (fun b hb => ?_) hr1).mono ?_
      · simp only [Gh.lent]
        split
        · exact rowSize_none hb
        · exact hi.lim b hb
      rintro e w' ⟨v, rfl, hrep, hb⟩
      have hi' := inv_newer hi hb
      refine ⟨v, g.newer w w', rfl, ?_, hi'.less fun i h => h.1, keeps_newer hi hb⟩
      by_cases hB : hasB args = true
      · exact flat_repV (hv.2 hB) hrep
      · refine Rep.ext (g := (g.lent s w (hasB args)).newer w w') (w := w') ⟨fun b => ?_, fun _ _ _ => rfl, fun _ _ h => by simp [Gh.newer, Gh.lent] at h, fun _ _ _ _ h => by simp [Gh.newer, Gh.lent] at h, fun _ _ h => by simp [Gh.newer, Gh.lent] at h⟩ hrep
        simp only [Gh.newer, Gh.lent, hB, false_and, if_false, Bool.false_eq_true]
        exact Nat.le_refl _
end Go.Vi
end

section
set_option linter.unusedVariables false
set_option linter.unusedSimpArgs false
namespace Go.Proofs
open Go.RowKit Go.Shelf
attribute [local go_sem] Oper.semAt_some

set_option maxRecDepth 100000 in
set_option maxHeartbeats 2000000 in
theorem Tryd.back1_in (F : Fence) (n : Nat) (h52 : F.fn 52) (hro : F.round = none) (hn : 1 ≤ n) (l B1 o1 b off len cap : Nat) (a : Option Addr) (c0 c1 : Nat → Value) (Kp : World → World → Prop) (hlen : len ≤ cap) (hb : len < 1000000000) (hsome : len ≠ 0 → a = some ⟨b, off, none⟩) (J Jx : List Nat → World → Prop)
    (hK1 : ∀ A B, Kp A B → B.cell? ⟨B1, o1, none⟩ = A.cell? ⟨B1, o1, none⟩) (hK2 : ∀ A B, Kp A B → ∀ j, j < 2 * len → B.cell? ⟨b, off + j, none⟩ = A.cell? ⟨b, off + j, none⟩)
    (hY : ∀ pre i W, J pre W → pre.length + 1 + i = len → YieldAt F (n - 1) Tryd.prog l #[.int .i64 (i : Nat), .agg #[c0 i, c1 i]] W fun e W' =>
      (e = .returned (.bool true) ∧ J (pre ++ [i]) W' ∧ Kp W W') ∨ (e = .returned (.bool false) ∧ Jx (pre ++ [i]) W'))
    (W : World) (h1 : W.cell? ⟨B1, o1, none⟩ = some (.slice a len cap)) (hc : ∀ i, i < len → W.cell? ⟨b, off + i * 2, none⟩ = some (c0 i) ∧ W.cell? ⟨b, off + i * 2 + 1, none⟩ = some (c1 i)) (h0 : J [] W) :
    CallsIn F n Tryd.prog 52 #[.func (.yield l) #[] #[], .pointer (some ⟨B1, o1, none⟩)] W fun e W' => (∃ v, e = .returned v) ∧
      (J ((List.range len).reverse) W' ∨ (∃ k, k < len ∧ Jx (((List.range len).drop k).reverse) W')) := by
  refine callsIn_of_wp Tryd.func52 rfl h52 ?_ hro
  simp only [Tryd.ntmps52, List.size_toArray, List.length_cons, List.length_nil, Nat.reduceAdd, Nat.reduceSub, Array.replicate_succ, Array.replicate_zero, List.push_toArray, List.append_toArray, List.nil_append, List.cons_append]
  gi_wp2
  gi_loopw [3] (fun i wr => ∃ k : Nat, k ≤ len ∧ i = .int .i64 ((k : Int) - 1) ∧ J (((List.range len).drop k).reverse) wr ∧ wr.cell? ⟨B1, o1, none⟩ = some (.slice a len cap) ∧ (∀ i, i < len → wr.cell? ⟨b, off + i * 2, none⟩ = some (c0 i) ∧ wr.cell? ⟨b, off + i * 2 + 1, none⟩ = some (c1 i)))
    (fun i _ => (intOf i + 1).toNat)
  case atStart => exact ⟨len, Nat.le_refl _, rfl, by rw [List.drop_of_length_le (by simp)]; exact h0, h1, hc⟩
  case round =>
    obtain ⟨k, hk, rfl, hJs, hc1, hcc⟩ := hrel
    cases k with
    | zero =>
      gi_wp2
      go_end0
      exact ⟨⟨_, rfl⟩, .inl (by simpa using hJs)⟩
    | succ k =>
      have ha := hsome (by omega)
      subst ha
      have hd : ((List.range len).drop k).reverse = ((List.range len).drop (k + 1)).reverse ++ [k] := by
        have : (List.range len).drop k = k :: (List.range len).drop (k + 1) := by
          rw [List.drop_eq_getElem_cons (by simp; omega)]
          simp
        rw [this, List.reverse_cons]
      obtain ⟨fn, tmps, assign, body, hy, hR⟩ := hY _ k wr hJs (by simp; omega)
      obtain ⟨hx0, hx1⟩ := hcc k (by omega)
      have hi : ((k + 1 : Nat) : Int) - 1 = (k : Int) := by omega
      rw [hi]
      gi_wp2
      refine hR.mono ?_
      rintro e W3 (⟨rfl, hJ3, hk3⟩ | ⟨rfl, hJx3⟩)
      · have hd1 : W3.cell? ⟨B1, o1, none⟩ = some (.slice (some ⟨b, off, none⟩) len cap) := (hK1 _ _ hk3).trans hc1
        have hcc3 : ∀ i, i < len → W3.cell? ⟨b, off + i * 2, none⟩ = some (c0 i) ∧ W3.cell? ⟨b, off + i * 2 + 1, none⟩ = some (c1 i) := fun i hi =>
          ⟨(hK2 _ _ hk3 (i * 2) (by omega)).trans (hcc i hi).1, (hK2 _ _ hk3 (i * 2 + 1) (by omega)).trans (hcc i hi).2⟩
        gi_wp2
        go_roundw
        case rel => exact ⟨k, by omega, rfl, by rw [hd]; exact hJ3, hd1, hcc3⟩
        case measure => simp [intOf]
      · gi_wp2
        refine bodyPost_ret (results_none rfl _ _ _) rfl ?_
        exact ⟨⟨_, rfl⟩, .inr ⟨k, by omega, by rw [hd]; exact hJx3⟩⟩
end Go.Proofs
namespace Go.Vi.CM
open Go.Proofs Go.RowKit
def upB (m : Nat) (l : List Nat) : List (Fin m) := l.filterMap fun i => if h : i < m then some ⟨m - 1 - i, by omega⟩ else none
theorem upB_snoc {m : Nat} (l : List Nat) (i : Nat) (h : i < m) : upB m (l ++ [i]) = upB m l ++ [⟨m - 1 - i, by omega⟩] := by simp [upB, h]
theorem upB_drop {m : Nat} : ∀ (d k : Nat), k + d = m → upB m (((List.range m).drop k).reverse) = (List.finRange m).take d
  | 0, k, h => by
    obtain rfl : k = m := by omega
    rw [List.drop_of_length_le (by simp)]; rfl
  | d + 1, k, h => by
    have hk : k < m := by omega
    have hd : ((List.range m).drop k).reverse = ((List.range m).drop (k + 1)).reverse ++ [k] := by
      have : (List.range m).drop k = k :: (List.range m).drop (k + 1) := by
        rw [List.drop_eq_getElem_cons (by simp; omega)]
        simp
      rw [this, List.reverse_cons]
    rw [hd, upB_snoc _ k hk, upB_drop d (k + 1) (by omega), List.take_add_one]
    congr 1
    have hdm : d < m := by omega
    simp [hdm]
    omega
theorem iter_back (l : List OutP) (hb : l.length < 1000000000) : IterP E 52 [.ip (.sl .no 2 (outsD l)) 0] (m := l.length) (fun i => [.int .i64 ((l.length - 1 - i.1 : Nat) : Int), outD (l.getD (l.length - 1 - i.1) default)]) := by
  refine ⟨by rw [show E.P = Tryd.prog from rfl, Tryd.func52]; simp, fun g w vs n hn hl hr => ?_⟩
  obtain ⟨c1, c2, rfl, ⟨B1, o1, vs1, rfl, ⟨a, c, vsE, rfl, hc, hes, hrow, _⟩, hl1, ha1⟩, h4⟩ := hr
  have h4 : c2 = [] := h4
  subst h4
  have hlen := es_length (outsD l) hes
  rw [outsD_length] at hlen hc
  have hsome : ∃ b off, (l.length ≠ 0 → a = some ⟨b, off, none⟩) ∧ (l.length ≠ 0 → off + vsE.length ≤ g.lim b ∧ At w b off vsE) := by
    by_cases h0 : l.length = 0
    · exact ⟨0, 0, fun h => absurd h0 h, fun h => absurd h0 h⟩
    · obtain ⟨b, off, e, h1, h2⟩ := hrow (by intro e; subst e; simp at hlen; omega)
      exact ⟨b, off, fun _ => e, fun _ => ⟨h1, h2⟩⟩
  obtain ⟨b, off, hs1, hs2⟩ := hsome
  have k1 : w.cell? ⟨B1, o1, none⟩ = some (.slice a l.length c) := by
    have := ha1 0 _ rfl
    rw [outsD_length] at this
    exact this
  have hB1 : B1 < w.heap.size := by
    rcases Nat.lt_or_ge B1 w.heap.size with h | h
    · exact h
    · rw [hl B1 h] at hl1; simp at hl1
  have hB : l.length ≠ 0 → b < w.heap.size := fun h0 => by
    obtain ⟨h1, h2⟩ := hs2 h0
    rcases Nat.lt_or_ge b w.heap.size with h | h
    · exact h
    · rw [hl b h] at h1; omega
  let c0 : Nat → Value := fun i => vsE.getD (i * 2) undef
  let c1 : Nat → Value := fun i => vsE.getD (i * 2 + 1) undef
  have hcel : ∀ i, i < l.length → w.cell? ⟨b, off + i * 2, none⟩ = some (c0 i) ∧ w.cell? ⟨b, off + i * 2 + 1, none⟩ = some (c1 i) := fun i hi => by
    obtain ⟨h1, h2⟩ := hs2 (by omega)
    have q0 : vsE[i * 2]? = some (c0 i) := by simp only [c0, List.getD]; rw [List.getElem?_eq_getElem (by omega)]; rfl
    have q1 : vsE[i * 2 + 1]? = some (c1 i) := by simp only [c1, List.getD]; rw [List.getElem?_eq_getElem (by omega)]; rfl
    exact ⟨h2 _ _ q0, h2 _ _ q1⟩
  refine ⟨fun args w => enters_of Tryd.func52 (by kernel_rfl) rfl args w, fun i => #[.int .i64 ((l.length - 1 - i.1 : Nat) : Int), .agg #[c0 (l.length - 1 - i.1), c1 (l.length - 1 - i.1)]], fun i => ?_, ?_⟩
  · have hil : l.length - 1 - i.1 < l.length := by have := i.2; omega
    obtain ⟨pre, mid, post, e', hpl, hm, hr⟩ := es_at (outsD l) (l.length - 1 - i.1) (by rw [outsD_length]; exact hil) hes
    have he : (outsD l)[l.length - 1 - i.1]'(by rw [outsD_length]; exact hil) = outD (l.getD (l.length - 1 - i.1) default) := by
      rw [← outsD_get l _ hil]
      simp [List.getD, outsD_length, hil]
    rw [he] at hr
    have hmid : mid = [c0 (l.length - 1 - i.1), c1 (l.length - 1 - i.1)] := by
      match mid, hm with
      | [x, y], _ =>
        have q0 : vsE[(l.length - 1 - i.1) * 2]? = some x := by
          rw [e', List.append_assoc, List.getElem?_append_right (by omega), hpl, Nat.sub_self]; rfl
        have q1 : vsE[(l.length - 1 - i.1) * 2 + 1]? = some y := by
          rw [e', List.append_assoc, List.getElem?_append_right (by omega), hpl, Nat.add_sub_cancel_left]; rfl
        simp [c0, c1, List.getD, q0, q1]
    refine ⟨_, [_], rfl, rfl, _, [], rfl, ⟨mid, by rw [hmid], ?_⟩, rfl⟩
    exact RepC.ext (g := g.bare) (g' := g) ⟨fun _ => Nat.le_refl _, fun _ _ _ => rfl, fun _ _ h => by simp [Gh.bare] at h, fun _ _ _ _ h => by simp [Gh.bare] at h, fun _ _ h => h⟩ _ hr
  · intro y J Jx W hW hJ hJx hY hJ0
    have kW1 : W.cell? ⟨B1, o1, none⟩ = some (.slice a l.length c) := (hW.cell (p := ⟨B1, o1, none⟩) hB1).trans k1
    have kWc : ∀ i, i < l.length → W.cell? ⟨b, off + i * 2, none⟩ = some (c0 i) ∧ W.cell? ⟨b, off + i * 2 + 1, none⟩ = some (c1 i) := fun i hi =>
      ⟨(hW.cell (p := ⟨b, off + i * 2, none⟩) (hB (by omega))).trans (hcel i hi).1, (hW.cell (p := ⟨b, off + i * 2 + 1, none⟩) (hB (by omega))).trans (hcel i hi).2⟩
    refine (Tryd.back1_in (FR none) n trivial rfl hn y B1 o1 b off l.length c a c0 c1 (KpOf g w) hc hb hs1 (fun p W => (∀ i ∈ p, i < l.length) ∧ J (upB l.length p) W) (fun p W => Jx (upB l.length p) W)
      (fun A B h => h B1 o1 hB1 (by simp at hl1; omega)) (fun A B h j hj => h b (off + j) (hB (by omega)) (by have := (hs2 (by omega)).1; omega)) ?_ W kW1 kWc ⟨by simp, hJ0⟩).mono ?_
    · rintro pre i W1 ⟨hp, hj⟩ hi
      have hlt : i < l.length := by omega
      have hul : (upB l.length pre).length = pre.length := by
        have : ∀ q : List Nat, (∀ i ∈ q, i < l.length) → (upB l.length q).length = q.length := by
          intro q
          induction q with
          | nil => intro _; rfl
          | cons x r ih =>
            intro h
            have hx := h x (List.mem_cons_self ..)
            have := ih fun i hi => h i (List.mem_cons_of_mem _ hi)
            simp only [upB, List.filterMap_cons, hx, dif_pos, List.length_cons]
            exact congrArg (· + 1) this
        exact this pre hp
      have := hY (upB l.length pre) ⟨l.length - 1 - i, by omega⟩ W1 hj (by rw [hul]; omega)
      have ei : l.length - 1 - (l.length - 1 - i) = i := by omega
      simp only [ei] at this
      obtain ⟨fn, tmps, assign, body, hy, hR⟩ := this
      refine ⟨fn, tmps, assign, body, hy, hR.mono ?_⟩
      rintro e W' (⟨rfl, h1, h2⟩ | ⟨rfl, h1⟩)
      · refine .inl ⟨rfl, ⟨fun j hj => ?_, by rw [upB_snoc pre i hlt]; exact h1⟩, h2⟩
        rcases List.mem_append.1 hj with h | h
        · exact hp j h
        · simp at h; subst h; exact hlt
      · exact .inr ⟨rfl, by rw [upB_snoc pre i hlt]; exact h1⟩
    · rintro e W' ⟨hv, ⟨_, hj⟩ | ⟨k, hk, hj⟩⟩
      · refine ⟨hv, .inl ⟨_, ?_, hj⟩⟩
        have := upB_drop (m := l.length) l.length 0 (by omega)
        rw [List.drop_zero] at this
        rw [this, List.take_of_length_le (by simp)]
      · exact ⟨hv, .inr ⟨_, ⟨l.length - k, upB_drop (l.length - k) k (by omega)⟩, hj⟩⟩
end Go.Vi.CM
namespace Go.Proofs
open Go.RowKit Go.Shelf
attribute [local go_sem] Oper.semAt_some
set_option maxHeartbeats 1000000 in
theorem Tryd.back_in (F : Fence) (n : Nat) (h5 : F.fn 44) (hro : F.round = none) (a : Option Addr) (len cap : Nat) (w : World) :
    CallsIn F n Tryd.prog 44 #[.slice a len cap] w fun e w' => e = .returned (.func (.func 52) #[] #[.pointer (some ⟨w.heap.size, 0, none⟩)]) ∧ w' = w.alloc (.cells #[.slice a len cap] 59) := by
  refine callsIn_of_wp Tryd.func44 rfl h5 ?_ hro
  simp only [Tryd.ntmps44, List.size_toArray, List.length_cons, List.length_nil, Nat.reduceAdd, Nat.reduceSub, Array.replicate_succ, Array.replicate_zero, List.push_toArray, List.append_toArray, List.nil_append, List.cons_append]
  gi_wp2
  go_ret
  exact ⟨rfl, rfl⟩
end Go.Proofs
namespace Go.Vi.CM
open Go.Proofs Go.RowKit
theorem c_back : Contract E 44 := by
  refine contract_callsT (p := sp_back 52) (fun args s nm => spec_back args s nm) ?_
  intro xs hv g w vs hl0 hr
  unfold sp_back at hv ⊢
  split at hv
  case h_2 => exact hv.elim
  rename_i es
  obtain ⟨v1, r1, rfl, ⟨a, c, vE, e1, hc, hes, hrow, _⟩, e3⟩ := hr
  have e3 : r1 = [] := e3
  simp only [List.cons.injEq, and_true] at e1
  subst e1 e3
  refine (callsIn_wide (n := 0)).1 ((Tryd.back_in Fence.wide 0 trivial rfl a es.length c w).mono ?_)
  rintro e w' ⟨rfl, rfl⟩
  have hb : Below w.heap.size w (w.alloc (.cells #[.slice a es.length c] 59)) := (Below.refl _ w).alloc (Nat.le_refl _) _
  refine ⟨_, rfl, ?_, hb⟩
  have hx : Ext g w (g.newer w (w.alloc (.cells #[.slice a es.length c] 59))) _ := Gh.newer_ext hl0 hb
  have c1 : (w.alloc (.cells #[.slice a es.length c] 59)).heap[w.heap.size]? = some (.cells #[.slice a es.length c] 59) := World.alloc_heap_new w _
  generalize (w.alloc (.cells #[.slice a es.length c] 59)) = w' at hx c1
  refine ⟨[.pointer (some ⟨w.heap.size, 0, none⟩)], rfl, [.pointer (some ⟨w.heap.size, 0, none⟩)], [], rfl,
    ⟨w.heap.size, 0, [.slice a es.length c], rfl, ⟨a, c, vE, rfl, hc, RepEs.ext hx.bare es hes, Row.ext (g := g.bare) (g' := (g.newer w w').bare) hx.bare hrow, trivial⟩, ?_, ?_⟩, rfl⟩
  · simp [Gh.newer, rowSize, c1]
  · intro i v hv
    cases i with
    | zero => simp at hv; subst hv; simp [World.cell?, c1]
    | succ i => simp at hv
end Go.Vi.CM
end

section
/-
  TEXTS OF BYTES, and their parts.
-/
set_option linter.unusedVariables false
namespace Go.Vi
theorem strN_extract (xs : List Int) (i j : Nat) : (strOfNums xs).extract i j = strOfNums ((xs.take j).drop i) := by
  unfold strOfNums
  rw [ByteArray.extract_mk]
  congr 1
  apply Array.ext'
  simp [List.map_drop, List.map_take, List.drop_take]
theorem bytesOf_strN {xs : List Int} (h : bytes xs) : bytesOf (strOfNums xs) = xs := by
  apply List.ext_getElem
  · simp [bytesOf, strOfNums]
  · intro i h1 h2
    have := h xs[i] (List.getElem_mem h2)
    simp [bytesOf, strOfNums]
    omega
theorem bytes_part {xs : List Int} (h : bytes xs) (i j : Nat) : bytes ((xs.take j).drop i) := fun x hx => h x (List.mem_of_mem_take (List.mem_of_mem_drop hx))
def markB : List Int := [106, 36, 170, 33, 169, 237]
theorem mark_str : (⟨#[106, 36, 170, 33, 169, 237]⟩ : ByteArray) = strOfNums markB := by decide
theorem mark_dec {xs : List Int} (h : bytes xs) : decide ((strOfNums xs).extract 0 6 = strOfNums markB) = decide (xs.take 6 = markB) := by
  rw [strN_extract, List.drop_zero]
  apply decide_eq_decide.2
  exact strN_inj (by simpa using bytes_part h 0 6) (by intro x hx; simp [markB] at hx; omega)
theorem lastMark_none {l : List OutP} (h : ∀ j, j < l.length → markedP (l.getD j default).script = false) : lastMark l = none := by
  induction l with
  | nil => rfl
  | cons x r ih =>
    have h0 := h 0 (by simp)
    have hr := ih fun j hj => by simpa using h (j + 1) (by simpa using hj)
    simp only [List.getD_cons_zero] at h0
    simp only [lastMark, hr, h0, Bool.false_eq_true, if_false]
theorem lastMark_some {l : List OutP} {k : Nat} (hk : k < l.length) (hm : markedP (l.getD k default).script = true) (h : ∀ j, k < j → j < l.length → markedP (l.getD j default).script = false) : lastMark l = some (((l.getD k default).script.drop 6).take 32) := by
  induction l generalizing k with
  | nil => simp at hk
  | cons x r ih =>
    cases k with
    | zero =>
      have hr : lastMark r = none := lastMark_none fun j hj => by simpa using h (j + 1) (by omega) (by simpa using hj)
      simp only [List.getD_cons_zero] at hm ⊢
      simp only [lastMark, hr, hm, if_true]
    | succ k =>
      have := ih (k := k) (by simpa using hk) (by simpa using hm) fun j h1 h2 => by simpa using h (j + 1) (by omega) (by simpa using h2)
      simp only [List.getD_cons_succ]
      simp only [lastMark, this]
end Go.Vi
end

section
set_option linter.unusedVariables false
set_option linter.unusedSimpArgs false
set_option maxHeartbeats 0
set_option maxRecDepth 20000
namespace Go.Vi.CM
open Go.Proofs

theorem c_hp2 : Contract E 53 := by
  refine contract_seeT hE hgl (show E.P.funcs[53]? = some Tryd.f53 from Tryd.func53) rfl (p := sp_hp2) (fun _ _ _ => rfl) ?_
  intro args hv
  unfold sp_hp2 at hv ⊢
  split at hv
  case h_2 => exact hv.elim
  rename_i a b
  refine ⟨by simp, Nat.le_of_ble_eq_true rfl, ?_⟩
  simp only [givesIf] at hv
  obtain ⟨h6, ha⟩ := hv
  have d1 : decide (((b.size : Nat) : Int) ≤ ((a.size : Nat) : Int)) = true := decide_eq_true (by omega)
  have e1 : a.extract (Int.toNat 0) (((b.size : Nat) : Int)).toNat = a.extract 0 6 := by rw [h6]; rfl
  simp (config := {dsimp := false}) only [↓vp0, vz, vn, nq, tys, cellD, wideIR, if_true, if_false, implies_true, forall_const, ne_eq, reduceIte, reduceCtorEq, Nat.reduceEqDiff, Nat.reduceAdd, Nat.reduceMul, Nat.reduceLT, Nat.reduceSub, Nat.reduceLeDiff, Nat.reduceBNe, Nat.reduceBEq, Nat.reduceBeqDiff, List.range, List.range.loop, gl0, Tryd.ntmps53, Tryd.results53, d1, e1, givesIf]
  exact ⟨Int.le_refl _, by omega, by omega⟩
theorem c_hasPrefix : Contract E 45 := by
  refine contract_seeT hE hgl (show E.P.funcs[45]? = some Tryd.f45 from Tryd.func45) rfl (p := sp_hasPrefix) (fun _ _ _ => rfl) ?_
  intro args hv
  unfold sp_hasPrefix at hv ⊢
  split at hv
  case h_2 => exact hv.elim
  rename_i a b
  refine ⟨by simp, Nat.le_of_ble_eq_true rfl, ?_⟩
  simp only [givesIf] at hv
  simp (config := {dsimp := false}) only [↓vp0, vz, vn, nq, tys, cellD, wideIR, if_true, if_false, implies_true, forall_const, ne_eq, reduceIte, reduceCtorEq, Nat.reduceEqDiff, Nat.reduceAdd, Nat.reduceMul, Nat.reduceLT, Nat.reduceSub, Nat.reduceLeDiff, Nat.reduceBNe, Nat.reduceBEq, Nat.reduceBeqDiff, List.range, List.range.loop, gl0, Tryd.ntmps45, Tryd.results45, PF.toR, givesIf, spec_hp2, sp_hp2, c_hp2, b_hp2]
  exact hv
theorem c_gcommit : Contract E 27 := by
  refine contract_seeT hE hgl (show E.P.funcs[27]? = some Tryd.f27 from Tryd.func27) rfl (p := sp_gcommit) (fun _ _ _ => rfl) ?_
  intro args hv
  unfold sp_gcommit at hv ⊢
  split at hv
  case h_2 => exact hv.elim
  rename_i h0 hp hr h1 h2 h3 es
  refine ⟨by simp, Nat.le_of_ble_eq_true rfl, ?_⟩
  simp only [givesIf] at hv
  obtain ⟨hhd, l, rfl, hok, hl⟩ := hv
  simp only [txs_D]
  cases l with
  | nil =>
    simp (config := {dsimp := false}) only [↓vp0, vz, vn, nq, tys, cellD, wideIR, if_true, if_false, implies_true, forall_const, ne_eq, reduceIte, reduceCtorEq, Nat.reduceEqDiff, Nat.reduceAdd, Nat.reduceMul, Nat.reduceLT, Nat.reduceSub, Nat.reduceLeDiff, Nat.reduceBNe, Nat.reduceBEq, Nat.reduceBeqDiff, List.range, List.range.loop, gl0, Tryd.ntmps27, Tryd.results27, show txsD [] = [] from rfl, show decide (((0 : Nat) : Int) = 0) = true from rfl, commitP, hashV, givesIf]
    all_goals rfl
  | cons t r =>
    have ht := hok t (List.mem_cons_self ..)
    have d0 : decide (((r.length + 1 : Nat) : Int) = 0) = false := decide_eq_false (by omega)
    simp (config := {dsimp := false}) only [↓vp0, vz, vn, nq, tys, cellD, wideIR, if_true, if_false, implies_true, forall_const, ne_eq, reduceIte, reduceCtorEq, Nat.reduceEqDiff, Nat.reduceAdd, Nat.reduceMul, Nat.reduceLT, Nat.reduceSub, Nat.reduceLeDiff, Nat.reduceBNe, Nat.reduceBEq, Nat.reduceBeqDiff, List.range, List.range.loop, gl0, Tryd.ntmps27, Tryd.results27, PF.toR, gives, show txsD (t :: r) = txD t :: txsD r from rfl, txD, d0, show Int.toNat 0 = 0 from rfl, List.getD_cons_zero, commitP, spec_back, sp_back, c_back, b_back]
    refine ⟨Int.le_refl _, by omega, ?_⟩
    refine rangeF [(17, .fn 52 [.ip (.sl .no 2 (outsD t.outs)) 0]), (2, .bp 4 0), (3, .bp 8 0)] ⟨[(4, .arr .u8 32 (List.replicate 32 0)), (8, .bool false)], [], 52⟩ (fun i => markedP (t.outs.getD (t.outs.length - 1 - i.1) default).script = false) (iter_back t.outs ht.mo) rfl (fun i => rfl) ⟨rfl, rfl⟩ rfl ?_ ?_ ?_
    · exact ⟨⟨wkD_eq rfl, rfl, wkD_eq rfl, rfl, wkD_eq rfl, rfl, trivial⟩, ⟨rfl, Nat.le_of_ble_eq_true rfl, rfl, rfl, Nat.le_of_ble_eq_true rfl, rfl, trivial⟩, trivial⟩
    · intro i
      have hi : t.outs.length - 1 - i.1 < t.outs.length := by have := i.2; omega
      have hx := ht.outs _ (getD_memI hi)
      obtain ⟨x, hxe⟩ : ∃ x, t.outs.getD (t.outs.length - 1 - i.1) default = x := ⟨_, rfl⟩
      rw [hxe] at hx ⊢
      have hsc := hx.script
      by_cases hlen : 38 ≤ x.script.length
      · have d1 : decide ((38 : Int) ≤ (((strOfNums x.script).size : Nat) : Int)) = true := decide_eq_true (by rw [strN_size]; omega)
        have mk := mark_dec hsc.1
        simp (config := {dsimp := false}) only [↓vp0, vz, vn, nq, tys, cellD, wideIR, if_true, if_false, implies_true, forall_const, ne_eq, reduceIte, reduceCtorEq, Nat.reduceEqDiff, Nat.reduceAdd, Nat.reduceMul, Nat.reduceLT, Nat.reduceSub, Nat.reduceLeDiff, Nat.reduceBNe, Nat.reduceBEq, Nat.reduceBeqDiff, List.range, List.range.loop, gl0, Tryd.ntmps27, Tryd.results27, opsOf, outD, vb, PF.toR, givesIf, d1, mark_str, mk, spec_hasPrefix, sp_hasPrefix, c_hasPrefix, b_hasPrefix]
        have hcut : bytesOf ((strOfNums x.script).extract (Int.toNat 6) (Int.toNat 38)) = (x.script.drop 6).take 32 := by
          rw [show Int.toNat 6 = 6 from rfl, show Int.toNat 38 = 38 from rfl, strN_extract, bytesOf_strN (bytes_part hsc.1 6 38), List.drop_take]
        have hcl : ((x.script.drop 6).take 32).length = 32 := by simp only [List.length_take, List.length_drop]; omega
        rw [hcut]
        refine ⟨⟨trivial, ⟨rfl, Nat.le_of_ble_eq_true rfl, rfl, rfl, Nat.le_of_ble_eq_true rfl, rfl, trivial⟩, trivial⟩, by rw [strN_size]; rfl, by rw [strN_size]; omega, fun hm => ⟨by decide, by decide, by rw [strN_size]; omega, by rw [hcl]; exact Nat.le_refl _, ⟨[(4, .arr .u8 32 ((x.script.drop 6).take 32)), (8, .bool true)], [], 52⟩, rfl, ⟨trivial, ⟨?_, Nat.le_of_ble_eq_true rfl, rfl, rfl, Nat.le_of_ble_eq_true rfl, rfl, trivial⟩, trivial⟩, fun hA => ?_⟩, fun hm => ⟨⟨trivial, ⟨rfl, Nat.le_of_ble_eq_true rfl, rfl, rfl, Nat.le_of_ble_eq_true rfl, rfl, trivial⟩, trivial⟩, ?_⟩⟩
        · show some _ = some _
          rw [List.take_of_length_le (by rw [hcl]; exact Nat.le_refl _)]
        · have hmk : markedP x.script = true := by
            have h6 : x.script.take 6 = markB := of_decide_eq_true hm
            simp only [markedP]
            rw [decide_eq_true hlen, decide_eq_true (show x.script.take 6 = [106, 36, 170, 33, 169, 237] from h6)]; rfl
          have hl : lastMark t.outs = some ((x.script.drop 6).take 32) := by
            have := lastMark_some hi (by rw [hxe]; exact hmk) fun j h1 h2 => by
              have := hA ⟨t.outs.length - 1 - j, by omega⟩ (show t.outs.length - 1 - j < i.1 by have := i.2; omega)
              have e : t.outs.length - 1 - (t.outs.length - 1 - j) = j := by omega
              simpa only [e] using this
            rw [hxe] at this
            exact this
          simp (config := {dsimp := false}) only [↓vp0, vz, vn, nq, tys, cellD, wideIR, if_true, if_false, implies_true, forall_const, ne_eq, reduceIte, reduceCtorEq, Nat.reduceEqDiff, Nat.reduceAdd, Nat.reduceMul, Nat.reduceLT, Nat.reduceSub, Nat.reduceLeDiff, Nat.reduceBNe, Nat.reduceBEq, Nat.reduceBeqDiff, List.range, List.range.loop, gl0, Tryd.ntmps27, Tryd.results27, commitP, hl, hashV]
          all_goals rfl
        · have h6 : ¬ x.script.take 6 = markB := of_decide_eq_false hm
          simp only [markedP]
          rw [decide_eq_false (show ¬ x.script.take 6 = [106, 36, 170, 33, 169, 237] from h6), Bool.and_false]
      · have d1 : decide ((38 : Int) ≤ (((strOfNums x.script).size : Nat) : Int)) = false := decide_eq_false (by rw [strN_size]; omega)
        simp (config := {dsimp := false}) only [↓vp0, vz, vn, nq, tys, cellD, wideIR, if_true, if_false, implies_true, forall_const, ne_eq, reduceIte, reduceCtorEq, Nat.reduceEqDiff, Nat.reduceAdd, Nat.reduceMul, Nat.reduceLT, Nat.reduceSub, Nat.reduceLeDiff, Nat.reduceBNe, Nat.reduceBEq, Nat.reduceBeqDiff, List.range, List.range.loop, gl0, Tryd.ntmps27, Tryd.results27, opsOf, outD, vb, PF.toR, givesIf, d1]
        exact ⟨⟨trivial, ⟨rfl, Nat.le_of_ble_eq_true rfl, rfl, rfl, Nat.le_of_ble_eq_true rfl, rfl, trivial⟩, trivial⟩, ⟨trivial, ⟨rfl, Nat.le_of_ble_eq_true rfl, rfl, rfl, Nat.le_of_ble_eq_true rfl, rfl, trivial⟩, trivial⟩, by simp only [markedP]; rw [decide_eq_false hlen, Bool.false_and]⟩
    · intro hA
      have hl : lastMark t.outs = none := lastMark_none fun j hj => by
        have := hA ⟨t.outs.length - 1 - j, by omega⟩
        have e : t.outs.length - 1 - (t.outs.length - 1 - j) = j := by omega
        simpa only [e] using this
      simp (config := {dsimp := false}) only [↓vp0, vz, vn, nq, tys, cellD, wideIR, if_true, if_false, implies_true, forall_const, ne_eq, reduceIte, reduceCtorEq, Nat.reduceEqDiff, Nat.reduceAdd, Nat.reduceMul, Nat.reduceLT, Nat.reduceSub, Nat.reduceLeDiff, Nat.reduceBNe, Nat.reduceBEq, Nat.reduceBeqDiff, List.range, List.range.loop, gl0, Tryd.ntmps27, Tryd.results27, commitP, hl, hashV, givesIf]
      all_goals rfl
end Go.Vi.CM
end

section
set_option linter.unusedVariables false
set_option linter.unusedSimpArgs false
set_option maxHeartbeats 0
set_option maxRecDepth 20000
namespace Go.Vi.CM
open Go.Proofs

theorem take_all {α : Type} (l : List α) (n : Nat) (h : l.length ≤ n) : List.take n (List.drop (Int.toNat 0) l) = l := by
  rw [show Int.toNat 0 = 0 from rfl, List.drop_zero]
  exact List.take_of_length_le h
theorem c_pair : Contract E 42 := by
  refine contract_seeT hE hgl (show E.P.funcs[42]? = some Tryd.f42 from Tryd.func42) rfl (p := sp_pair) (fun _ _ _ => rfl) ?_
  intro args hv
  unfold sp_pair at hv ⊢
  split at hv
  case h_2 => exact hv.elim
  rename_i a b
  refine ⟨by simp, Nat.le_of_ble_eq_true rfl, ?_⟩
  simp only [givesIf] at hv
  obtain ⟨ha, hb⟩ := hv
  simp (config := {dsimp := false}) only [↓vp0, vz, vn, nq, tys, cellD, wideIR, if_true, if_false, implies_true, forall_const, ne_eq, reduceIte, reduceCtorEq, Nat.reduceEqDiff, Nat.reduceAdd, Nat.reduceMul, Nat.reduceLT, Nat.reduceSub, Nat.reduceLeDiff, Nat.reduceBNe, Nat.reduceBEq, Nat.reduceBeqDiff, List.range, List.range.loop, gl0, Tryd.ntmps42, Tryd.results42, show ((0 : Int) = 64) = False from by simp]
  refine ⟨by decide, by decide, ?_⟩
  refine drawX [2, 3, 5] [(2, [3])] [(2, [12])] (by kernel_rfl) (wild_of rfl) ?_
  have e1 : List.take ((32 : Int) - 0).toNat (List.drop (Int.toNat 0) a) = a := take_all a _ (by rw [ha]; decide)
  have e2 : List.take ((32 : Int) - 0).toNat (List.drop (Int.toNat 0) b) = b := take_all b _ (by rw [hb]; decide)
  simp (config := {dsimp := false}) only [↓vp0, vz, vn, nq, tys, cellD, wideIR, if_true, if_false, implies_true, forall_const, ne_eq, reduceIte, reduceCtorEq, Nat.reduceEqDiff, Nat.reduceAdd, Nat.reduceMul, Nat.reduceLT, Nat.reduceSub, Nat.reduceLeDiff, Nat.reduceBNe, Nat.reduceBEq, Nat.reduceBeqDiff, List.range, List.range.loop, gl0, Tryd.ntmps42, Tryd.results42, vb, ↓vy0, vx0, e1, e2, ha, hb]
  ((repeat' apply And.intro) <;> first | decide | omega | exact okUps_of (by kernel_rfl) rfl | exact okUps_all rfl (by kernel_rfl) | rfl)
theorem c_rootEach : Contract E 34 := by
  refine contract_boxT hE hgl (show E.P.funcs[34]? = some Tryd.f34 from Tryd.func34) rfl (p := sp_rootEach) (fun _ _ _ => rfl) ?_
  intro args ds tv hv hdl htl
  unfold sp_rootEach at hv ⊢
  split at hv
  case h_2 => exact hv.elim
  rename_i a b alone t m
  refine ⟨by simp, Nat.le_of_ble_eq_true rfl, ?_⟩
  cases m <;> cases alone
  all_goals simp (config := {dsimp := false}) only [↓vp0, vz, vn, nq, tys, cellD, wideIR, if_true, if_false, implies_true, forall_const, ne_eq, reduceIte, reduceCtorEq, Nat.reduceEqDiff, Nat.reduceAdd, Nat.reduceMul, Nat.reduceLT, Nat.reduceSub, Nat.reduceLeDiff, Nat.reduceBNe, Nat.reduceBEq, Nat.reduceBeqDiff, List.range, List.range.loop, gl0, Tryd.ntmps34, Tryd.results34, retB, vb]
  · exact ⟨[], [], [], ⟨rfl, rfl⟩, ⟨rfl, rfl⟩, ⟨by simp, by simp⟩, by simp, rfl, rfl, ⟨_, rfl, rfl⟩, ⟨_, rfl, rfl⟩, id rfl⟩
  · exact ⟨[], [], [], ⟨rfl, rfl⟩, ⟨rfl, rfl⟩, ⟨by simp, by simp⟩, by simp, rfl, rfl, ⟨_, rfl, rfl⟩, ⟨_, rfl, rfl⟩, id rfl⟩
  · exact ⟨[], [], [], ⟨rfl, rfl⟩, ⟨rfl, rfl⟩, ⟨by simp, by simp⟩, by simp, rfl, rfl, ⟨_, rfl, rfl⟩, ⟨_, rfl, rfl⟩, id rfl⟩
  · exact ⟨[], [], [], ⟨rfl, rfl⟩, ⟨rfl, rfl⟩, ⟨by simp, by simp⟩, by simp, rfl, rfl, ⟨_, rfl, rfl⟩, ⟨_, rfl, rfl⟩, id rfl⟩
theorem c_textsEach : Contract E 36 := by
  refine contract_boxT hE hgl (show E.P.funcs[36]? = some Tryd.f36 from Tryd.func36) rfl (p := sp_textsEach) (fun _ _ _ => rfl) ?_
  intro args ds tv hv hdl htl
  unfold sp_textsEach at hv ⊢
  split at hv
  case h_2 => exact hv.elim
  rename_i a b alone t es n
  refine ⟨by simp, Nat.le_of_ble_eq_true rfl, ?_⟩
  obtain ⟨rfl, hn, l, rfl⟩ := hv
  simp (config := {dsimp := false}) only [↓vp0, vz, vn, nq, tys, cellD, wideIR, if_true, if_false, implies_true, forall_const, ne_eq, reduceIte, reduceCtorEq, Nat.reduceEqDiff, Nat.reduceAdd, Nat.reduceMul, Nat.reduceLT, Nat.reduceSub, Nat.reduceLeDiff, Nat.reduceBNe, Nat.reduceBEq, Nat.reduceBeqDiff, List.range, List.range.loop, gl0, Tryd.ntmps36, Tryd.results36, retB, vb]
  refine ⟨by have := slis_length l; omega, .inr trivial, .inr trivial, [], [], [], ⟨rfl, rfl⟩, ⟨rfl, rfl⟩, ⟨by simp, by simp⟩, by simp, rfl, rfl, ⟨_, rfl, ?_⟩, ⟨_, rfl, rfl⟩, id rfl⟩
  simp only [List.map_cons, List.map_nil, show (D.sli Own.no .u8 t).bare = .sli .no .u8 t from rfl, show [D.sli Own.no .u8 t] = slis [t] from rfl, slis_append]
  exact congrArg (fun x => [D.sl (.tok 0) 1 x]) (strips_slis' true _)
end Go.Vi.CM
end

section
set_option linter.unusedVariables false
set_option linter.unusedSimpArgs false
set_option maxHeartbeats 0
set_option maxRecDepth 20000
namespace Go.Vi.CM
open Go.Proofs

theorem w64' {a b : Int} (h : a = b) (hb : -1000000 ≤ b ∧ b < 1000000) : IntKind.wrap .i64 a = b := by rw [h]; exact IntWalk.i64_in _ (by omega)
theorem half (n : Nat) (h : n < 10000000) : IntKind.wrap .i64 ((n : Int).tdiv 2) = ((n / 2 : Nat) : Int) := by
  rw [Int.tdiv_eq_ediv_of_nonneg (by omega), IntWalk.i64_in _ (by omega)]
  omega
theorem halfup (n : Nat) (h : n < 10000000) : IntKind.wrap .i64 ((IntKind.wrap .i64 ((n : Int) + 1)).tdiv 2) = (((n + 1) / 2 : Nat) : Int) := by
  rw [IntWalk.i64_in ((n : Int) + 1) (by omega), Int.tdiv_eq_ediv_of_nonneg (by omega), IntWalk.i64_in _ (by omega)]
  omega
theorem odd_dec (n : Nat) : decide ((n : Int).tmod 2 = 1) = decide (n % 2 = 1) := by
  rw [Int.tmod_eq_emod_of_nonneg (by omega)]
  apply decide_eq_decide.2
  omega
theorem even_dec (n : Nat) : decide ((n : Int).tmod 2 = 0) = decide (n % 2 = 0) := by
  rw [Int.tmod_eq_emod_of_nonneg (by omega)]
  apply decide_eq_decide.2
  omega
theorem c_branchEach : Contract E 39 := by
  refine contract_boxT hE hgl (show E.P.funcs[39]? = some Tryd.f39 from Tryd.func39) rfl (p := sp_branchEach) (fun _ _ _ => rfl) ?_
  intro args ds tv hv hdl htl
  unfold sp_branchEach at hv ⊢
  split at hv
  case h_2 => exact hv.elim
  rename_i a b alone t k i es n m
  refine ⟨by simp, Nat.le_of_ble_eq_true rfl, ?_⟩
  obtain ⟨rfl, hm, ⟨out, rfl, ho⟩, ⟨ha, hb⟩, ⟨k0, i0, n0⟩, h1, h2, h3⟩ := hv
  obtain ⟨k, rfl⟩ : ∃ x : Nat, k = (x : Int) := ⟨k.toNat, by omega⟩
  obtain ⟨i, rfl⟩ : ∃ x : Nat, i = (x : Int) := ⟨i.toNat, by omega⟩
  obtain ⟨n, rfl⟩ : ∃ x : Nat, n = (x : Int) := ⟨n.toNat, by omega⟩
  simp only [Int.toNat_natCast, hs_arrs, arrs_length] at hm ⊢
  have q1 := half i (by omega)
  have q2 := halfup n (by omega)
  have q3 : IntKind.wrap .i64 ((k : Int) + 1) = ((k + 1 : Nat) : Int) := by rw [IntWalk.i64_in _ (by omega)]; omega
  have e1 := even_dec i
  have o1 := odd_dec i
  have hx : ∀ x : List Int, arrs out ++ [D.arr .u8 32 x] = arrs (out ++ [x]) := fun x => arrs_append out [x]
  by_cases cn : k + 1 = (n + 1) / 2
  · have dn : decide (((k + 1 : Nat) : Int) = (((n + 1) / 2 : Nat) : Int)) = true := decide_eq_true (by omega)
    by_cases ck : k = i / 2
    · have dk : decide ((k : Int) = ((i / 2 : Nat) : Int)) = true := decide_eq_true (by omega)
      cases alone
      · rcases Nat.mod_two_eq_zero_or_one i with h2 | h2
        · have pm : (i : Int).tmod 2 = 0 := by rw [Int.tmod_eq_emod_of_nonneg (by omega)]; omega
          have hst : stepB (k, i, out, n) (a, b, false) = (0, i / 2, (out ++ [b]), (n + 1) / 2) := by simp [stepB, ← ck, cn, h2]
          simp only [hst]
          simp (config := {dsimp := false}) only [↓vp0, vz, vn, nq, tys, cellD, wideIR, if_true, if_false, implies_true, forall_const, ne_eq, reduceIte, reduceCtorEq, Nat.reduceEqDiff, Nat.reduceAdd, Nat.reduceMul, Nat.reduceLT, Nat.reduceSub, Nat.reduceLeDiff, Nat.reduceBNe, Nat.reduceBEq, Nat.reduceBeqDiff, List.range, List.range.loop, gl0, Tryd.ntmps39, Tryd.results39, retB, vb, q1, q2, q3, dk, dn]
          refine ⟨by decide, ?_⟩
          refine drawI [4, 5, 6, 7, 8, 9] (by kernel_rfl) ?_
          simp (config := {dsimp := false}) only [↓vp0, vz, vn, nq, tys, cellD, wideIR, if_true, if_false, implies_true, forall_const, ne_eq, reduceIte, reduceCtorEq, Nat.reduceEqDiff, Nat.reduceAdd, Nat.reduceMul, Nat.reduceLT, Nat.reduceSub, Nat.reduceLeDiff, Nat.reduceBNe, Nat.reduceBEq, Nat.reduceBeqDiff, List.range, List.range.loop, gl0, Tryd.ntmps39, Tryd.results39, retB, vb, q1, q2, q3, dk, dn, hx, bare_arr, arrs_length, pm, show Int.toNat 0 = 0 from rfl, show Int.toNat 1 = 1 from rfl, List.getD_cons_zero, List.getD_cons_succ]
          ((repeat' apply And.intro) <;> (try first | decide | omega | exact .inr trivial | exact okUps_of (by kernel_rfl) rfl | exact okUps_all rfl (by kernel_rfl) | kernel_rfl))
          refine drawX [4, 5, 7] [(5, [2, 3, 4]), (6, [2, 3, 4])] [(5, [1]), (6, [0])] (by kernel_rfl) (wild_of rfl) ?_
          simp (config := {dsimp := false}) only [↓vp0, vz, vn, nq, tys, cellD, wideIR, if_true, if_false, implies_true, forall_const, ne_eq, reduceIte, reduceCtorEq, Nat.reduceEqDiff, Nat.reduceAdd, Nat.reduceMul, Nat.reduceLT, Nat.reduceSub, Nat.reduceLeDiff, Nat.reduceBNe, Nat.reduceBEq, Nat.reduceBeqDiff, List.range, List.range.loop, gl0, Tryd.ntmps39, Tryd.results39, retB, vb, q1, q2, q3, dk, dn, ↓vy0, vx0, arrs_length]
          ((repeat' apply And.intro) <;> (try first | decide | omega | exact .inr trivial | exact okUps_of (by kernel_rfl) rfl | exact okUps_all rfl (by kernel_rfl) | kernel_rfl))
          refine ⟨[], [], [], ⟨rfl, rfl⟩, ⟨rfl, rfl⟩, ⟨by simp, by simp⟩, by simp, by simp [getAll, S.tok, look], rfl, ⟨_, rfl, ?_⟩, ⟨_, rfl, rfl⟩, id rfl⟩
          exact congrArg (fun x => [D.int .i64 ((0 : Nat) : Int), D.int .i64 ((i / 2 : Nat) : Int), D.sl (.tok 0) 32 x, D.int .i64 (((n + 1) / 2 : Nat) : Int)]) (strips_arrs true _)
        · have pm : (i : Int).tmod 2 = 1 := by rw [Int.tmod_eq_emod_of_nonneg (by omega)]; omega
          have hst : stepB (k, i, out, n) (a, b, false) = (0, i / 2, (out ++ [a]), (n + 1) / 2) := by simp [stepB, ← ck, cn, h2]
          simp only [hst]
          simp (config := {dsimp := false}) only [↓vp0, vz, vn, nq, tys, cellD, wideIR, if_true, if_false, implies_true, forall_const, ne_eq, reduceIte, reduceCtorEq, Nat.reduceEqDiff, Nat.reduceAdd, Nat.reduceMul, Nat.reduceLT, Nat.reduceSub, Nat.reduceLeDiff, Nat.reduceBNe, Nat.reduceBEq, Nat.reduceBeqDiff, List.range, List.range.loop, gl0, Tryd.ntmps39, Tryd.results39, retB, vb, q1, q2, q3, dk, dn]
          refine ⟨by decide, ?_⟩
          refine drawI [4, 5, 6, 7, 8, 9] (by kernel_rfl) ?_
          simp (config := {dsimp := false}) only [↓vp0, vz, vn, nq, tys, cellD, wideIR, if_true, if_false, implies_true, forall_const, ne_eq, reduceIte, reduceCtorEq, Nat.reduceEqDiff, Nat.reduceAdd, Nat.reduceMul, Nat.reduceLT, Nat.reduceSub, Nat.reduceLeDiff, Nat.reduceBNe, Nat.reduceBEq, Nat.reduceBeqDiff, List.range, List.range.loop, gl0, Tryd.ntmps39, Tryd.results39, retB, vb, q1, q2, q3, dk, dn, hx, bare_arr, arrs_length, pm, show Int.toNat 0 = 0 from rfl, show Int.toNat 1 = 1 from rfl, List.getD_cons_zero, List.getD_cons_succ]
          ((repeat' apply And.intro) <;> (try first | decide | omega | exact .inr trivial | exact okUps_of (by kernel_rfl) rfl | exact okUps_all rfl (by kernel_rfl) | kernel_rfl))
          refine drawX [4, 5, 7] [(5, [2, 3, 4]), (6, [2, 3, 4])] [(5, [1]), (6, [0])] (by kernel_rfl) (wild_of rfl) ?_
          simp (config := {dsimp := false}) only [↓vp0, vz, vn, nq, tys, cellD, wideIR, if_true, if_false, implies_true, forall_const, ne_eq, reduceIte, reduceCtorEq, Nat.reduceEqDiff, Nat.reduceAdd, Nat.reduceMul, Nat.reduceLT, Nat.reduceSub, Nat.reduceLeDiff, Nat.reduceBNe, Nat.reduceBEq, Nat.reduceBeqDiff, List.range, List.range.loop, gl0, Tryd.ntmps39, Tryd.results39, retB, vb, q1, q2, q3, dk, dn, ↓vy0, vx0, arrs_length]
          ((repeat' apply And.intro) <;> (try first | decide | omega | exact .inr trivial | exact okUps_of (by kernel_rfl) rfl | exact okUps_all rfl (by kernel_rfl) | kernel_rfl))
          refine ⟨[], [], [], ⟨rfl, rfl⟩, ⟨rfl, rfl⟩, ⟨by simp, by simp⟩, by simp, by simp [getAll, S.tok, look], rfl, ⟨_, rfl, ?_⟩, ⟨_, rfl, rfl⟩, id rfl⟩
          exact congrArg (fun x => [D.int .i64 ((0 : Nat) : Int), D.int .i64 ((i / 2 : Nat) : Int), D.sl (.tok 0) 32 x, D.int .i64 (((n + 1) / 2 : Nat) : Int)]) (strips_arrs true _)
      · skip
        have hst : stepB (k, i, out, n) (a, b, true) = (0, i / 2, out, (n + 1) / 2) := by simp [stepB, ← ck, cn]
        simp only [hst]
        simp (config := {dsimp := false}) only [↓vp0, vz, vn, nq, tys, cellD, wideIR, if_true, if_false, implies_true, forall_const, ne_eq, reduceIte, reduceCtorEq, Nat.reduceEqDiff, Nat.reduceAdd, Nat.reduceMul, Nat.reduceLT, Nat.reduceSub, Nat.reduceLeDiff, Nat.reduceBNe, Nat.reduceBEq, Nat.reduceBeqDiff, List.range, List.range.loop, gl0, Tryd.ntmps39, Tryd.results39, retB, vb, q1, q2, q3, dk, dn]
        refine ⟨by decide, by decide, ?_⟩
        refine drawX [4, 5, 7] [(5, [2, 3, 4]), (6, [2, 3, 4])] [(5, [1]), (6, [0])] (by kernel_rfl) (wild_of rfl) ?_
        simp (config := {dsimp := false}) only [↓vp0, vz, vn, nq, tys, cellD, wideIR, if_true, if_false, implies_true, forall_const, ne_eq, reduceIte, reduceCtorEq, Nat.reduceEqDiff, Nat.reduceAdd, Nat.reduceMul, Nat.reduceLT, Nat.reduceSub, Nat.reduceLeDiff, Nat.reduceBNe, Nat.reduceBEq, Nat.reduceBeqDiff, List.range, List.range.loop, gl0, Tryd.ntmps39, Tryd.results39, retB, vb, q1, q2, q3, dk, dn, ↓vy0, vx0, arrs_length]
        ((repeat' apply And.intro) <;> (try first | decide | omega | exact .inr trivial | exact okUps_of (by kernel_rfl) rfl | exact okUps_all rfl (by kernel_rfl) | kernel_rfl))
        refine ⟨[], [], [], ⟨rfl, rfl⟩, ⟨rfl, rfl⟩, ⟨by simp, by simp⟩, by simp, rfl, rfl, ⟨_, rfl, ?_⟩, ⟨_, rfl, rfl⟩, id rfl⟩
        exact congrArg (fun x => [D.int .i64 ((0 : Nat) : Int), D.int .i64 ((i / 2 : Nat) : Int), D.sl (.tok 0) 32 x, D.int .i64 (((n + 1) / 2 : Nat) : Int)]) (strips_arrs true _)
    · have dk : decide ((k : Int) = ((i / 2 : Nat) : Int)) = false := decide_eq_false (by omega)
      have hst : stepB (k, i, out, n) (a, b, alone) = (0, i / 2, out, (n + 1) / 2) := by simp [stepB, ck, cn]
      simp only [hst]
      simp (config := {dsimp := false}) only [↓vp0, vz, vn, nq, tys, cellD, wideIR, if_true, if_false, implies_true, forall_const, ne_eq, reduceIte, reduceCtorEq, Nat.reduceEqDiff, Nat.reduceAdd, Nat.reduceMul, Nat.reduceLT, Nat.reduceSub, Nat.reduceLeDiff, Nat.reduceBNe, Nat.reduceBEq, Nat.reduceBeqDiff, List.range, List.range.loop, gl0, Tryd.ntmps39, Tryd.results39, retB, vb, q1, q2, q3, dk, dn]
      refine ⟨by decide, by decide, ?_⟩
      refine drawX [4, 5, 7] [(5, [2, 3, 4]), (6, [2, 3, 4])] [(5, [1]), (6, [0])] (by kernel_rfl) (wild_of rfl) ?_
      simp (config := {dsimp := false}) only [↓vp0, vz, vn, nq, tys, cellD, wideIR, if_true, if_false, implies_true, forall_const, ne_eq, reduceIte, reduceCtorEq, Nat.reduceEqDiff, Nat.reduceAdd, Nat.reduceMul, Nat.reduceLT, Nat.reduceSub, Nat.reduceLeDiff, Nat.reduceBNe, Nat.reduceBEq, Nat.reduceBeqDiff, List.range, List.range.loop, gl0, Tryd.ntmps39, Tryd.results39, retB, vb, q1, q2, q3, dk, dn, ↓vy0, vx0, arrs_length]
      ((repeat' apply And.intro) <;> (try first | decide | omega | exact .inr trivial | exact okUps_of (by kernel_rfl) rfl | exact okUps_all rfl (by kernel_rfl) | kernel_rfl))
      refine ⟨[], [], [], ⟨rfl, rfl⟩, ⟨rfl, rfl⟩, ⟨by simp, by simp⟩, by simp, rfl, rfl, ⟨_, rfl, ?_⟩, ⟨_, rfl, rfl⟩, id rfl⟩
      exact congrArg (fun x => [D.int .i64 ((0 : Nat) : Int), D.int .i64 ((i / 2 : Nat) : Int), D.sl (.tok 0) 32 x, D.int .i64 (((n + 1) / 2 : Nat) : Int)]) (strips_arrs true _)
  · have dn : decide (((k + 1 : Nat) : Int) = (((n + 1) / 2 : Nat) : Int)) = false := decide_eq_false (by omega)
    by_cases ck : k = i / 2
    · have dk : decide ((k : Int) = ((i / 2 : Nat) : Int)) = true := decide_eq_true (by omega)
      cases alone
      · rcases Nat.mod_two_eq_zero_or_one i with h2 | h2
        · have pm : (i : Int).tmod 2 = 0 := by rw [Int.tmod_eq_emod_of_nonneg (by omega)]; omega
          have hst : stepB (k, i, out, n) (a, b, false) = (k + 1, i, (out ++ [b]), n) := by simp [stepB, ← ck, cn, h2]
          simp only [hst]
          simp (config := {dsimp := false}) only [↓vp0, vz, vn, nq, tys, cellD, wideIR, if_true, if_false, implies_true, forall_const, ne_eq, reduceIte, reduceCtorEq, Nat.reduceEqDiff, Nat.reduceAdd, Nat.reduceMul, Nat.reduceLT, Nat.reduceSub, Nat.reduceLeDiff, Nat.reduceBNe, Nat.reduceBEq, Nat.reduceBeqDiff, List.range, List.range.loop, gl0, Tryd.ntmps39, Tryd.results39, retB, vb, q1, q2, q3, dk, dn]
          refine ⟨by decide, ?_⟩
          refine drawI [4, 5, 6, 7, 8, 9] (by kernel_rfl) ?_
          simp (config := {dsimp := false}) only [↓vp0, vz, vn, nq, tys, cellD, wideIR, if_true, if_false, implies_true, forall_const, ne_eq, reduceIte, reduceCtorEq, Nat.reduceEqDiff, Nat.reduceAdd, Nat.reduceMul, Nat.reduceLT, Nat.reduceSub, Nat.reduceLeDiff, Nat.reduceBNe, Nat.reduceBEq, Nat.reduceBeqDiff, List.range, List.range.loop, gl0, Tryd.ntmps39, Tryd.results39, retB, vb, q1, q2, q3, dk, dn, hx, bare_arr, arrs_length, pm, show Int.toNat 0 = 0 from rfl, show Int.toNat 1 = 1 from rfl, List.getD_cons_zero, List.getD_cons_succ]
          ((repeat' apply And.intro) <;> (try first | decide | omega | exact .inr trivial | exact okUps_of (by kernel_rfl) rfl | exact okUps_all rfl (by kernel_rfl) | kernel_rfl))
          refine ⟨[], [], [], ⟨rfl, rfl⟩, ⟨rfl, rfl⟩, ⟨by simp, by simp⟩, by simp, by simp [getAll, S.tok, look], rfl, ⟨_, rfl, ?_⟩, ⟨_, rfl, rfl⟩, id rfl⟩
          exact congrArg (fun x => [D.int .i64 ((k + 1 : Nat) : Int), D.int .i64 (i : Int), D.sl (.tok 0) 32 x, D.int .i64 (n : Int)]) (strips_arrs true _)
        · have pm : (i : Int).tmod 2 = 1 := by rw [Int.tmod_eq_emod_of_nonneg (by omega)]; omega
          have hst : stepB (k, i, out, n) (a, b, false) = (k + 1, i, (out ++ [a]), n) := by simp [stepB, ← ck, cn, h2]
          simp only [hst]
          simp (config := {dsimp := false}) only [↓vp0, vz, vn, nq, tys, cellD, wideIR, if_true, if_false, implies_true, forall_const, ne_eq, reduceIte, reduceCtorEq, Nat.reduceEqDiff, Nat.reduceAdd, Nat.reduceMul, Nat.reduceLT, Nat.reduceSub, Nat.reduceLeDiff, Nat.reduceBNe, Nat.reduceBEq, Nat.reduceBeqDiff, List.range, List.range.loop, gl0, Tryd.ntmps39, Tryd.results39, retB, vb, q1, q2, q3, dk, dn]
          refine ⟨by decide, ?_⟩
          refine drawI [4, 5, 6, 7, 8, 9] (by kernel_rfl) ?_
          simp (config := {dsimp := false}) only [↓vp0, vz, vn, nq, tys, cellD, wideIR, if_true, if_false, implies_true, forall_const, ne_eq, reduceIte, reduceCtorEq, Nat.reduceEqDiff, Nat.reduceAdd, Nat.reduceMul, Nat.reduceLT, Nat.reduceSub, Nat.reduceLeDiff, Nat.reduceBNe, Nat.reduceBEq, Nat.reduceBeqDiff, List.range, List.range.loop, gl0, Tryd.ntmps39, Tryd.results39, retB, vb, q1, q2, q3, dk, dn, hx, bare_arr, arrs_length, pm, show Int.toNat 0 = 0 from rfl, show Int.toNat 1 = 1 from rfl, List.getD_cons_zero, List.getD_cons_succ]
          ((repeat' apply And.intro) <;> (try first | decide | omega | exact .inr trivial | exact okUps_of (by kernel_rfl) rfl | exact okUps_all rfl (by kernel_rfl) | kernel_rfl))
          refine ⟨[], [], [], ⟨rfl, rfl⟩, ⟨rfl, rfl⟩, ⟨by simp, by simp⟩, by simp, by simp [getAll, S.tok, look], rfl, ⟨_, rfl, ?_⟩, ⟨_, rfl, rfl⟩, id rfl⟩
          exact congrArg (fun x => [D.int .i64 ((k + 1 : Nat) : Int), D.int .i64 (i : Int), D.sl (.tok 0) 32 x, D.int .i64 (n : Int)]) (strips_arrs true _)
      · skip
        have hst : stepB (k, i, out, n) (a, b, true) = (k + 1, i, out, n) := by simp [stepB, ← ck, cn]
        simp only [hst]
        simp (config := {dsimp := false}) only [↓vp0, vz, vn, nq, tys, cellD, wideIR, if_true, if_false, implies_true, forall_const, ne_eq, reduceIte, reduceCtorEq, Nat.reduceEqDiff, Nat.reduceAdd, Nat.reduceMul, Nat.reduceLT, Nat.reduceSub, Nat.reduceLeDiff, Nat.reduceBNe, Nat.reduceBEq, Nat.reduceBeqDiff, List.range, List.range.loop, gl0, Tryd.ntmps39, Tryd.results39, retB, vb, q1, q2, q3, dk, dn]
        ((repeat' apply And.intro) <;> (try first | decide | omega | exact .inr trivial | exact okUps_of (by kernel_rfl) rfl | exact okUps_all rfl (by kernel_rfl) | kernel_rfl))
        refine ⟨[], [], [], ⟨rfl, rfl⟩, ⟨rfl, rfl⟩, ⟨by simp, by simp⟩, by simp, rfl, rfl, ⟨_, rfl, ?_⟩, ⟨_, rfl, rfl⟩, id rfl⟩
        exact congrArg (fun x => [D.int .i64 ((k + 1 : Nat) : Int), D.int .i64 (i : Int), D.sl (.tok 0) 32 x, D.int .i64 (n : Int)]) (strips_arrs true _)
    · have dk : decide ((k : Int) = ((i / 2 : Nat) : Int)) = false := decide_eq_false (by omega)
      have hst : stepB (k, i, out, n) (a, b, alone) = (k + 1, i, out, n) := by simp [stepB, ck, cn]
      simp only [hst]
      simp (config := {dsimp := false}) only [↓vp0, vz, vn, nq, tys, cellD, wideIR, if_true, if_false, implies_true, forall_const, ne_eq, reduceIte, reduceCtorEq, Nat.reduceEqDiff, Nat.reduceAdd, Nat.reduceMul, Nat.reduceLT, Nat.reduceSub, Nat.reduceLeDiff, Nat.reduceBNe, Nat.reduceBEq, Nat.reduceBeqDiff, List.range, List.range.loop, gl0, Tryd.ntmps39, Tryd.results39, retB, vb, q1, q2, q3, dk, dn]
      ((repeat' apply And.intro) <;> (try first | decide | omega | exact .inr trivial | exact okUps_of (by kernel_rfl) rfl | exact okUps_all rfl (by kernel_rfl) | kernel_rfl))
      refine ⟨[], [], [], ⟨rfl, rfl⟩, ⟨rfl, rfl⟩, ⟨by simp, by simp⟩, by simp, rfl, rfl, ⟨_, rfl, ?_⟩, ⟨_, rfl, rfl⟩, id rfl⟩
      exact congrArg (fun x => [D.int .i64 ((k + 1 : Nat) : Int), D.int .i64 (i : Int), D.sl (.tok 0) 32 x, D.int .i64 (n : Int)]) (strips_arrs true _)
end Go.Vi.CM
end

section
set_option linter.unusedVariables false
namespace Go.Proofs
open Go.RowKit Go.Shelf
attribute [local go_sem] Oper.semAt_some
set_option maxHeartbeats 1000000 in
theorem Tryd.Chunk_in (F : Fence) (n : Nat) (h5 : F.fn 50) (hro : F.round = none) (a : Option Addr) (len cap : Nat) (w : World) :
    CallsIn F n Tryd.prog 50 #[.slice a len cap, .int .i64 2] w fun e w' => e = .returned (.func (.func 60) #[] #[.pointer (some ⟨w.heap.size, 0, none⟩), .pointer (some ⟨w.heap.size + 1, 0, none⟩)]) ∧ w' = (w.alloc (.cells #[.slice a len cap] 22)).alloc (.cells #[.int .i64 2] 3) := by
  refine callsIn_of_wp Tryd.func50 rfl h5 ?_ hro
  simp only [Tryd.ntmps50, List.size_toArray, List.length_cons, List.length_nil, Nat.reduceAdd, Nat.reduceSub, Array.replicate_succ, Array.replicate_zero, List.push_toArray, List.append_toArray, List.nil_append, List.cons_append]
  gi_wp2
  go_ret
  exact ⟨rfl, rfl⟩
end Go.Proofs
namespace Go.Vi.CM
open Go.Proofs Go.RowKit
theorem c_chunk : Contract E 50 := by
  refine contract_calls2 (p := sp_chunk 60) (ks := []) (fun args s nm => spec_chunk args s nm) ?_
  · intro xs hv g w vs hl0 hr
    unfold sp_chunk at hv ⊢
    split at hv
    case h_2 => exact hv.elim
    rename_i es
    obtain ⟨v1, r1, rfl, ⟨a, c, vE, e1, hc, hes, hrow, _⟩, v2, r2, rfl, e2, e3⟩ := hr
    have e2 : [v2] = [.int .i64 2] := e2
    have e3 : r2 = [] := e3
    simp only [List.cons.injEq, and_true] at e1 e2
    subst e1 e2 e3
    refine (callsIn_wide (n := 0)).1 ((Tryd.Chunk_in Fence.wide 0 trivial rfl a es.length c w).mono ?_)
    rintro e w' ⟨rfl, rfl⟩
    have hb : Below w.heap.size w ((w.alloc (.cells #[.slice a es.length c] 22)).alloc (.cells #[.int .i64 2] 3)) := ((Below.refl _ w).alloc (Nat.le_refl _) _).alloc (by simp) _
    refine ⟨_, rfl, ?_, hb⟩
    have hx : Ext g w (g.newer w ((w.alloc (.cells #[.slice a es.length c] 22)).alloc (.cells #[.int .i64 2] 3))) _ := Gh.newer_ext hl0 hb
    have c1 : ((w.alloc (.cells #[.slice a es.length c] 22)).alloc (.cells #[.int .i64 2] 3)).heap[w.heap.size]? = some (.cells #[.slice a es.length c] 22) := by
      rw [Below.heap_alloc _ _ _ (by simp)]; exact World.alloc_heap_new w _
    have c2 : ((w.alloc (.cells #[.slice a es.length c] 22)).alloc (.cells #[.int .i64 2] 3)).heap[w.heap.size + 1]? = some (.cells #[.int .i64 2] 3) := by
      have := World.alloc_heap_new (w.alloc (.cells #[.slice a es.length c] 22)) (.cells #[.int .i64 2] 3)
      rwa [World.size_alloc] at this
    generalize ((w.alloc (.cells #[.slice a es.length c] 22)).alloc (.cells #[.int .i64 2] 3)) = w' at hx c1 c2
    refine ⟨[.pointer (some ⟨w.heap.size, 0, none⟩), .pointer (some ⟨w.heap.size + 1, 0, none⟩)], rfl, [.pointer (some ⟨w.heap.size, 0, none⟩)], [.pointer (some ⟨w.heap.size + 1, 0, none⟩)], rfl,
      ⟨w.heap.size, 0, [.slice a es.length c], rfl, ⟨a, c, vE, rfl, hc, RepEs.ext hx.bare es hes, Row.ext (g := g.bare) (g' := (g.newer w w').bare) hx.bare hrow, trivial⟩, ?_, ?_⟩,
      [.pointer (some ⟨w.heap.size + 1, 0, none⟩)], [], rfl, ⟨w.heap.size + 1, 0, [.int .i64 2], rfl, rfl, ?_, ?_⟩, rfl⟩
    · simp [Gh.newer, rowSize, c1]
    · intro i v hv
      cases i with
      | zero => simp at hv; subst hv; simp [World.cell?, c1]
      | succ i => simp at hv
    · simp [Gh.newer, rowSize, c2, show ¬ (w.heap.size + 1 < w.heap.size) by omega]
    · intro i v hv
      cases i with
      | zero => simp at hv; subst hv; simp [World.cell?, c2]
      | succ i => simp at hv
end Go.Vi.CM
end

section
set_option linter.unusedVariables false
set_option linter.unusedSimpArgs false
set_option maxHeartbeats 0
set_option maxRecDepth 20000
namespace Go.Vi.CM
open Go.Proofs

theorem bs_eta (st : BS) : ((st.1, st.2.1, st.2.2.1, st.2.2.2) : BS) = st := rfl
def okB (A B C : Nat) (st : BS) : Prop := st.1 ≤ A ∧ st.2.1 ≤ B ∧ st.2.2.1.length ≤ A ∧ h32 st.2.2.1 ∧ st.2.2.2 ≤ C
theorem okB_step {A B C : Nat} (hC : 1 ≤ C) {p : Pr} (hp : p.1.length = 32 ∧ p.2.1.length = 32) {st : BS} (h : okB A B C st) : okB (A + 1) B C (stepB st p) := by
  obtain ⟨k, a, o, n⟩ := st
  obtain ⟨h1, h2, h3, h4, h5⟩ := h
  simp only at h1 h2 h3 h4 h5
  have ho : ∀ (c : Prop) [Decidable c] (x : List Int), x.length = 32 → (if c then o ++ [x] else o).length ≤ A + 1 ∧ h32 (if c then o ++ [x] else o) := by
    intro c _ x hx
    split
    · refine ⟨by simp; omega, fun y hy => ?_⟩
      rcases List.mem_append.1 hy with h | h
      · exact h4 y h
      · simp at h; rw [h]; exact hx
    · exact ⟨by omega, h4⟩
  have hx : (if a % 2 = 0 then p.2.1 else p.1).length = 32 := by
    split
    · exact hp.2
    · exact hp.1
  obtain ⟨o1, o2⟩ := ho (k = a / 2 ∧ p.2.2 = false) _ hx
  unfold stepB
  simp only
  split
  · exact ⟨Nat.zero_le _, by simp only; omega, o1, o2, by simp only; omega⟩
  · exact ⟨by simp only; omega, by simp only; omega, o1, o2, by simp only; omega⟩
theorem okB_fold {B C : Nat} (hC : 1 ≤ C) : ∀ {A : Nat} (ps : List Pr), (∀ p ∈ ps, p.1.length = 32 ∧ p.2.1.length = 32) → ∀ st : BS, okB A B C st → okB (A + ps.length) B C (ps.foldl stepB st)
  | A, [], _, st, h => h
  | A, p :: r, hp, st, h => by
    have := okB_fold hC r (fun q hq => hp q (List.mem_cons_of_mem _ hq)) _ (okB_step hC (hp p (List.mem_cons_self ..)) h)
    rw [List.length_cons, Nat.add_comm r.length 1, ← Nat.add_assoc]
    exact this
theorem pairAt_len {r : L2} (hr : h32 r) {i : Nat} (hi : i < (r.length + 1) / 2) : (pairAt r i).1.length = 32 ∧ (pairAt r i).2.1.length = 32 := by
  have hm := hr _ (getD_mem (show 2 * i < r.length by omega))
  simp only [pairAt]
  split
  · exact ⟨hm, hr _ (getD_mem (show 2 * i + 1 < r.length by omega))⟩
  · exact ⟨hm, hm⟩
theorem pairsTo_len32 {l : L2} (hl : h32 l) : ∀ k, ∀ p ∈ pairsTo l k, p.1.length = 32 ∧ p.2.1.length = 32
  | 0, p, hp => absurd hp List.not_mem_nil
  | k + 1, p, hp => by
    rcases List.mem_append.1 hp with h | h
    · exact pairsTo_len32 hl k p h
    · obtain ⟨i, hi, rfl⟩ := List.mem_map.1 h
      exact pairAt_len (row_h32 hl k) (by simpa using hi)
theorem strips_snoc (T l : L2) (x : List Int) : D.strips true (slis (T ++ l) ++ [.sli .no .u8 x]) = slis (T ++ (l ++ [x])) := by
  rw [show [D.sli .no .u8 x] = slis [x] from rfl, slis_append, strips_slis', List.append_assoc]
theorem w21 : IntKind.wrap .i64 (((2 : Nat) : Int) - 1) = 1 := rfl
theorem w10 : IntKind.wrap .i64 (((1 : Nat) : Int) - 1) = 0 := rfl
theorem chunk_two (l : L2) (i : Nat) (h : 2 * i + 2 ≤ l.length) : chunkEl (arrs l) i = .sl .full 32 [.arr .u8 32 (l.getD (2 * i) []), .arr .u8 32 (l.getD (2 * i + 1) [])] := by
  unfold chunkEl
  congr 1
  apply List.ext_getElem
  · simp [arrs]; omega
  · intro j h1 h2
    simp [arrs] at h1 h2 ⊢
    match j with
    | 0 => simp [List.getD, show 2 * i < l.length by omega]
    | 1 => simp [List.getD, show 2 * i + 1 < l.length by omega]
theorem chunk_one (l : L2) (i : Nat) (h : 2 * i + 1 = l.length) : chunkEl (arrs l) i = .sl .full 32 [.arr .u8 32 (l.getD (2 * i) [])] := by
  unfold chunkEl
  congr 1
  apply List.ext_getElem
  · simp [arrs]; omega
  · intro j h1 h2
    simp [arrs] at h1 h2 ⊢
    obtain rfl : j = 0 := by omega
    simp [List.getD, show 2 * i < l.length by omega]
theorem c_rows : Contract E 33 := by
  refine contract_boxT hE hgl (show E.P.funcs[33]? = some Tryd.f33 from Tryd.func33) rfl (p := (sp_rows 34 36 39)) (fun _ _ _ => rfl) ?_
  intro args ds tv hv hdl htl
  unfold sp_rows at hv ⊢
  split at hv
  case h_6 => exact hv.elim
  case h_1 =>
    rename_i es g m
    obtain ⟨rfl, ⟨l, rfl, hl⟩, hlen⟩ := hv
    simp only [arrs_length] at hlen
    refine ⟨by simp, Nat.le_of_ble_eq_true rfl, ?_⟩
    simp (config := {dsimp := false}) only [↓vp0, vz, vn, nq, tys, cellD, wideIR, if_true, if_false, implies_true, forall_const, ne_eq, reduceIte, reduceCtorEq, Nat.reduceEqDiff, Nat.reduceAdd, Nat.reduceMul, Nat.reduceLT, Nat.reduceSub, Nat.reduceLeDiff, Nat.reduceBNe, Nat.reduceBEq, Nat.reduceBeqDiff, List.range, List.range.loop, gl0, Tryd.ntmps33, Tryd.results33, retB, vb, arrs_length, hs_arrs]
    refine ⟨fun h0 => ?_, fun h0 => ?_⟩
    · have h0 := of_decide_eq_true h0
      obtain rfl : l = [] := List.eq_nil_of_length_eq_zero (by omega)
      exact ⟨[], [], [], ⟨rfl, rfl⟩, ⟨rfl, rfl⟩, ⟨by simp, by simp⟩, by simp, rfl, rfl, ⟨_, rfl, (by rw [allP_nil]; rfl)⟩, ⟨_, rfl, rfl⟩, id (by rw [rootP_nil]; rfl)⟩
    have h0 := of_decide_eq_false h0
    have hne : l ≠ [] := fun e => by subst e; simp at h0
    refine loopI {k : Nat // k ≤ dep l.length} (fun k => [(0, .sl .no 32 (arrs (rowAt l k.1))), (3, .bp 8 0), (4, .bp 12 0)]) (fun k => ⟨[(0, .bool ((pairsTo l k.1).foldl mutS m)), (8, .fn 34 [.bp 0 0]), (12, .arr .u8 32 (List.replicate 32 0))], [], 28⟩) (fun k => dep l.length - k.1) ⟨0, Nat.zero_le _⟩ (fun _ => rfl) ?_ ?_
    · exact ⟨⟨wkD_eq rfl, rfl, wkD_eq rfl, rfl, wkD_eq rfl, rfl, trivial⟩, ⟨rfl, Nat.le_of_ble_eq_true rfl, rfl, rfl, Nat.le_of_ble_eq_true rfl, rfl, rfl, Nat.le_of_ble_eq_true rfl, rfl, trivial⟩, trivial⟩
    rintro ⟨k, hk⟩
    have hk1 := row_more k l
    have hk2 := row_h32 hl k
    have hk3 := row_len_le l k
    simp (config := {dsimp := false}) only [↓vp0, vz, vn, nq, tys, cellD, wideIR, if_true, if_false, implies_true, forall_const, ne_eq, reduceIte, reduceCtorEq, Nat.reduceEqDiff, Nat.reduceAdd, Nat.reduceMul, Nat.reduceLT, Nat.reduceSub, Nat.reduceLeDiff, Nat.reduceBNe, Nat.reduceBEq, Nat.reduceBeqDiff, List.range, List.range.loop, gl0, Tryd.ntmps33, Tryd.results33, retB, vb, arrs_length, spec_chunk, sp_chunk, c_chunk, b_chunk, gives, PF.toR]
    refine ⟨fun h => ?_, fun h => ?_⟩
    · have h := of_decide_eq_true h
      have hkd : k < dep l.length := hk1.1 (by omega)
      generalize hr : rowAt l k = r at hk1 hk2 hk3 h
      rw [strips_arrs]
      refine rangeB [(40, none, 32)] ?_
      simp (config := {dsimp := false}) only [↓vp0, vz, vn, nq, tys, cellD, wideIR, if_true, if_false, implies_true, forall_const, ne_eq, reduceIte, reduceCtorEq, Nat.reduceEqDiff, Nat.reduceAdd, Nat.reduceMul, Nat.reduceLT, Nat.reduceSub, Nat.reduceLeDiff, Nat.reduceBNe, Nat.reduceBEq, Nat.reduceBeqDiff, List.range, List.range.loop, gl0, Tryd.ntmps33, Tryd.results33, adoptB]
      generalize hm' : (pairsTo l k).foldl mutS m = m'
      refine rangeI [(3, .bp 8 0), (4, .bp 12 0), (5, .bp 40 0), (18, .fn 60 [.ip (.sl .no 32 (arrs r)) 0, .ip (.int .i64 2) 0])]
        (fun pre => ⟨[(0, .bool ((pre.map fun i => pairAt r i.1).foldl mutS m')), (8, .fn 34 [.bp 0 0]), (12, .arr .u8 32 (List.replicate 32 0)), (40, .sl (.tok 52) 32 (arrs (pre.map fun i => joinP (pairAt r i.1))))], [(52, (pre.length, 32))], 56⟩)
        [(6, .tmp 19)] (iter_chunk rfl (arrs r) (by intro e; have := congrArg List.length e; simp [arrs] at this; subst this; simp at h) (by rw [arrs_length]; omega)) rfl (fun _ => rfl) ⟨rfl, by kernel_rfl, by kernel_rfl, by kernel_rfl⟩ (fun _ => rfl) ⟨⟨wkD_eq rfl, rfl, wkD_eq rfl, rfl, wkD_eq rfl, rfl, wkD_eq rfl, rfl, trivial⟩, ⟨rfl, Nat.le_of_ble_eq_true rfl, rfl, rfl, Nat.le_of_ble_eq_true rfl, rfl, rfl, Nat.le_of_ble_eq_true rfl, rfl, rfl, Nat.le_of_ble_eq_true rfl, rfl, trivial⟩, ⟨rfl, Nat.le_of_ble_eq_true rfl, trivial⟩⟩ ?_ ?_
      · rintro pre ⟨i, hi⟩ hpre
        have hi' : i < (r.length + 1) / 2 := by have := hi; rwa [arrs_length] at this
        have hpre' : pre.length < (r.length + 1) / 2 := by have := arrs_length r; omega
        by_cases h2 : 2 * i + 2 ≤ r.length
        · have hpa : ∀ q : List (Fin (((arrs r).length + 1) / 2)), (q ++ [(⟨i, hi⟩ : Fin (((arrs r).length + 1) / 2))]).map (fun i : Fin (((arrs r).length + 1) / 2) => pairAt r i.1) = q.map (fun i : Fin (((arrs r).length + 1) / 2) => pairAt r i.1) ++ [(r.getD (2 * i) [], r.getD (2 * i + 1) [], false)] := fun q => by simp [pairAt, h2]
          have hpb : ∀ q : List (Fin (((arrs r).length + 1) / 2)), (q ++ [(⟨i, hi⟩ : Fin (((arrs r).length + 1) / 2))]).map (fun i : Fin (((arrs r).length + 1) / 2) => joinP (pairAt r i.1)) = q.map (fun i : Fin (((arrs r).length + 1) / 2) => joinP (pairAt r i.1)) ++ [H2 (r.getD (2 * i) []) (r.getD (2 * i + 1) [])] := fun q => by simp [pairAt, h2, joinP]
          simp only [chunk_two r i h2, hpa, hpb]
          have ha := hk2 _ (getD_mem (show 2 * i < r.length by omega))
          have hb := hk2 _ (getD_mem (show 2 * i + 1 < r.length by omega))
          generalize r.getD (2 * i) [] = a at ha
          generalize r.getD (2 * i + 1) [] = b at hb
          simp (config := {dsimp := false}) only [↓vp0, vz, vn, nq, tys, cellD, wideIR, if_true, if_false, implies_true, forall_const, ne_eq, reduceIte, reduceCtorEq, Nat.reduceEqDiff, Nat.reduceAdd, Nat.reduceMul, Nat.reduceLT, Nat.reduceSub, Nat.reduceLeDiff, Nat.reduceBNe, Nat.reduceBEq, Nat.reduceBeqDiff, List.range, List.range.loop, gl0, Tryd.ntmps33, Tryd.results33, arrs_length]
          refine drawX [6, 3, 4, 5, 18] [(9, [0, 1, 2, 3, 4, 5, 6, 7, 8, 10]), (10, [0, 1, 2, 3, 4, 5, 6, 7, 8, 9]), (11, [3, 4, 5, 6, 7, 8])] [(11, [92])] (by kernel_rfl) (wild_of rfl) ?_
          simp (config := {dsimp := false}) only [↓vp0, vz, vn, nq, tys, cellD, wideIR, if_true, if_false, implies_true, forall_const, ne_eq, reduceIte, reduceCtorEq, Nat.reduceEqDiff, Nat.reduceAdd, Nat.reduceMul, Nat.reduceLT, Nat.reduceSub, Nat.reduceLeDiff, Nat.reduceBNe, Nat.reduceBEq, Nat.reduceBeqDiff, List.range, List.range.loop, gl0, Tryd.ntmps33, Tryd.results33, vb, ↓vy0, vx0, arrs_length, w21, show Int.toNat 0 = 0 from rfl, show Int.toNat 1 = 1 from rfl, List.getD_cons_zero, List.getD_cons_succ, PF.toR, gives, givesIf, ha, hb, spec_pair, sp_pair, c_pair, b_pair, spec_rootEach, sp_rootEach, c_rootEach, b_rootEach]
          refine ⟨by decide, by decide, by decide, by decide, okUps_of (by kernel_rfl) rfl, okUps_of (by kernel_rfl) rfl, okUps_of (by kernel_rfl) rfl, okUps_all rfl (by kernel_rfl), ?_⟩
          refine drawI [5, 9] (by kernel_rfl) ?_
          simp (config := {dsimp := false}) only [↓vp0, vz, vn, nq, tys, cellD, wideIR, if_true, if_false, implies_true, forall_const, ne_eq, reduceIte, reduceCtorEq, Nat.reduceEqDiff, Nat.reduceAdd, Nat.reduceMul, Nat.reduceLT, Nat.reduceSub, Nat.reduceLeDiff, Nat.reduceBNe, Nat.reduceBEq, Nat.reduceBeqDiff, List.range, List.range.loop, gl0, Tryd.ntmps33, Tryd.results33, PF.toR, gives, givesIf, List.length_append, ha, hb, spec_twice, sp_twice, c_twice, b_twice, List.foldl_append, List.foldl_cons, List.foldl_nil]
          have hpl : (arrs (pre.map fun i => joinP (pairAt r i.1))).length = pre.length := by rw [arrs_length, List.length_map]
          refine ⟨by rw [hpl], by rw [hpl]; omega, .inr trivial, .inr trivial, by kernel_rfl, by kernel_rfl, ⟨trivial, ⟨rfl, Nat.le_of_ble_eq_true rfl, rfl, rfl, Nat.le_of_ble_eq_true rfl, rfl, rfl, Nat.le_of_ble_eq_true rfl, rfl, ?_, Nat.le_of_ble_eq_true rfl, rfl, trivial⟩, ⟨?_, Nat.le_of_ble_eq_true rfl, trivial⟩⟩⟩
          · exact congrArg (fun x => some (D.sl (.tok 52) 32 x)) (arrs_append _ [H2 a b])
          · exact congrArg (fun n => some (n + 1, 32)) hpl
        · have h3 : 2 * i + 1 = r.length := by omega
          have hpa : ∀ q : List (Fin (((arrs r).length + 1) / 2)), (q ++ [(⟨i, hi⟩ : Fin (((arrs r).length + 1) / 2))]).map (fun i : Fin (((arrs r).length + 1) / 2) => pairAt r i.1) = q.map (fun i : Fin (((arrs r).length + 1) / 2) => pairAt r i.1) ++ [(r.getD (2 * i) [], r.getD (2 * i) [], true)] := fun q => by simp [pairAt, h2]
          have hpb : ∀ q : List (Fin (((arrs r).length + 1) / 2)), (q ++ [(⟨i, hi⟩ : Fin (((arrs r).length + 1) / 2))]).map (fun i : Fin (((arrs r).length + 1) / 2) => joinP (pairAt r i.1)) = q.map (fun i : Fin (((arrs r).length + 1) / 2) => joinP (pairAt r i.1)) ++ [H2 (r.getD (2 * i) []) (r.getD (2 * i) [])] := fun q => by simp [pairAt, h2, joinP]
          simp only [chunk_one r i h3, hpa, hpb]
          have ha := hk2 _ (getD_mem (show 2 * i < r.length by omega))
          generalize r.getD (2 * i) [] = a at ha
          simp (config := {dsimp := false}) only [↓vp0, vz, vn, nq, tys, cellD, wideIR, if_true, if_false, implies_true, forall_const, ne_eq, reduceIte, reduceCtorEq, Nat.reduceEqDiff, Nat.reduceAdd, Nat.reduceMul, Nat.reduceLT, Nat.reduceSub, Nat.reduceLeDiff, Nat.reduceBNe, Nat.reduceBEq, Nat.reduceBeqDiff, List.range, List.range.loop, gl0, Tryd.ntmps33, Tryd.results33, arrs_length]
          refine drawX [6, 3, 4, 5, 18] [(9, [0, 1, 2, 3, 4, 5, 6, 7, 8, 10]), (10, [0, 1, 2, 3, 4, 5, 6, 7, 8, 9]), (11, [3, 4, 5, 6, 7, 8])] [(11, [92])] (by kernel_rfl) (wild_of rfl) ?_
          simp (config := {dsimp := false}) only [↓vp0, vz, vn, nq, tys, cellD, wideIR, if_true, if_false, implies_true, forall_const, ne_eq, reduceIte, reduceCtorEq, Nat.reduceEqDiff, Nat.reduceAdd, Nat.reduceMul, Nat.reduceLT, Nat.reduceSub, Nat.reduceLeDiff, Nat.reduceBNe, Nat.reduceBEq, Nat.reduceBeqDiff, List.range, List.range.loop, gl0, Tryd.ntmps33, Tryd.results33, vb, ↓vy0, vx0, arrs_length, w10, show Int.toNat 0 = 0 from rfl, show Int.toNat 1 = 1 from rfl, List.getD_cons_zero, List.getD_cons_succ, PF.toR, gives, givesIf, ha, spec_pair, sp_pair, c_pair, b_pair, spec_rootEach, sp_rootEach, c_rootEach, b_rootEach]
          refine ⟨by decide, by decide, by decide, by decide, okUps_of (by kernel_rfl) rfl, okUps_of (by kernel_rfl) rfl, okUps_of (by kernel_rfl) rfl, okUps_all rfl (by kernel_rfl), ?_⟩
          refine drawI [5, 9] (by kernel_rfl) ?_
          simp (config := {dsimp := false}) only [↓vp0, vz, vn, nq, tys, cellD, wideIR, if_true, if_false, implies_true, forall_const, ne_eq, reduceIte, reduceCtorEq, Nat.reduceEqDiff, Nat.reduceAdd, Nat.reduceMul, Nat.reduceLT, Nat.reduceSub, Nat.reduceLeDiff, Nat.reduceBNe, Nat.reduceBEq, Nat.reduceBeqDiff, List.range, List.range.loop, gl0, Tryd.ntmps33, Tryd.results33, PF.toR, gives, givesIf, List.length_append, ha, spec_twice, sp_twice, c_twice, b_twice, List.foldl_append, List.foldl_cons, List.foldl_nil]
          have hpl : (arrs (pre.map fun i => joinP (pairAt r i.1))).length = pre.length := by rw [arrs_length, List.length_map]
          refine ⟨by rw [hpl], by rw [hpl]; omega, .inr trivial, .inr trivial, by kernel_rfl, by kernel_rfl, ⟨trivial, ⟨rfl, Nat.le_of_ble_eq_true rfl, rfl, rfl, Nat.le_of_ble_eq_true rfl, rfl, rfl, Nat.le_of_ble_eq_true rfl, rfl, ?_, Nat.le_of_ble_eq_true rfl, rfl, trivial⟩, ⟨?_, Nat.le_of_ble_eq_true rfl, trivial⟩⟩⟩
          · exact congrArg (fun x => some (D.sl (.tok 52) 32 x)) (arrs_append _ [H2 a a])
          · exact congrArg (fun n => some (n + 1, 32)) hpl
      · simp (config := {dsimp := false}) only [↓vp0, vz, vn, nq, tys, cellD, wideIR, if_true, if_false, implies_true, forall_const, ne_eq, reduceIte, reduceCtorEq, Nat.reduceEqDiff, Nat.reduceAdd, Nat.reduceMul, Nat.reduceLT, Nat.reduceSub, Nat.reduceLeDiff, Nat.reduceBNe, Nat.reduceBEq, Nat.reduceBeqDiff, List.range, List.range.loop, gl0, Tryd.ntmps33, Tryd.results33, retB, vb]
        simp only [above_fin r (show ((arrs r).length + 1) / 2 = (r.length + 1) / 2 by rw [arrs_length]), pairs_fin r (show ((arrs r).length + 1) / 2 = (r.length + 1) / 2 by rw [arrs_length])]
        subst hr hm'
        refine ⟨⟨k + 1, hkd⟩, ⟨⟨.inr ⟨_, rfl⟩, rfl, wkD_eq rfl, rfl, wkD_eq rfl, rfl, trivial⟩, ⟨?_, Nat.le_of_ble_eq_true rfl, rfl, rfl, Nat.le_of_ble_eq_true rfl, rfl, rfl, Nat.le_of_ble_eq_true rfl, rfl, trivial⟩, trivial⟩, by (try simp only); omega⟩
        exact congrArg (fun b => some (D.bool b)) (List.foldl_append ..).symm
    · have h := of_decide_eq_false h
      have h00 := arrs_get (rowAt l k) 0 (List.length_pos_iff.2 (row_pos l hne k))
      simp (config := {dsimp := false}) only [↓vp0, vz, vn, nq, tys, cellD, wideIR, if_true, if_false, implies_true, forall_const, ne_eq, reduceIte, reduceCtorEq, Nat.reduceEqDiff, Nat.reduceAdd, Nat.reduceMul, Nat.reduceLT, Nat.reduceSub, Nat.reduceLeDiff, Nat.reduceBNe, Nat.reduceBEq, Nat.reduceBeqDiff, List.range, List.range.loop, gl0, Tryd.ntmps33, Tryd.results33, retB, vb, h00, show Int.toNat 0 = 0 from rfl]
      have he := row_end hk (by omega)
      have hp := List.length_pos_iff.2 (row_pos l hne k)
      refine ⟨by decide, by omega, [], [], [], ⟨rfl, rfl⟩, ⟨rfl, rfl⟩, ⟨by simp, by simp⟩, by simp, rfl, rfl, ⟨_, rfl, ?_⟩, ⟨_, rfl, rfl⟩, ?_⟩
      · rw [hs_arrs, allP, ← he]
        rfl
      · rw [hs_arrs, rootP, if_neg hne, ← he]
        exact id rfl
  case h_2 =>
    rename_i g z
    subst hv
    refine ⟨by simp, Nat.le_of_ble_eq_true rfl, ?_⟩
    simp (config := {dsimp := false}) only [↓vp0, vz, vn, nq, tys, cellD, wideIR, if_true, if_false, implies_true, forall_const, ne_eq, reduceIte, reduceCtorEq, Nat.reduceEqDiff, Nat.reduceAdd, Nat.reduceMul, Nat.reduceLT, Nat.reduceSub, Nat.reduceLeDiff, Nat.reduceBNe, Nat.reduceBEq, Nat.reduceBeqDiff, List.range, List.range.loop, gl0, Tryd.ntmps33, Tryd.results33, retB, vb, show decide (((0 : Nat) : Int) = 0) = true from rfl]
    exact ⟨[], [], [], ⟨rfl, rfl⟩, ⟨rfl, rfl⟩, ⟨by simp, by simp⟩, by simp, rfl, rfl, ⟨_, rfl, rfl⟩, ⟨_, rfl, rfl⟩, id rfl⟩
  case h_3 =>
    rename_i es g z hnn
    obtain ⟨rfl, hes0, ⟨l, rfl, hl⟩, hlen⟩ := hv
    simp only [arrs_length] at hlen
    refine ⟨by simp, Nat.le_of_ble_eq_true rfl, ?_⟩
    simp (config := {dsimp := false}) only [↓vp0, vz, vn, nq, tys, cellD, wideIR, if_true, if_false, implies_true, forall_const, ne_eq, reduceIte, reduceCtorEq, Nat.reduceEqDiff, Nat.reduceAdd, Nat.reduceMul, Nat.reduceLT, Nat.reduceSub, Nat.reduceLeDiff, Nat.reduceBNe, Nat.reduceBEq, Nat.reduceBeqDiff, List.range, List.range.loop, gl0, Tryd.ntmps33, Tryd.results33, retB, vb, arrs_length, hs_arrs]
    have hne : l ≠ [] := fun e => hes0 (by subst e; rfl)
    have hn0 : ¬ ((l.length : Int) = 0) := fun e => hne (List.eq_nil_of_length_eq_zero (by omega))
    refine ⟨fun h0 => absurd (of_decide_eq_true h0) hn0, fun h0 => ?_⟩
    refine loopB [(0, none, 1)] ?_
    simp (config := {dsimp := false}) only [↓vp0, vz, vn, nq, tys, cellD, wideIR, if_true, if_false, implies_true, forall_const, ne_eq, reduceIte, reduceCtorEq, Nat.reduceEqDiff, Nat.reduceAdd, Nat.reduceMul, Nat.reduceLT, Nat.reduceSub, Nat.reduceLeDiff, Nat.reduceBNe, Nat.reduceBEq, Nat.reduceBeqDiff, List.range, List.range.loop, gl0, Tryd.ntmps33, Tryd.results33, adoptB]
    refine ⟨{k : Nat // k ≤ dep l.length}, (fun k => [(0, .sl .no 32 (arrs (rowAt l k.1))), (3, .bp 8 0), (4, .bp 12 0)]), (fun k => ⟨[(0, .sl (.tok 28) 1 (slis ((pairsTo l k.1).map textOf))), (8, .fn 36 [.bp 0 0]), (12, .arr .u8 32 (List.replicate 32 0))], [(28, ((pairsTo l k.1).length, 1))], 32⟩), (fun k => dep l.length - k.1), ⟨0, Nat.zero_le _⟩, (fun _ => rfl), ?_, ?_⟩
    · exact ⟨⟨wkD_eq rfl, rfl, wkD_eq rfl, rfl, wkD_eq rfl, rfl, trivial⟩, ⟨rfl, Nat.le_of_ble_eq_true rfl, rfl, rfl, Nat.le_of_ble_eq_true rfl, rfl, rfl, Nat.le_of_ble_eq_true rfl, rfl, trivial⟩, ⟨rfl, Nat.le_of_ble_eq_true rfl, trivial⟩⟩
    rintro ⟨k, hk⟩
    have hk1 := row_more k l
    have hk2 := row_h32 hl k
    have hk3 := row_len_le l k
    simp (config := {dsimp := false}) only [↓vp0, vz, vn, nq, tys, cellD, wideIR, if_true, if_false, implies_true, forall_const, ne_eq, reduceIte, reduceCtorEq, Nat.reduceEqDiff, Nat.reduceAdd, Nat.reduceMul, Nat.reduceLT, Nat.reduceSub, Nat.reduceLeDiff, Nat.reduceBNe, Nat.reduceBEq, Nat.reduceBeqDiff, List.range, List.range.loop, gl0, Tryd.ntmps33, Tryd.results33, retB, vb, arrs_length, spec_chunk, sp_chunk, c_chunk, b_chunk, gives, PF.toR]
    refine ⟨fun h => ?_, fun h => ?_⟩
    · have h := of_decide_eq_true h
      have hkd : k < dep l.length := hk1.1 (by omega)
      generalize hr : rowAt l k = r at hk1 hk2 hk3 h
      rw [strips_arrs]
      refine rangeB [(44, none, 32)] ?_
      simp (config := {dsimp := false}) only [↓vp0, vz, vn, nq, tys, cellD, wideIR, if_true, if_false, implies_true, forall_const, ne_eq, reduceIte, reduceCtorEq, Nat.reduceEqDiff, Nat.reduceAdd, Nat.reduceMul, Nat.reduceLT, Nat.reduceSub, Nat.reduceLeDiff, Nat.reduceBNe, Nat.reduceBEq, Nat.reduceBeqDiff, List.range, List.range.loop, gl0, Tryd.ntmps33, Tryd.results33, adoptB]
      have hT : ((pairsTo l k).map textOf).length = (pairsTo l k).length := List.length_map ..
      have hT2 : (pairsTo l k).length ≤ 3000 := by have := pairsTo_len l (by omega) k hk; have := dep_lt l.length (List.length_pos_iff.2 hne); omega
      generalize hm' : (pairsTo l k).map textOf = T at hT
      generalize hn' : (pairsTo l k).length = n' at hT hT2
      refine rangeI [(3, .bp 8 0), (4, .bp 12 0), (5, .bp 44 0), (18, .fn 60 [.ip (.sl .no 32 (arrs r)) 0, .ip (.int .i64 2) 0])]
        (fun pre => ⟨[(0, .sl (.tok 28) 1 (slis (T ++ pre.map fun i => textOf (pairAt r i.1)))), (8, .fn 36 [.bp 0 0]), (12, .arr .u8 32 (List.replicate 32 0)), (44, .sl (.tok 56) 32 (arrs (pre.map fun i => joinP (pairAt r i.1))))], [(28, (n' + pre.length, 1)), (56, (pre.length, 32))], 60⟩)
        [(6, .tmp 19)] (iter_chunk rfl (arrs r) (by intro e; have := congrArg List.length e; simp [arrs] at this; subst this; simp at h) (by rw [arrs_length]; omega)) rfl (fun _ => rfl) ⟨rfl, by kernel_rfl, by kernel_rfl, by kernel_rfl⟩ (fun _ => rfl) ⟨⟨wkD_eq rfl, rfl, wkD_eq rfl, rfl, wkD_eq rfl, rfl, wkD_eq rfl, rfl, trivial⟩, ⟨?_, Nat.le_of_ble_eq_true rfl, rfl, rfl, Nat.le_of_ble_eq_true rfl, rfl, rfl, Nat.le_of_ble_eq_true rfl, rfl, rfl, Nat.le_of_ble_eq_true rfl, rfl, trivial⟩, ⟨rfl, Nat.le_of_ble_eq_true rfl, rfl, Nat.le_of_ble_eq_true rfl, trivial⟩⟩ ?_ ?_
      · exact congrArg (fun x => some (D.sl (.tok 28) 1 (slis x))) (List.append_nil T).symm
      · rintro pre ⟨i, hi⟩ hpre
        have hi' : i < (r.length + 1) / 2 := by have := hi; rwa [arrs_length] at this
        have hpre' : pre.length < (r.length + 1) / 2 := by have := arrs_length r; omega
        by_cases h2 : 2 * i + 2 ≤ r.length
        · have hpa : ∀ q : List (Fin (((arrs r).length + 1) / 2)), (q ++ [(⟨i, hi⟩ : Fin (((arrs r).length + 1) / 2))]).map (fun i : Fin (((arrs r).length + 1) / 2) => textOf (pairAt r i.1)) = q.map (fun i : Fin (((arrs r).length + 1) / 2) => textOf (pairAt r i.1)) ++ [r.getD (2 * i) [] ++ r.getD (2 * i + 1) []] := fun q => by simp [pairAt, h2, textOf]
          have hpb : ∀ q : List (Fin (((arrs r).length + 1) / 2)), (q ++ [(⟨i, hi⟩ : Fin (((arrs r).length + 1) / 2))]).map (fun i : Fin (((arrs r).length + 1) / 2) => joinP (pairAt r i.1)) = q.map (fun i : Fin (((arrs r).length + 1) / 2) => joinP (pairAt r i.1)) ++ [H2 (r.getD (2 * i) []) (r.getD (2 * i + 1) [])] := fun q => by simp [pairAt, h2, joinP]
          simp only [chunk_two r i h2, hpa, hpb]
          have ha := hk2 _ (getD_mem (show 2 * i < r.length by omega))
          have hb := hk2 _ (getD_mem (show 2 * i + 1 < r.length by omega))
          generalize r.getD (2 * i) [] = a at ha
          generalize r.getD (2 * i + 1) [] = b at hb
          simp (config := {dsimp := false}) only [↓vp0, vz, vn, nq, tys, cellD, wideIR, if_true, if_false, implies_true, forall_const, ne_eq, reduceIte, reduceCtorEq, Nat.reduceEqDiff, Nat.reduceAdd, Nat.reduceMul, Nat.reduceLT, Nat.reduceSub, Nat.reduceLeDiff, Nat.reduceBNe, Nat.reduceBEq, Nat.reduceBeqDiff, List.range, List.range.loop, gl0, Tryd.ntmps33, Tryd.results33, arrs_length]
          have hTl : (slis (T ++ pre.map fun i => textOf (pairAt r i.1))).length = n' + pre.length := by rw [slis_length, List.length_append, List.length_map, hT]
          refine drawX [6, 3, 4, 5, 18] [(9, [0, 1, 2, 3, 4, 5, 6, 7, 8, 10]), (10, [0, 1, 2, 3, 4, 5, 6, 7, 8, 9]), (11, [3, 4, 5, 6, 7, 8])] [(11, [96])] (by kernel_rfl) (wild_of rfl) ?_
          simp (config := {dsimp := false}) only [↓vp0, vz, vn, nq, tys, cellD, wideIR, if_true, if_false, implies_true, forall_const, ne_eq, reduceIte, reduceCtorEq, Nat.reduceEqDiff, Nat.reduceAdd, Nat.reduceMul, Nat.reduceLT, Nat.reduceSub, Nat.reduceLeDiff, Nat.reduceBNe, Nat.reduceBEq, Nat.reduceBeqDiff, List.range, List.range.loop, gl0, Tryd.ntmps33, Tryd.results33, vb, ↓vy0, vx0, arrs_length, w21, show Int.toNat 0 = 0 from rfl, show Int.toNat 1 = 1 from rfl, List.getD_cons_zero, List.getD_cons_succ, PF.toR, gives, givesIf, ha, hb, spec_pair, sp_pair, c_pair, b_pair, spec_textsEach, sp_textsEach, c_textsEach, b_textsEach, strips_slis']
          refine ⟨by decide, by decide, by decide, by decide, okUps_of (by kernel_rfl) rfl, okUps_of (by kernel_rfl) rfl, okUps_of (by kernel_rfl) rfl, okUps_all rfl (by kernel_rfl), by first | rw [hTl] | exact hTl.symm.trans (slis_length _), by omega, ⟨_, rfl⟩, ?_⟩
          refine drawI [5, 9] (by kernel_rfl) ?_
          simp (config := {dsimp := false}) only [↓vp0, vz, vn, nq, tys, cellD, wideIR, if_true, if_false, implies_true, forall_const, ne_eq, reduceIte, reduceCtorEq, Nat.reduceEqDiff, Nat.reduceAdd, Nat.reduceMul, Nat.reduceLT, Nat.reduceSub, Nat.reduceLeDiff, Nat.reduceBNe, Nat.reduceBEq, Nat.reduceBeqDiff, List.range, List.range.loop, gl0, Tryd.ntmps33, Tryd.results33, PF.toR, gives, givesIf, List.length_append, ha, hb, spec_twice, sp_twice, c_twice, b_twice, List.foldl_append, List.foldl_cons, List.foldl_nil]
          have hpl : (arrs (pre.map fun i => joinP (pairAt r i.1))).length = pre.length := by rw [arrs_length, List.length_map]
          refine ⟨by rw [hpl], by rw [hpl]; omega, .inr trivial, .inr trivial, by kernel_rfl, by kernel_rfl, ⟨trivial, ⟨?_, Nat.le_of_ble_eq_true rfl, rfl, rfl, Nat.le_of_ble_eq_true rfl, rfl, rfl, Nat.le_of_ble_eq_true rfl, rfl, ?_, Nat.le_of_ble_eq_true rfl, rfl, trivial⟩, ⟨?_, Nat.le_of_ble_eq_true rfl, ?_, Nat.le_of_ble_eq_true rfl, trivial⟩⟩⟩
          · exact congrArg (fun x => some (D.sl (.tok 28) 1 x)) (strips_snoc T _ _)
          · exact congrArg (fun x => some (D.sl (.tok 56) 32 x)) (arrs_append _ [H2 a b])
          · rfl
          · exact congrArg (fun n => some (n + 1, 32)) hpl
        · have h3 : 2 * i + 1 = r.length := by omega
          have hpa : ∀ q : List (Fin (((arrs r).length + 1) / 2)), (q ++ [(⟨i, hi⟩ : Fin (((arrs r).length + 1) / 2))]).map (fun i : Fin (((arrs r).length + 1) / 2) => textOf (pairAt r i.1)) = q.map (fun i : Fin (((arrs r).length + 1) / 2) => textOf (pairAt r i.1)) ++ [r.getD (2 * i) [] ++ r.getD (2 * i) []] := fun q => by simp [pairAt, h2, textOf]
          have hpb : ∀ q : List (Fin (((arrs r).length + 1) / 2)), (q ++ [(⟨i, hi⟩ : Fin (((arrs r).length + 1) / 2))]).map (fun i : Fin (((arrs r).length + 1) / 2) => joinP (pairAt r i.1)) = q.map (fun i : Fin (((arrs r).length + 1) / 2) => joinP (pairAt r i.1)) ++ [H2 (r.getD (2 * i) []) (r.getD (2 * i) [])] := fun q => by simp [pairAt, h2, joinP]
          simp only [chunk_one r i h3, hpa, hpb]
          have ha := hk2 _ (getD_mem (show 2 * i < r.length by omega))
          generalize r.getD (2 * i) [] = a at ha
          simp (config := {dsimp := false}) only [↓vp0, vz, vn, nq, tys, cellD, wideIR, if_true, if_false, implies_true, forall_const, ne_eq, reduceIte, reduceCtorEq, Nat.reduceEqDiff, Nat.reduceAdd, Nat.reduceMul, Nat.reduceLT, Nat.reduceSub, Nat.reduceLeDiff, Nat.reduceBNe, Nat.reduceBEq, Nat.reduceBeqDiff, List.range, List.range.loop, gl0, Tryd.ntmps33, Tryd.results33, arrs_length]
          have hTl : (slis (T ++ pre.map fun i => textOf (pairAt r i.1))).length = n' + pre.length := by rw [slis_length, List.length_append, List.length_map, hT]
          refine drawX [6, 3, 4, 5, 18] [(9, [0, 1, 2, 3, 4, 5, 6, 7, 8, 10]), (10, [0, 1, 2, 3, 4, 5, 6, 7, 8, 9]), (11, [3, 4, 5, 6, 7, 8])] [(11, [96])] (by kernel_rfl) (wild_of rfl) ?_
          simp (config := {dsimp := false}) only [↓vp0, vz, vn, nq, tys, cellD, wideIR, if_true, if_false, implies_true, forall_const, ne_eq, reduceIte, reduceCtorEq, Nat.reduceEqDiff, Nat.reduceAdd, Nat.reduceMul, Nat.reduceLT, Nat.reduceSub, Nat.reduceLeDiff, Nat.reduceBNe, Nat.reduceBEq, Nat.reduceBeqDiff, List.range, List.range.loop, gl0, Tryd.ntmps33, Tryd.results33, vb, ↓vy0, vx0, arrs_length, w10, show Int.toNat 0 = 0 from rfl, show Int.toNat 1 = 1 from rfl, List.getD_cons_zero, List.getD_cons_succ, PF.toR, gives, givesIf, ha, spec_pair, sp_pair, c_pair, b_pair, spec_textsEach, sp_textsEach, c_textsEach, b_textsEach, strips_slis']
          refine ⟨by decide, by decide, by decide, by decide, okUps_of (by kernel_rfl) rfl, okUps_of (by kernel_rfl) rfl, okUps_of (by kernel_rfl) rfl, okUps_all rfl (by kernel_rfl), by first | rw [hTl] | exact hTl.symm.trans (slis_length _), by omega, ⟨_, rfl⟩, ?_⟩
          refine drawI [5, 9] (by kernel_rfl) ?_
          simp (config := {dsimp := false}) only [↓vp0, vz, vn, nq, tys, cellD, wideIR, if_true, if_false, implies_true, forall_const, ne_eq, reduceIte, reduceCtorEq, Nat.reduceEqDiff, Nat.reduceAdd, Nat.reduceMul, Nat.reduceLT, Nat.reduceSub, Nat.reduceLeDiff, Nat.reduceBNe, Nat.reduceBEq, Nat.reduceBeqDiff, List.range, List.range.loop, gl0, Tryd.ntmps33, Tryd.results33, PF.toR, gives, givesIf, List.length_append, ha, spec_twice, sp_twice, c_twice, b_twice, List.foldl_append, List.foldl_cons, List.foldl_nil]
          have hpl : (arrs (pre.map fun i => joinP (pairAt r i.1))).length = pre.length := by rw [arrs_length, List.length_map]
          refine ⟨by rw [hpl], by rw [hpl]; omega, .inr trivial, .inr trivial, by kernel_rfl, by kernel_rfl, ⟨trivial, ⟨?_, Nat.le_of_ble_eq_true rfl, rfl, rfl, Nat.le_of_ble_eq_true rfl, rfl, rfl, Nat.le_of_ble_eq_true rfl, rfl, ?_, Nat.le_of_ble_eq_true rfl, rfl, trivial⟩, ⟨?_, Nat.le_of_ble_eq_true rfl, ?_, Nat.le_of_ble_eq_true rfl, trivial⟩⟩⟩
          · exact congrArg (fun x => some (D.sl (.tok 28) 1 x)) (strips_snoc T _ _)
          · exact congrArg (fun x => some (D.sl (.tok 56) 32 x)) (arrs_append _ [H2 a a])
          · rfl
          · exact congrArg (fun n => some (n + 1, 32)) hpl
      · simp (config := {dsimp := false}) only [↓vp0, vz, vn, nq, tys, cellD, wideIR, if_true, if_false, implies_true, forall_const, ne_eq, reduceIte, reduceCtorEq, Nat.reduceEqDiff, Nat.reduceAdd, Nat.reduceMul, Nat.reduceLT, Nat.reduceSub, Nat.reduceLeDiff, Nat.reduceBNe, Nat.reduceBEq, Nat.reduceBeqDiff, List.range, List.range.loop, gl0, Tryd.ntmps33, Tryd.results33, retB, vb]
        simp only [above_fin r (show ((arrs r).length + 1) / 2 = (r.length + 1) / 2 by rw [arrs_length]), texts_fin r (show ((arrs r).length + 1) / 2 = (r.length + 1) / 2 by rw [arrs_length])]
        subst hr hm' hn'
        refine ⟨⟨k + 1, hkd⟩, ⟨⟨.inr ⟨_, rfl⟩, rfl, wkD_eq rfl, rfl, wkD_eq rfl, rfl, trivial⟩, ⟨?_, Nat.le_of_ble_eq_true rfl, rfl, rfl, Nat.le_of_ble_eq_true rfl, rfl, rfl, Nat.le_of_ble_eq_true rfl, rfl, trivial⟩, ⟨?_, Nat.le_of_ble_eq_true rfl, trivial⟩⟩, by (try simp only); omega⟩
        · exact congrArg (fun b => some (D.sl (.tok 28) 1 (slis b))) (List.map_append ..).symm
        · refine congrArg (fun n => some (n, 1)) ?_
          simp [pairsTo, pairsOf, arrs_length]
    · have h := of_decide_eq_false h
      have h00 := arrs_get (rowAt l k) 0 (List.length_pos_iff.2 (row_pos l hne k))
      simp (config := {dsimp := false}) only [↓vp0, vz, vn, nq, tys, cellD, wideIR, if_true, if_false, implies_true, forall_const, ne_eq, reduceIte, reduceCtorEq, Nat.reduceEqDiff, Nat.reduceAdd, Nat.reduceMul, Nat.reduceLT, Nat.reduceSub, Nat.reduceLeDiff, Nat.reduceBNe, Nat.reduceBEq, Nat.reduceBeqDiff, List.range, List.range.loop, gl0, Tryd.ntmps33, Tryd.results33, retB, vb, h00, show Int.toNat 0 = 0 from rfl]
      have he := row_end hk (by omega)
      have hp := List.length_pos_iff.2 (row_pos l hne k)
      refine ⟨by decide, by omega, [], [28], [], ⟨rfl, rfl⟩, ⟨rfl, rfl⟩, ⟨by simp, by simp⟩, by simp, rfl, ?_, ⟨_, rfl, ?_⟩, ⟨_, rfl, rfl⟩, ?_⟩
      · rw [hs_arrs, allP, ← he]
        rfl
      · rw [hs_arrs, allP, ← he]
        exact congrArg (fun x => [D.sl (.tok 8) 1 x]) (strips_slis' true _)
      · rw [hs_arrs, rootP, if_neg hne, ← he]
        exact id rfl
  case h_4 =>
    rename_i es g k0 i0 z n0
    obtain ⟨rfl, hes0, ⟨l, rfl, hl⟩, hlen, rfl, hi0, hi1, rfl⟩ := hv
    simp only [arrs_length] at hlen
    refine ⟨by simp, Nat.le_of_ble_eq_true rfl, ?_⟩
    simp (config := {dsimp := false}) only [↓vp0, vz, vn, nq, tys, cellD, wideIR, if_true, if_false, implies_true, forall_const, ne_eq, reduceIte, reduceCtorEq, Nat.reduceEqDiff, Nat.reduceAdd, Nat.reduceMul, Nat.reduceLT, Nat.reduceSub, Nat.reduceLeDiff, Nat.reduceBNe, Nat.reduceBEq, Nat.reduceBeqDiff, List.range, List.range.loop, gl0, Tryd.ntmps33, Tryd.results33, retB, vb, arrs_length, hs_arrs]
    have hne : l ≠ [] := fun e => hes0 (by subst e; rfl)
    have hn0 : ¬ ((l.length : Int) = 0) := fun e => hne (List.eq_nil_of_length_eq_zero (by omega))
    refine ⟨fun h0 => absurd (of_decide_eq_true h0) hn0, fun h0 => ?_⟩
    obtain ⟨i0, rfl⟩ : ∃ x : Nat, i0 = (x : Int) := ⟨i0.toNat, by omega⟩
    have hnn' : (((arrs l).length : Nat) : Int).toNat = l.length := by rw [Int.toNat_natCast, arrs_length]
    have hii : (i0 : Int).toNat = i0 := rfl
    refine loopB [(2, none, 32)] ?_
    simp (config := {dsimp := false}) only [↓vp0, vz, vn, nq, tys, cellD, wideIR, if_true, if_false, implies_true, forall_const, ne_eq, reduceIte, reduceCtorEq, Nat.reduceEqDiff, Nat.reduceAdd, Nat.reduceMul, Nat.reduceLT, Nat.reduceSub, Nat.reduceLeDiff, Nat.reduceBNe, Nat.reduceBEq, Nat.reduceBeqDiff, List.range, List.range.loop, gl0, Tryd.ntmps33, Tryd.results33, adoptB]
    refine ⟨{k : Nat // k ≤ dep l.length}, (fun k => [(0, .sl .no 32 (arrs (rowAt l k.1))), (3, .bp 8 0), (4, .bp 12 0)]), (fun k => ⟨[(0, .int .i64 (((pairsTo l k.1).foldl stepB (0, i0, [], l.length)).1 : Nat)), (1, .int .i64 (((pairsTo l k.1).foldl stepB (0, i0, [], l.length)).2.1 : Nat)), (2, .sl (.tok 28) 32 (arrs ((pairsTo l k.1).foldl stepB (0, i0, [], l.length)).2.2.1)), (3, .int .i64 (((pairsTo l k.1).foldl stepB (0, i0, [], l.length)).2.2.2 : Nat)), (8, .fn 39 [.bp 0 0, .bp 1 0, .bp 2 0, .bp 3 0]), (12, .arr .u8 32 (List.replicate 32 0))], [(28, (((pairsTo l k.1).foldl stepB (0, i0, [], l.length)).2.2.1.length, 32))], 32⟩), (fun k => dep l.length - k.1), ⟨0, Nat.zero_le _⟩, (fun _ => rfl), ?_, ?_⟩
    · exact ⟨⟨wkD_eq rfl, rfl, wkD_eq rfl, rfl, wkD_eq rfl, rfl, trivial⟩, ⟨rfl, Nat.le_of_ble_eq_true rfl, rfl, rfl, Nat.le_of_ble_eq_true rfl, rfl, rfl, Nat.le_of_ble_eq_true rfl, rfl, rfl, Nat.le_of_ble_eq_true rfl, rfl, rfl, Nat.le_of_ble_eq_true rfl, rfl, rfl, Nat.le_of_ble_eq_true rfl, rfl, trivial⟩, ⟨rfl, Nat.le_of_ble_eq_true rfl, trivial⟩⟩
    rintro ⟨k, hk⟩
    have hk1 := row_more k l
    have hk2 := row_h32 hl k
    have hk3 := row_len_le l k
    simp (config := {dsimp := false}) only [↓vp0, vz, vn, nq, tys, cellD, wideIR, if_true, if_false, implies_true, forall_const, ne_eq, reduceIte, reduceCtorEq, Nat.reduceEqDiff, Nat.reduceAdd, Nat.reduceMul, Nat.reduceLT, Nat.reduceSub, Nat.reduceLeDiff, Nat.reduceBNe, Nat.reduceBEq, Nat.reduceBeqDiff, List.range, List.range.loop, gl0, Tryd.ntmps33, Tryd.results33, retB, vb, arrs_length, spec_chunk, sp_chunk, c_chunk, b_chunk, gives, PF.toR]
    refine ⟨fun h => ?_, fun h => ?_⟩
    · have h := of_decide_eq_true h
      have hkd : k < dep l.length := hk1.1 (by omega)
      generalize hr : rowAt l k = r at hk1 hk2 hk3 h
      rw [strips_arrs]
      refine rangeB [(44, none, 32)] ?_
      simp (config := {dsimp := false}) only [↓vp0, vz, vn, nq, tys, cellD, wideIR, if_true, if_false, implies_true, forall_const, ne_eq, reduceIte, reduceCtorEq, Nat.reduceEqDiff, Nat.reduceAdd, Nat.reduceMul, Nat.reduceLT, Nat.reduceSub, Nat.reduceLeDiff, Nat.reduceBNe, Nat.reduceBEq, Nat.reduceBeqDiff, List.range, List.range.loop, gl0, Tryd.ntmps33, Tryd.results33, adoptB]
      have hT2 : (pairsTo l k).length ≤ 3000 := by have := pairsTo_len l (by omega) k hk; have := dep_lt l.length (List.length_pos_iff.2 hne); omega
      have hB := okB_fold (A := 0) (B := 1000) (C := 1000) (by omega) (pairsTo l k) (fun p hp => pairsTo_len32 hl k p hp) (0, i0, [], l.length) ⟨Nat.zero_le _, by simp only; omega, Nat.zero_le _, fun x hx => absurd hx List.not_mem_nil, by simp only; omega⟩
      generalize hm' : (pairsTo l k).foldl stepB (0, i0, [], l.length) = T at hB
      refine rangeI [(3, .bp 8 0), (4, .bp 12 0), (5, .bp 44 0), (18, .fn 60 [.ip (.sl .no 32 (arrs r)) 0, .ip (.int .i64 2) 0])]
        (fun pre => ⟨[(0, .int .i64 (((pre.map fun i => pairAt r i.1).foldl stepB T).1 : Nat)), (1, .int .i64 (((pre.map fun i => pairAt r i.1).foldl stepB T).2.1 : Nat)), (2, .sl (.tok 28) 32 (arrs ((pre.map fun i => pairAt r i.1).foldl stepB T).2.2.1)), (3, .int .i64 (((pre.map fun i => pairAt r i.1).foldl stepB T).2.2.2 : Nat)), (8, .fn 39 [.bp 0 0, .bp 1 0, .bp 2 0, .bp 3 0]), (12, .arr .u8 32 (List.replicate 32 0)), (44, .sl (.tok 56) 32 (arrs (pre.map fun i => joinP (pairAt r i.1))))], [(28, (((pre.map fun i => pairAt r i.1).foldl stepB T).2.2.1.length, 32)), (56, (pre.length, 32))], 60⟩)
        [(6, .tmp 19)] (iter_chunk rfl (arrs r) (by intro e; have := congrArg List.length e; simp [arrs] at this; subst this; simp at h) (by rw [arrs_length]; omega)) rfl (fun _ => rfl) ⟨rfl, by kernel_rfl, by kernel_rfl, by kernel_rfl⟩ (fun _ => rfl) ⟨⟨wkD_eq rfl, rfl, wkD_eq rfl, rfl, wkD_eq rfl, rfl, wkD_eq rfl, rfl, trivial⟩, ⟨rfl, Nat.le_of_ble_eq_true rfl, rfl, rfl, Nat.le_of_ble_eq_true rfl, rfl, rfl, Nat.le_of_ble_eq_true rfl, rfl, rfl, Nat.le_of_ble_eq_true rfl, rfl, rfl, Nat.le_of_ble_eq_true rfl, rfl, rfl, Nat.le_of_ble_eq_true rfl, rfl, rfl, Nat.le_of_ble_eq_true rfl, rfl, trivial⟩, ⟨rfl, Nat.le_of_ble_eq_true rfl, rfl, Nat.le_of_ble_eq_true rfl, trivial⟩⟩ ?_ ?_
      · rintro pre ⟨i, hi⟩ hpre
        have hi' : i < (r.length + 1) / 2 := by have := hi; rwa [arrs_length] at this
        have hpre' : pre.length < (r.length + 1) / 2 := by have := arrs_length r; omega
        by_cases h2 : 2 * i + 2 ≤ r.length
        · have hpa : ∀ q : List (Fin (((arrs r).length + 1) / 2)), ((q ++ [(⟨i, hi⟩ : Fin (((arrs r).length + 1) / 2))]).map (fun i : Fin (((arrs r).length + 1) / 2) => pairAt r i.1)).foldl stepB T = stepB ((q.map (fun i : Fin (((arrs r).length + 1) / 2) => pairAt r i.1)).foldl stepB T) (r.getD (2 * i) [], r.getD (2 * i + 1) [], false) := fun q => by simp [List.foldl_append, pairAt, h2]
          have hpb : ∀ q : List (Fin (((arrs r).length + 1) / 2)), (q ++ [(⟨i, hi⟩ : Fin (((arrs r).length + 1) / 2))]).map (fun i : Fin (((arrs r).length + 1) / 2) => joinP (pairAt r i.1)) = q.map (fun i : Fin (((arrs r).length + 1) / 2) => joinP (pairAt r i.1)) ++ [H2 (r.getD (2 * i) []) (r.getD (2 * i + 1) [])] := fun q => by simp [pairAt, h2, joinP]
          simp only [chunk_two r i h2, hpa, hpb]
          have ha := hk2 _ (getD_mem (show 2 * i < r.length by omega))
          have hb := hk2 _ (getD_mem (show 2 * i + 1 < r.length by omega))
          generalize r.getD (2 * i) [] = a at ha
          generalize r.getD (2 * i + 1) [] = b at hb
          simp (config := {dsimp := false}) only [↓vp0, vz, vn, nq, tys, cellD, wideIR, if_true, if_false, implies_true, forall_const, ne_eq, reduceIte, reduceCtorEq, Nat.reduceEqDiff, Nat.reduceAdd, Nat.reduceMul, Nat.reduceLT, Nat.reduceSub, Nat.reduceLeDiff, Nat.reduceBNe, Nat.reduceBEq, Nat.reduceBeqDiff, List.range, List.range.loop, gl0, Tryd.ntmps33, Tryd.results33, arrs_length]
          have hB2 := okB_fold (C := 1000) (by omega) (pre.map fun i => pairAt r i.1) (fun p hp => by
            obtain ⟨j, _, rfl⟩ := List.mem_map.1 hp
            have hj : j.1 < (r.length + 1) / 2 := by have h1 := j.2; have h2 := arrs_length r; omega
            exact pairAt_len hk2 hj) T hB
          have hpm : (pre.map fun i => pairAt r i.1).length = pre.length := List.length_map ..
          generalize (pre.map fun i => pairAt r i.1).foldl stepB T = G at hB2
          obtain ⟨hG1, hG2, hG3, hG4, hG5⟩ := hB2
          refine drawX [6, 3, 4, 5, 18] [(9, [0, 1, 2, 3, 4, 5, 6, 7, 8, 10]), (10, [0, 1, 2, 3, 4, 5, 6, 7, 8, 9]), (11, [3, 4, 5, 6, 7, 8])] [(11, [96])] (by kernel_rfl) (wild_of rfl) ?_
          simp (config := {dsimp := false}) only [↓vp0, vz, vn, nq, tys, cellD, wideIR, if_true, if_false, implies_true, forall_const, ne_eq, reduceIte, reduceCtorEq, Nat.reduceEqDiff, Nat.reduceAdd, Nat.reduceMul, Nat.reduceLT, Nat.reduceSub, Nat.reduceLeDiff, Nat.reduceBNe, Nat.reduceBEq, Nat.reduceBeqDiff, List.range, List.range.loop, gl0, Tryd.ntmps33, Tryd.results33, vb, ↓vy0, vx0, arrs_length, w21, show Int.toNat 0 = 0 from rfl, show Int.toNat 1 = 1 from rfl, List.getD_cons_zero, List.getD_cons_succ, PF.toR, gives, givesIf, ha, hb, spec_pair, sp_pair, c_pair, b_pair, spec_branchEach, sp_branchEach, c_branchEach, b_branchEach, strips_arrs, hs_arrs, arrs_length, Int.toNat_natCast, bs_eta]
          refine ⟨by decide, by decide, by decide, by decide, okUps_of (by kernel_rfl) rfl, okUps_of (by kernel_rfl) rfl, okUps_of (by kernel_rfl) rfl, okUps_all rfl (by kernel_rfl), by omega, ⟨_, rfl, hG4⟩, by omega, by omega, by omega, by omega, by omega, by omega, ?_⟩
          refine drawI [5, 9] (by kernel_rfl) ?_
          simp (config := {dsimp := false}) only [↓vp0, vz, vn, nq, tys, cellD, wideIR, if_true, if_false, implies_true, forall_const, ne_eq, reduceIte, reduceCtorEq, Nat.reduceEqDiff, Nat.reduceAdd, Nat.reduceMul, Nat.reduceLT, Nat.reduceSub, Nat.reduceLeDiff, Nat.reduceBNe, Nat.reduceBEq, Nat.reduceBeqDiff, List.range, List.range.loop, gl0, Tryd.ntmps33, Tryd.results33, PF.toR, gives, givesIf, List.length_append, ha, hb, spec_twice, sp_twice, c_twice, b_twice, List.foldl_append, List.foldl_cons, List.foldl_nil]
          have hpl : (arrs (pre.map fun i => joinP (pairAt r i.1))).length = pre.length := by rw [arrs_length, List.length_map]
          refine ⟨by rw [hpl], by rw [hpl]; omega, .inr trivial, .inr trivial, by kernel_rfl, by kernel_rfl, ⟨trivial, ⟨rfl, Nat.le_of_ble_eq_true rfl, rfl, rfl, Nat.le_of_ble_eq_true rfl, rfl, rfl, Nat.le_of_ble_eq_true rfl, rfl, rfl, Nat.le_of_ble_eq_true rfl, rfl, rfl, Nat.le_of_ble_eq_true rfl, rfl, rfl, Nat.le_of_ble_eq_true rfl, rfl, ?_, Nat.le_of_ble_eq_true rfl, rfl, trivial⟩, ⟨rfl, Nat.le_of_ble_eq_true rfl, ?_, Nat.le_of_ble_eq_true rfl, trivial⟩⟩⟩
          · exact congrArg (fun x => some (D.sl (.tok 56) 32 x)) (arrs_append _ [H2 a b])
          · exact congrArg (fun n => some (n + 1, 32)) hpl
        · have h3 : 2 * i + 1 = r.length := by omega
          have hpa : ∀ q : List (Fin (((arrs r).length + 1) / 2)), ((q ++ [(⟨i, hi⟩ : Fin (((arrs r).length + 1) / 2))]).map (fun i : Fin (((arrs r).length + 1) / 2) => pairAt r i.1)).foldl stepB T = stepB ((q.map (fun i : Fin (((arrs r).length + 1) / 2) => pairAt r i.1)).foldl stepB T) (r.getD (2 * i) [], r.getD (2 * i) [], true) := fun q => by simp [List.foldl_append, pairAt, h2]
          have hpb : ∀ q : List (Fin (((arrs r).length + 1) / 2)), (q ++ [(⟨i, hi⟩ : Fin (((arrs r).length + 1) / 2))]).map (fun i : Fin (((arrs r).length + 1) / 2) => joinP (pairAt r i.1)) = q.map (fun i : Fin (((arrs r).length + 1) / 2) => joinP (pairAt r i.1)) ++ [H2 (r.getD (2 * i) []) (r.getD (2 * i) [])] := fun q => by simp [pairAt, h2, joinP]
          simp only [chunk_one r i h3, hpa, hpb]
          have ha := hk2 _ (getD_mem (show 2 * i < r.length by omega))
          generalize r.getD (2 * i) [] = a at ha
          simp (config := {dsimp := false}) only [↓vp0, vz, vn, nq, tys, cellD, wideIR, if_true, if_false, implies_true, forall_const, ne_eq, reduceIte, reduceCtorEq, Nat.reduceEqDiff, Nat.reduceAdd, Nat.reduceMul, Nat.reduceLT, Nat.reduceSub, Nat.reduceLeDiff, Nat.reduceBNe, Nat.reduceBEq, Nat.reduceBeqDiff, List.range, List.range.loop, gl0, Tryd.ntmps33, Tryd.results33, arrs_length]
          have hB2 := okB_fold (C := 1000) (by omega) (pre.map fun i => pairAt r i.1) (fun p hp => by
            obtain ⟨j, _, rfl⟩ := List.mem_map.1 hp
            have hj : j.1 < (r.length + 1) / 2 := by have h1 := j.2; have h2 := arrs_length r; omega
            exact pairAt_len hk2 hj) T hB
          have hpm : (pre.map fun i => pairAt r i.1).length = pre.length := List.length_map ..
          generalize (pre.map fun i => pairAt r i.1).foldl stepB T = G at hB2
          obtain ⟨hG1, hG2, hG3, hG4, hG5⟩ := hB2
          refine drawX [6, 3, 4, 5, 18] [(9, [0, 1, 2, 3, 4, 5, 6, 7, 8, 10]), (10, [0, 1, 2, 3, 4, 5, 6, 7, 8, 9]), (11, [3, 4, 5, 6, 7, 8])] [(11, [96])] (by kernel_rfl) (wild_of rfl) ?_
          simp (config := {dsimp := false}) only [↓vp0, vz, vn, nq, tys, cellD, wideIR, if_true, if_false, implies_true, forall_const, ne_eq, reduceIte, reduceCtorEq, Nat.reduceEqDiff, Nat.reduceAdd, Nat.reduceMul, Nat.reduceLT, Nat.reduceSub, Nat.reduceLeDiff, Nat.reduceBNe, Nat.reduceBEq, Nat.reduceBeqDiff, List.range, List.range.loop, gl0, Tryd.ntmps33, Tryd.results33, vb, ↓vy0, vx0, arrs_length, w10, show Int.toNat 0 = 0 from rfl, show Int.toNat 1 = 1 from rfl, List.getD_cons_zero, List.getD_cons_succ, PF.toR, gives, givesIf, ha, spec_pair, sp_pair, c_pair, b_pair, spec_branchEach, sp_branchEach, c_branchEach, b_branchEach, strips_arrs, hs_arrs, arrs_length, Int.toNat_natCast, bs_eta]
          refine ⟨by decide, by decide, by decide, by decide, okUps_of (by kernel_rfl) rfl, okUps_of (by kernel_rfl) rfl, okUps_of (by kernel_rfl) rfl, okUps_all rfl (by kernel_rfl), by omega, ⟨_, rfl, hG4⟩, by omega, by omega, by omega, by omega, by omega, by omega, ?_⟩
          refine drawI [5, 9] (by kernel_rfl) ?_
          simp (config := {dsimp := false}) only [↓vp0, vz, vn, nq, tys, cellD, wideIR, if_true, if_false, implies_true, forall_const, ne_eq, reduceIte, reduceCtorEq, Nat.reduceEqDiff, Nat.reduceAdd, Nat.reduceMul, Nat.reduceLT, Nat.reduceSub, Nat.reduceLeDiff, Nat.reduceBNe, Nat.reduceBEq, Nat.reduceBeqDiff, List.range, List.range.loop, gl0, Tryd.ntmps33, Tryd.results33, PF.toR, gives, givesIf, List.length_append, ha, spec_twice, sp_twice, c_twice, b_twice, List.foldl_append, List.foldl_cons, List.foldl_nil]
          have hpl : (arrs (pre.map fun i => joinP (pairAt r i.1))).length = pre.length := by rw [arrs_length, List.length_map]
          refine ⟨by rw [hpl], by rw [hpl]; omega, .inr trivial, .inr trivial, by kernel_rfl, by kernel_rfl, ⟨trivial, ⟨rfl, Nat.le_of_ble_eq_true rfl, rfl, rfl, Nat.le_of_ble_eq_true rfl, rfl, rfl, Nat.le_of_ble_eq_true rfl, rfl, rfl, Nat.le_of_ble_eq_true rfl, rfl, rfl, Nat.le_of_ble_eq_true rfl, rfl, rfl, Nat.le_of_ble_eq_true rfl, rfl, ?_, Nat.le_of_ble_eq_true rfl, rfl, trivial⟩, ⟨rfl, Nat.le_of_ble_eq_true rfl, ?_, Nat.le_of_ble_eq_true rfl, trivial⟩⟩⟩
          · exact congrArg (fun x => some (D.sl (.tok 56) 32 x)) (arrs_append _ [H2 a a])
          · exact congrArg (fun n => some (n + 1, 32)) hpl
      · simp (config := {dsimp := false}) only [↓vp0, vz, vn, nq, tys, cellD, wideIR, if_true, if_false, implies_true, forall_const, ne_eq, reduceIte, reduceCtorEq, Nat.reduceEqDiff, Nat.reduceAdd, Nat.reduceMul, Nat.reduceLT, Nat.reduceSub, Nat.reduceLeDiff, Nat.reduceBNe, Nat.reduceBEq, Nat.reduceBeqDiff, List.range, List.range.loop, gl0, Tryd.ntmps33, Tryd.results33, retB, vb]
        simp only [above_fin r (show ((arrs r).length + 1) / 2 = (r.length + 1) / 2 by rw [arrs_length]), pairs_fin r (show ((arrs r).length + 1) / 2 = (r.length + 1) / 2 by rw [arrs_length])]
        subst hr hm'
        have hf : (pairsOf (rowAt l k)).foldl stepB ((pairsTo l k).foldl stepB (0, i0, [], l.length)) = (pairsTo l (k + 1)).foldl stepB (0, i0, [], l.length) := (List.foldl_append ..).symm
        rw [hf]
        exact ⟨⟨k + 1, hkd⟩, ⟨⟨.inr ⟨_, rfl⟩, rfl, wkD_eq rfl, rfl, wkD_eq rfl, rfl, trivial⟩, ⟨rfl, Nat.le_of_ble_eq_true rfl, rfl, rfl, Nat.le_of_ble_eq_true rfl, rfl, rfl, Nat.le_of_ble_eq_true rfl, rfl, rfl, Nat.le_of_ble_eq_true rfl, rfl, rfl, Nat.le_of_ble_eq_true rfl, rfl, rfl, Nat.le_of_ble_eq_true rfl, rfl, trivial⟩, ⟨rfl, Nat.le_of_ble_eq_true rfl, trivial⟩⟩, by (try simp only); omega⟩
    · have h := of_decide_eq_false h
      have h00 := arrs_get (rowAt l k) 0 (List.length_pos_iff.2 (row_pos l hne k))
      simp (config := {dsimp := false}) only [↓vp0, vz, vn, nq, tys, cellD, wideIR, if_true, if_false, implies_true, forall_const, ne_eq, reduceIte, reduceCtorEq, Nat.reduceEqDiff, Nat.reduceAdd, Nat.reduceMul, Nat.reduceLT, Nat.reduceSub, Nat.reduceLeDiff, Nat.reduceBNe, Nat.reduceBEq, Nat.reduceBeqDiff, List.range, List.range.loop, gl0, Tryd.ntmps33, Tryd.results33, retB, vb, h00, show Int.toNat 0 = 0 from rfl]
      have he := row_end hk (by omega)
      have hp := List.length_pos_iff.2 (row_pos l hne k)
      refine ⟨by decide, by omega, [], [28], [], ⟨rfl, rfl⟩, ⟨rfl, rfl⟩, ⟨by simp, by simp⟩, by simp, rfl, ?_, ⟨_, rfl, ?_⟩, ⟨_, rfl, rfl⟩, ?_⟩
      · rw [hs_arrs, hnn', hii, allP, ← he]
        rfl
      · rw [hs_arrs, hnn', hii, allP, ← he]
        exact congrArg (fun x => [D.int .i64 _, D.int .i64 _, D.sl (.tok 8) 32 x, D.int .i64 _]) (strips_arrs true _)
      · rw [hs_arrs, rootP, if_neg hne, ← he]
        exact id rfl
  case h_5 =>
    rename_i g m
    subst hv
    refine ⟨by simp, Nat.le_of_ble_eq_true rfl, ?_⟩
    simp (config := {dsimp := false}) only [↓vp0, vz, vn, nq, tys, cellD, wideIR, if_true, if_false, implies_true, forall_const, ne_eq, reduceIte, reduceCtorEq, Nat.reduceEqDiff, Nat.reduceAdd, Nat.reduceMul, Nat.reduceLT, Nat.reduceSub, Nat.reduceLeDiff, Nat.reduceBNe, Nat.reduceBEq, Nat.reduceBeqDiff, List.range, List.range.loop, gl0, Tryd.ntmps33, Tryd.results33, retB, vb, show decide (((0 : Nat) : Int) = 0) = true from rfl]
    exact ⟨[], [], [], ⟨rfl, rfl⟩, ⟨rfl, rfl⟩, ⟨by simp, by simp⟩, by simp, rfl, rfl, ⟨_, rfl, rfl⟩, ⟨_, rfl, rfl⟩, id rfl⟩
end Go.Vi.CM
end

section
/-
  TWO HASHES OF PAIRS, reckoned by the kernel.
-/
namespace Go.Vi
set_option maxRecDepth 100000 in
theorem works_ne : decide (H2 one32 one32 = H2 one32 two32) = false := by kernel_rfl
end Go.Vi
end

section
set_option linter.unusedVariables false
set_option linter.unusedSimpArgs false
set_option maxHeartbeats 0
set_option maxRecDepth 20000
namespace Go.Vi.CM
open Go.Proofs

theorem c_root : Contract E 12 := by
  refine contract_seeT hE hgl (show E.P.funcs[12]? = some Tryd.f12 from Tryd.func12) rfl (p := sp_root) (fun _ _ _ => rfl) ?_
  intro args hv
  unfold sp_root at hv ⊢
  split at hv
  case h_3 => exact hv.elim
  case h_2 =>
    refine ⟨by simp, Nat.le_of_ble_eq_true rfl, ?_⟩
    simp (config := {dsimp := false}) only [↓vp0, vz, vn, nq, tys, cellD, wideIR, if_true, if_false, implies_true, forall_const, ne_eq, reduceIte, reduceCtorEq, Nat.reduceEqDiff, Nat.reduceAdd, Nat.reduceMul, Nat.reduceLT, Nat.reduceSub, Nat.reduceLeDiff, Nat.reduceBNe, Nat.reduceBEq, Nat.reduceBeqDiff, List.range, List.range.loop, gl0, Tryd.ntmps12, Tryd.results12, vb, PF.toR, gives, givesIf, spec_rows, sp_rows, c_rows, b_rows]
    refine drawX [2, 3] [(2, [1])] [(2, [0])] (by kernel_rfl) (wild_of rfl) ?_
    simp (config := {dsimp := false}) only [↓vp0, vz, vn, nq, tys, cellD, wideIR, if_true, if_false, implies_true, forall_const, ne_eq, reduceIte, reduceCtorEq, Nat.reduceEqDiff, Nat.reduceAdd, Nat.reduceMul, Nat.reduceLT, Nat.reduceSub, Nat.reduceLeDiff, Nat.reduceBNe, Nat.reduceBEq, Nat.reduceBeqDiff, List.range, List.range.loop, gl0, Tryd.ntmps12, Tryd.results12, vb, ↓vy0, vx0]
    ((repeat' apply And.intro) <;> first | decide | omega | exact okUps_of (by kernel_rfl) rfl | exact okUps_all rfl (by kernel_rfl) | rfl)
  rename_i es
  refine ⟨by simp, Nat.le_of_ble_eq_true rfl, ?_⟩
  simp only [givesIf] at hv
  obtain ⟨⟨l, rfl, hl⟩, hlen⟩ := hv
  simp (config := {dsimp := false}) only [↓vp0, vz, vn, nq, tys, cellD, wideIR, if_true, if_false, implies_true, forall_const, ne_eq, reduceIte, reduceCtorEq, Nat.reduceEqDiff, Nat.reduceAdd, Nat.reduceMul, Nat.reduceLT, Nat.reduceSub, Nat.reduceLeDiff, Nat.reduceBNe, Nat.reduceBEq, Nat.reduceBeqDiff, List.range, List.range.loop, gl0, Tryd.ntmps12, Tryd.results12, vb, PF.toR, gives, givesIf, spec_rows, sp_rows, c_rows, b_rows, strips_arrs, hs_arrs]
  refine ⟨⟨l, rfl, hl⟩, hlen, ?_⟩
  refine drawX [2, 3] [(2, [1])] [(2, [0])] (by kernel_rfl) (wild_of rfl) ?_
  simp (config := {dsimp := false}) only [↓vp0, vz, vn, nq, tys, cellD, wideIR, if_true, if_false, implies_true, forall_const, ne_eq, reduceIte, reduceCtorEq, Nat.reduceEqDiff, Nat.reduceAdd, Nat.reduceMul, Nat.reduceLT, Nat.reduceSub, Nat.reduceLeDiff, Nat.reduceBNe, Nat.reduceBEq, Nat.reduceBeqDiff, List.range, List.range.loop, gl0, Tryd.ntmps12, Tryd.results12, vb, ↓vy0, vx0]
  exact ⟨okUps_of (by kernel_rfl) rfl, okUps_all rfl (by kernel_rfl), by rw [hs_arrs]; rfl⟩
theorem c_works : Contract E 11 := by
  refine contract_seeT hE hgl (show E.P.funcs[11]? = some Tryd.f11 from Tryd.func11) rfl (p := sp_works) (fun _ _ _ => rfl) ?_
  intro args hv
  unfold sp_works at hv ⊢
  split at hv
  case h_2 => exact hv.elim
  refine ⟨by simp, Nat.le_of_ble_eq_true rfl, ?_⟩
  have o1 : (List.replicate 32 (0 : Int)).set 0 1 = one32 := rfl
  have o2 : (List.replicate 32 (0 : Int)).set 0 2 = two32 := rfl
  have r1 : rootP (hs [D.arr .u8 32 one32, D.arr .u8 32 two32]) = H2 one32 two32 := root_two _ _
  have r2 : rootP (hs [D.arr .u8 32 one32, D.arr .u8 32 one32]) = H2 one32 one32 := root_two _ _
  have m1 : mutP (allP (hs [D.arr .u8 32 one32, D.arr .u8 32 two32])) = false := by rw [show hs [D.arr .u8 32 one32, D.arr .u8 32 two32] = [one32, two32] from rfl, all_two]; rfl
  have m2 : mutP (allP (hs [D.arr .u8 32 one32, D.arr .u8 32 one32])) = true := by rw [show hs [D.arr .u8 32 one32, D.arr .u8 32 one32] = [one32, one32] from rfl, all_two]; rfl
  simp (config := {dsimp := false}) only [↓vp0, vz, vn, nq, tys, cellD, wideIR, if_true, if_false, implies_true, forall_const, ne_eq, reduceIte, reduceCtorEq, Nat.reduceEqDiff, Nat.reduceAdd, Nat.reduceMul, Nat.reduceLT, Nat.reduceSub, Nat.reduceLeDiff, Nat.reduceBNe, Nat.reduceBEq, Nat.reduceBeqDiff, List.range, List.range.loop, gl0, Tryd.ntmps11, Tryd.results11, vb, PF.toR, gives, givesIf, bare_arr, o1, o2, spec_root, sp_root, c_root, b_root]
  simp only [r1, r2, m1, m2]
  have e3 : decide (H2 one32 two32 = sumP (sumP (one32 ++ two32))) = true := decide_eq_true rfl
  have t1 : List.take (((32 : Nat) : Int) - 0).toNat (List.drop (Int.toNat 0) one32) = one32 := rfl
  have t2 : List.take (((32 : Nat) : Int) - 0).toNat (List.drop (Int.toNat 0) two32) = two32 := rfl
  refine ⟨⟨[one32, two32], rfl, by intro h hm; simp at hm; rcases hm with rfl | rfl <;> rfl⟩, ⟨[one32, one32], rfl, by intro h hm; simp at hm; subst hm; rfl⟩, ?_⟩
  refine drawX [1, 2, 3, 4, 5, 6] [(3, [0, 4]), (5, [0])] [(5, [120])] (by kernel_rfl) (wild_of rfl) ?_
  simp (config := {dsimp := false}) only [↓vp0, vz, vn, nq, tys, cellD, wideIR, if_true, if_false, implies_true, forall_const, ne_eq, reduceIte, reduceCtorEq, Nat.reduceEqDiff, Nat.reduceAdd, Nat.reduceMul, Nat.reduceLT, Nat.reduceSub, Nat.reduceLeDiff, Nat.reduceBNe, Nat.reduceBEq, Nat.reduceBeqDiff, List.range, List.range.loop, gl0, Tryd.ntmps11, Tryd.results11, vb, ↓vy0, vx0, PF.toR, gives, givesIf, e3, t1, t2, works_ne, spec_twice, sp_twice, c_twice, b_twice]
  ((repeat' apply And.intro) <;> first | decide | omega | exact okUps_of (by kernel_rfl) rfl | exact okUps_all rfl (by kernel_rfl) | rfl)
end Go.Vi.CM
end

section
set_option linter.unusedVariables false
set_option linter.unusedSimpArgs false
set_option maxHeartbeats 0
set_option maxRecDepth 20000
namespace Go.Vi.CM
open Go.Proofs

theorem wanted_0 {L : List TxP} (h : L.length = 0) : wantedP L = none := by
  obtain rfl := List.eq_nil_of_length_eq_zero h; rfl
theorem wanted_1 {t : TxP} {r : List TxP} (h : ¬ t.ins.length = 1) : wantedP (t :: r) = none := by
  obtain ⟨v, i, o, k⟩ := t
  match i, h with
  | [], _ => rfl
  | [x], h => exact absurd rfl h
  | x :: y :: q, _ => rfl
theorem wanted_2 {t : TxP} {r : List TxP} {x : InP} (h : t.ins = [x]) (h2 : ¬ x.wit.length = 1) : wantedP (t :: r) = none := by
  obtain ⟨v, i, o, k⟩ := t
  obtain rfl : i = [x] := h
  obtain ⟨p, n, s, q, w⟩ := x
  match w, h2 with
  | [], _ => rfl
  | [w], h2 => exact absurd rfl h2
  | w :: y :: q, _ => rfl
theorem wanted_3 {t : TxP} {r : List TxP} {x : InP} {w : List Int} (h : t.ins = [x]) (h2 : x.wit = [w]) : wantedP (t :: r) = if w.length = 32 then some (H2 (rootP (hashesP true (t :: r))) w) else none := by
  obtain ⟨v, i, o, k⟩ := t
  obtain rfl : i = [x] := h
  obtain ⟨p, n, s, q, w⟩ := x
  obtain rfl : w = [_] := h2
  rfl
theorem root_len {l : L2} (h : h32 l) : (rootP l).length = 32 := by
  unfold rootP
  split
  · simp
  · rename_i hne
    exact row_h32 h _ _ (getD_mem (List.length_pos_iff.2 (row_pos l hne _)))
theorem one_of {α : Type} {l : List α} (h : l.length = 1) : ∃ x, l = [x] := List.length_eq_one_iff.1 h
theorem c_gwanted : Contract E 29 := by
  refine contract_seeT hE hgl (show E.P.funcs[29]? = some Tryd.f29 from Tryd.func29) rfl (p := sp_gwanted) (fun _ _ _ => rfl) ?_
  intro args hv
  unfold sp_gwanted at hv ⊢
  split at hv
  case h_2 => exact hv.elim
  rename_i h0 hp hr h1 h2 h3 es
  refine ⟨by simp, Nat.le_of_ble_eq_true rfl, ?_⟩
  simp only [givesIf] at hv
  obtain ⟨hhd, ⟨L, rfl, hok, hl⟩, hlen⟩ := hv
  simp only [txs_D, txsD_length] at hlen ⊢
  have hisL : isTxL (txsD L) := ⟨L, rfl, hok, hl⟩
  by_cases hz : L.length = 0
  · have d0 : decide (((L.length : Nat) : Int) = 0) = true := decide_eq_true (by omega)
    simp (config := {dsimp := false}) only [↓vp0, vz, vn, nq, tys, cellD, wideIR, if_true, if_false, implies_true, forall_const, ne_eq, reduceIte, reduceCtorEq, Nat.reduceEqDiff, Nat.reduceAdd, Nat.reduceMul, Nat.reduceLT, Nat.reduceSub, Nat.reduceLeDiff, Nat.reduceBNe, Nat.reduceBEq, Nat.reduceBeqDiff, List.range, List.range.loop, gl0, Tryd.ntmps29, Tryd.results29, d0, wanted_0 hz, hashV, givesIf]
    all_goals rfl
  have d0 : decide (((L.length : Nat) : Int) = 0) = false := decide_eq_false (by omega)
  obtain ⟨t, r, hL⟩ : ∃ t r, L = t :: r := by cases L with
    | nil => exact absurd rfl hz
    | cons t r => exact ⟨t, r, rfl⟩
  have g0 : (txsD L).getD (Int.toNat 0) .any = txD t := by rw [hL]; rfl
  have ht := hok t (by rw [hL]; exact List.mem_cons_self ..)
  have hmi := ht.mi
  by_cases hi : t.ins.length = 1
  case neg =>
    have d1 : decide (((t.ins.length : Nat) : Int) = 1) = false := decide_eq_false (by omega)
    have hw : wantedP L = none := by rw [hL]; exact wanted_1 hi
    simp (config := {dsimp := false}) only [↓vp0, vz, vn, nq, tys, cellD, wideIR, if_true, if_false, implies_true, forall_const, ne_eq, reduceIte, reduceCtorEq, Nat.reduceEqDiff, Nat.reduceAdd, Nat.reduceMul, Nat.reduceLT, Nat.reduceSub, Nat.reduceLeDiff, Nat.reduceBNe, Nat.reduceBEq, Nat.reduceBeqDiff, List.range, List.range.loop, gl0, Tryd.ntmps29, Tryd.results29, d0, d1, g0, txD, hw, hashV, givesIf]
    (repeat' apply And.intro) <;> first | exact Int.le_refl _ | omega | rfl
  have d1 : decide (((t.ins.length : Nat) : Int) = 1) = true := decide_eq_true (by omega)
  obtain ⟨x, hx⟩ := one_of hi
  have g1 : (insD t.ins).getD (Int.toNat 0) .any = inD x := by rw [hx]; rfl
  have hxo := ht.ins x (by rw [hx]; exact List.mem_cons_self ..)
  have hmw := hxo.many
  by_cases hwl : x.wit.length = 1
  case neg =>
    have d2 : decide (((x.wit.length : Nat) : Int) = 1) = false := decide_eq_false (by omega)
    have hw : wantedP L = none := by rw [hL]; exact wanted_2 hx hwl
    simp (config := {dsimp := false}) only [↓vp0, vz, vn, nq, tys, cellD, wideIR, if_true, if_false, implies_true, forall_const, ne_eq, reduceIte, reduceCtorEq, Nat.reduceEqDiff, Nat.reduceAdd, Nat.reduceMul, Nat.reduceLT, Nat.reduceSub, Nat.reduceLeDiff, Nat.reduceBNe, Nat.reduceBEq, Nat.reduceBeqDiff, List.range, List.range.loop, gl0, Tryd.ntmps29, Tryd.results29, d0, d1, d2, g0, g1, txD, inD, hw, hashV, givesIf]
    (repeat' apply And.intro) <;> first | exact Int.le_refl _ | omega | rfl
  have d2 : decide (((x.wit.length : Nat) : Int) = 1) = true := decide_eq_true (by omega)
  obtain ⟨w, hw⟩ := one_of hwl
  have g2 : (slis x.wit).getD (Int.toNat 0) .any = .sli .no .u8 w := by rw [hw]; rfl
  have hwo := (hxo.wit w (by rw [hw]; exact List.mem_cons_self ..)).2
  have hW : wantedP L = if w.length = 32 then some (H2 (rootP (hashesP true L)) w) else none := by rw [hL]; exact wanted_3 hx hw
  by_cases h32' : w.length = 32
  case neg =>
    have d3 : decide (((w.length : Nat) : Int) = 32) = false := decide_eq_false (by omega)
    rw [if_neg h32'] at hW
    simp (config := {dsimp := false}) only [↓vp0, vz, vn, nq, tys, cellD, wideIR, if_true, if_false, implies_true, forall_const, ne_eq, reduceIte, reduceCtorEq, Nat.reduceEqDiff, Nat.reduceAdd, Nat.reduceMul, Nat.reduceLT, Nat.reduceSub, Nat.reduceLeDiff, Nat.reduceBNe, Nat.reduceBEq, Nat.reduceBeqDiff, List.range, List.range.loop, gl0, Tryd.ntmps29, Tryd.results29, d0, d1, d2, d3, g0, g1, g2, txD, inD, hW, hashV, givesIf]
    (repeat' apply And.intro) <;> first | exact Int.le_refl _ | omega | rfl
  have d3 : decide (((w.length : Nat) : Int) = 32) = true := decide_eq_true (by omega)
  rw [if_pos h32'] at hW
  have tw : w.take 32 = w := List.take_of_length_le (by omega)
  have hrl : (rootP (hashesP true L)).length = 32 := root_len (hashes_32 true L)
  simp (config := {dsimp := false}) only [↓vp0, vz, vn, nq, tys, cellD, wideIR, if_true, if_false, implies_true, forall_const, ne_eq, reduceIte, reduceCtorEq, Nat.reduceEqDiff, Nat.reduceAdd, Nat.reduceMul, Nat.reduceLT, Nat.reduceSub, Nat.reduceLeDiff, Nat.reduceBNe, Nat.reduceBEq, Nat.reduceBeqDiff, List.range, List.range.loop, gl0, Tryd.ntmps29, Tryd.results29, PF.toR, d0, d1, d2, d3, g0, g1, g2, txD, inD, hW, hashV, givesIf, strips_arrs, hs_arrs, spec_fulls, sp_fulls, c_fulls, b_fulls, spec_root, sp_root, c_root, b_root]
  refine ⟨Int.le_refl _, by omega, Int.le_refl _, by omega, Int.le_refl _, by omega, Int.le_refl _, by omega, hhd, hisL, by omega, ⟨_, rfl, hashes_32 true L⟩, by rw [arrs_length, hashes_len]; omega, ?_⟩
  refine drawI [2, 4, 5] (by kernel_rfl) ?_
  simp (config := {dsimp := false}) only [↓vp0, vz, vn, nq, tys, cellD, wideIR, if_true, if_false, implies_true, forall_const, ne_eq, reduceIte, reduceCtorEq, Nat.reduceEqDiff, Nat.reduceAdd, Nat.reduceMul, Nat.reduceLT, Nat.reduceSub, Nat.reduceLeDiff, Nat.reduceBNe, Nat.reduceBEq, Nat.reduceBeqDiff, List.range, List.range.loop, gl0, Tryd.ntmps29, Tryd.results29, PF.toR, g2, hrl, h32', tw, givesIf, spec_pair, sp_pair, c_pair, b_pair, spec_twice, sp_twice, c_twice, b_twice]
  refine ⟨Int.le_refl _, by omega, by rw [List.length_append, hrl, h32']; decide, by kernel_rfl, ?_⟩
  rw [hW]; rfl
end Go.Vi.CM
end

section
set_option linter.unusedVariables false
set_option linter.unusedSimpArgs false
set_option maxHeartbeats 0
set_option maxRecDepth 20000
namespace Go.Vi.CM
open Go.Proofs

theorem mix_set {a b : List Int} {m : Nat} (ha : m < a.length) (hb : m < b.length) : (a.take m ++ b.drop m).set m (a.getD m 0) = a.take (m + 1) ++ b.drop (m + 1) := by
  apply List.ext_getElem
  · simp; omega
  · intro i h1 h2
    rw [List.getElem_set]
    split
    · rename_i e
      subst e
      rw [List.getElem_append_left (by simp; omega)]
      simp [List.getD, ha]
    · rename_i hne
      rcases Nat.lt_or_ge i m with h | h
      · rw [List.getElem_append_left (by simp; omega), List.getElem_append_left (by simp; omega)]; simp
      · rw [List.getElem_append_right (by simp; omega), List.getElem_append_right (by simp; omega)]
        simp only [List.getElem_drop, List.length_take]
        congr 1
        omega
theorem mix_all {a b : List Int} {m : Nat} (ha : a.length = m) (hb : b.length = m) : a.take m ++ b.drop m = a := by
  rw [List.take_of_length_le (by omega), List.drop_of_length_le (by omega), List.append_nil]
theorem mark_snoc (l : List OutP) (x : OutP) : lastMark (l ++ [x]) = if markedP x.script = true then some ((x.script.drop 6).take 32) else lastMark l := by
  induction l with
  | nil => rfl
  | cons y r ih =>
    by_cases hm : markedP x.script = true
    · simp only [List.cons_append, lastMark, ih, hm, if_true]
    · simp only [List.cons_append, lastMark, ih, hm, if_false]; rfl
def hOf (o : Option (List Int)) : List Int := o.getD (List.replicate 32 0)
theorem mark_len {l : List OutP} {h : List Int} (e : lastMark l = some h) : h.length = 32 := by
  induction l with
  | nil => cases e
  | cons y r ih =>
    simp only [lastMark] at e
    split at e
    · rename_i h' e'; cases e; exact ih e'
    · split at e
      · rename_i hm; cases e
        have := of_decide_eq_true (Bool.and_eq_true_iff.1 hm).1
        simp only [List.length_take, List.length_drop]; omega
      · cases e
theorem hOf_len (l : List OutP) : (hOf (lastMark l)).length = 32 := by
  cases e : lastMark l with
  | none => rfl
  | some h => exact mark_len e
theorem hashV_eq (o : Option (List Int)) : hashV o = .tup [.arr .u8 32 (hOf o), .bool o.isSome] := by cases o <;> rfl
theorem mark_not {s : List Int} {i : Nat} (h : i < 6) {c : Int} (hc : markB.getD i 0 = c) (hl : 38 ≤ s.length) (e : ¬ s.getD i 0 = c) : markedP s = false := by
  unfold markedP
  rw [decide_eq_false (p := s.take 6 = _), Bool.and_false]
  intro h6
  apply e
  have h6 : s.take 6 = markB := h6
  rw [← hc, ← h6]
  simp [List.getD, List.getElem?_take, h]
theorem mark_yes {s : List Int} (hl : 38 ≤ s.length) (e0 : s.getD 0 0 = 106) (e1 : s.getD 1 0 = 36) (e2 : s.getD 2 0 = 170) (e3 : s.getD 3 0 = 33) (e4 : s.getD 4 0 = 169) (e5 : s.getD 5 0 = 237) : markedP s = true := by
  unfold markedP
  match s, hl with
  | a :: b :: c :: d :: e :: f :: r, hl =>
    simp only [List.getD_cons_zero, List.getD_cons_succ] at e0 e1 e2 e3 e4 e5
    subst e0 e1 e2 e3 e4 e5
    rw [decide_eq_true hl]; simp
theorem c_rcommit : Contract E 28 := by
  refine contract_seeT hE hgl (show E.P.funcs[28]? = some Tryd.f28 from Tryd.func28) rfl (p := sp_gcommit) (fun _ _ _ => rfl) ?_
  intro args hv
  unfold sp_gcommit at hv ⊢
  split at hv
  case h_2 => exact hv.elim
  rename_i h0 hp hr h1 h2 h3 es
  refine ⟨by simp, Nat.le_of_ble_eq_true rfl, ?_⟩
  simp only [givesIf] at hv
  obtain ⟨hhd, L, rfl, hok, hl⟩ := hv
  simp only [txs_D]
  rw [hashV_eq]
  by_cases hz : L.length = 0
  · obtain rfl := List.eq_nil_of_length_eq_zero hz
    simp (config := {dsimp := false}) only [↓vp0, vz, vn, nq, tys, cellD, wideIR, if_true, if_false, implies_true, forall_const, ne_eq, reduceIte, reduceCtorEq, Nat.reduceEqDiff, Nat.reduceAdd, Nat.reduceMul, Nat.reduceLT, Nat.reduceSub, Nat.reduceLeDiff, Nat.reduceBNe, Nat.reduceBEq, Nat.reduceBeqDiff, List.range, List.range.loop, gl0, Tryd.ntmps28, Tryd.results28, show txsD [] = [] from rfl, show decide (((0 : Nat) : Int) = 0) = true from rfl, commitP, hOf, givesIf]
    all_goals rfl
  have d0 : decide (((L.length : Nat) : Int) = 0) = false := decide_eq_false (by omega)
  obtain ⟨t, r, hL⟩ : ∃ t r, L = t :: r := by cases L with
    | nil => exact absurd rfl hz
    | cons t r => exact ⟨t, r, rfl⟩
  have g0 : (txsD L).getD (Int.toNat 0) .any = txD t := by rw [hL]; rfl
  have ht := hok t (by rw [hL]; exact List.mem_cons_self ..)
  have hmo := ht.mo
  have hC : commitP L = lastMark t.outs := by rw [hL]; rfl
  simp (config := {dsimp := false}) only [↓vp0, vz, vn, nq, tys, cellD, wideIR, if_true, if_false, implies_true, forall_const, ne_eq, reduceIte, reduceCtorEq, Nat.reduceEqDiff, Nat.reduceAdd, Nat.reduceMul, Nat.reduceLT, Nat.reduceSub, Nat.reduceLeDiff, Nat.reduceBNe, Nat.reduceBEq, Nat.reduceBeqDiff, List.range, List.range.loop, gl0, Tryd.ntmps28, Tryd.results28, d0]
  refine loopI (Fin (t.outs.length + 1)) (fun k => [(6, .int .i64 (k.1 : Nat)), (5, .bool (lastMark (t.outs.take k.1)).isSome), (1, .bp 0 0), (2, .bp 4 0), (4, .bp 12 0)]) (fun k => ⟨[(0, .agg [.agg [.int .u32 h0, .arr .u8 32 hp, .arr .u8 32 hr, .int .u32 h1, .int .u32 h2, .int .u32 h3], .sl .no 4 (txsD L)]), (4, .arr .u8 32 (List.replicate 32 0)), (12, .arr .u8 32 (hOf (lastMark (t.outs.take k.1))))], [], 40⟩) (fun k => t.outs.length - k.1) 0 (fun _ => rfl) ?_ ?_
  · exact ⟨⟨wkD_eq rfl, rfl, wkD_eq rfl, rfl, wkD_eq rfl, rfl, wkD_eq rfl, rfl, wkD_eq rfl, rfl, trivial⟩, ⟨rfl, Nat.le_of_ble_eq_true rfl, rfl, rfl, Nat.le_of_ble_eq_true rfl, rfl, rfl, Nat.le_of_ble_eq_true rfl, rfl, trivial⟩, trivial⟩
  rintro ⟨k, hk⟩
  simp (config := {dsimp := false}) only [↓vp0, vz, vn, nq, tys, cellD, wideIR, if_true, if_false, implies_true, forall_const, ne_eq, reduceIte, reduceCtorEq, Nat.reduceEqDiff, Nat.reduceAdd, Nat.reduceMul, Nat.reduceLT, Nat.reduceSub, Nat.reduceLeDiff, Nat.reduceBNe, Nat.reduceBEq, Nat.reduceBeqDiff, List.range, List.range.loop, gl0, Tryd.ntmps28, Tryd.results28, g0, txD]
  refine ⟨Int.le_refl _, by omega, fun hh => ?_, fun hh => ?_⟩
  · have hh := of_decide_eq_true hh
    have hk' : k < t.outs.length := by omega
    have g1 := outsD_get t.outs k hk'
    have hx := ht.outs _ (getD_memI hk')
    have htk : t.outs.take (k + 1) = t.outs.take k ++ [t.outs.getD k default] := by rw [List.take_add_one]; simp [List.getD, hk']
    have hsn := mark_snoc (t.outs.take k) (t.outs.getD k default)
    rw [← htk] at hsn
    obtain ⟨x, hxe⟩ : ∃ x, t.outs.getD k default = x := ⟨_, rfl⟩
    rw [hxe] at g1 hx hsn
    obtain ⟨old, hold⟩ : ∃ o, hOf (lastMark (t.outs.take k)) = o := ⟨_, rfl⟩
    have hol : old.length = 32 := by rw [← hold]; exact hOf_len _
    have back : markedP x.script = false → lastMark (t.outs.take (k + 1)) = lastMark (t.outs.take k) := fun hm => by rw [hsn, hm]; rfl
    have hsl := hx.script.2
    by_cases c : 38 ≤ x.script.length
    case neg =>
      have hm : markedP x.script = false := by unfold markedP; rw [decide_eq_false c, Bool.false_and]
      have dl : decide (((x.script.length : Nat) : Int) < 38) = true := decide_eq_true (by omega)
      simp (config := {dsimp := false}) only [↓vp0, vz, vn, nq, tys, cellD, wideIR, if_true, if_false, implies_true, forall_const, ne_eq, reduceIte, reduceCtorEq, Nat.reduceEqDiff, Nat.reduceAdd, Nat.reduceMul, Nat.reduceLT, Nat.reduceSub, Nat.reduceLeDiff, Nat.reduceBNe, Nat.reduceBEq, Nat.reduceBeqDiff, List.range, List.range.loop, gl0, Tryd.ntmps28, Tryd.results28, g0, g1, txD, outD, Int.toNat_natCast, dl]
      refine ⟨Int.le_refl _, by omega, by omega, by omega, ⟨k + 1, by omega⟩, ⟨⟨wkD_eq ?_, rfl, wkD_eq ?_, rfl, wkD_eq rfl, rfl, wkD_eq rfl, rfl, wkD_eq rfl, rfl, trivial⟩, ⟨rfl, Nat.le_of_ble_eq_true rfl, rfl, rfl, Nat.le_of_ble_eq_true rfl, rfl, ?_, Nat.le_of_ble_eq_true rfl, rfl, trivial⟩, trivial⟩, by (try simp only); omega⟩
      · exact some_i64 (by (try simp only); omega)
      · rw [back hm]; rfl
      · rw [back hm]; rfl
    have dl : decide (((x.script.length : Nat) : Int) < 38) = false := decide_eq_false (by omega)
    by_cases e0 : x.script.getD 0 0 = 106
    case neg =>
      have hm := mark_not (i := 0) (by decide) (c := 106) rfl c e0
      simp (config := {dsimp := false}) only [↓vp0, vz, vn, nq, tys, cellD, wideIR, if_true, if_false, implies_true, forall_const, ne_eq, reduceIte, reduceCtorEq, Nat.reduceEqDiff, Nat.reduceAdd, Nat.reduceMul, Nat.reduceLT, Nat.reduceSub, Nat.reduceLeDiff, Nat.reduceBNe, Nat.reduceBEq, Nat.reduceBeqDiff, List.range, List.range.loop, gl0, Tryd.ntmps28, Tryd.results28, g0, g1, txD, outD, Int.toNat_natCast, dl, e0, show Int.toNat 0 = 0 from rfl, decide_true, decide_false]
      refine ⟨Int.le_refl _, by omega, by omega, by omega, by omega, by omega, ⟨k + 1, by omega⟩, ⟨⟨wkD_eq ?_, rfl, wkD_eq ?_, rfl, wkD_eq rfl, rfl, wkD_eq rfl, rfl, wkD_eq rfl, rfl, trivial⟩, ⟨rfl, Nat.le_of_ble_eq_true rfl, rfl, rfl, Nat.le_of_ble_eq_true rfl, rfl, ?_, Nat.le_of_ble_eq_true rfl, rfl, trivial⟩, trivial⟩, by (try simp only); omega⟩
      · exact some_i64 (by (try simp only); omega)
      · rw [back hm]; rfl
      · rw [back hm]; rfl
    by_cases e1 : x.script.getD 1 0 = 36
    case neg =>
      have hm := mark_not (i := 1) (by decide) (c := 36) rfl c e1
      simp (config := {dsimp := false}) only [↓vp0, vz, vn, nq, tys, cellD, wideIR, if_true, if_false, implies_true, forall_const, ne_eq, reduceIte, reduceCtorEq, Nat.reduceEqDiff, Nat.reduceAdd, Nat.reduceMul, Nat.reduceLT, Nat.reduceSub, Nat.reduceLeDiff, Nat.reduceBNe, Nat.reduceBEq, Nat.reduceBeqDiff, List.range, List.range.loop, gl0, Tryd.ntmps28, Tryd.results28, g0, g1, txD, outD, Int.toNat_natCast, dl, e0, e1, show Int.toNat 0 = 0 from rfl, show Int.toNat 1 = 1 from rfl, decide_true, decide_false]
      refine ⟨Int.le_refl _, by omega, by omega, by omega, by omega, by omega, by omega, by omega, ⟨k + 1, by omega⟩, ⟨⟨wkD_eq ?_, rfl, wkD_eq ?_, rfl, wkD_eq rfl, rfl, wkD_eq rfl, rfl, wkD_eq rfl, rfl, trivial⟩, ⟨rfl, Nat.le_of_ble_eq_true rfl, rfl, rfl, Nat.le_of_ble_eq_true rfl, rfl, ?_, Nat.le_of_ble_eq_true rfl, rfl, trivial⟩, trivial⟩, by (try simp only); omega⟩
      · exact some_i64 (by (try simp only); omega)
      · rw [back hm]; rfl
      · rw [back hm]; rfl
    by_cases e2 : x.script.getD 2 0 = 170
    case neg =>
      have hm := mark_not (i := 2) (by decide) (c := 170) rfl c e2
      simp (config := {dsimp := false}) only [↓vp0, vz, vn, nq, tys, cellD, wideIR, if_true, if_false, implies_true, forall_const, ne_eq, reduceIte, reduceCtorEq, Nat.reduceEqDiff, Nat.reduceAdd, Nat.reduceMul, Nat.reduceLT, Nat.reduceSub, Nat.reduceLeDiff, Nat.reduceBNe, Nat.reduceBEq, Nat.reduceBeqDiff, List.range, List.range.loop, gl0, Tryd.ntmps28, Tryd.results28, g0, g1, txD, outD, Int.toNat_natCast, dl, e0, e1, e2, show Int.toNat 0 = 0 from rfl, show Int.toNat 1 = 1 from rfl, show Int.toNat 2 = 2 from rfl, decide_true, decide_false]
      refine ⟨Int.le_refl _, by omega, by omega, by omega, by omega, by omega, by omega, by omega, by omega, by omega, ⟨k + 1, by omega⟩, ⟨⟨wkD_eq ?_, rfl, wkD_eq ?_, rfl, wkD_eq rfl, rfl, wkD_eq rfl, rfl, wkD_eq rfl, rfl, trivial⟩, ⟨rfl, Nat.le_of_ble_eq_true rfl, rfl, rfl, Nat.le_of_ble_eq_true rfl, rfl, ?_, Nat.le_of_ble_eq_true rfl, rfl, trivial⟩, trivial⟩, by (try simp only); omega⟩
      · exact some_i64 (by (try simp only); omega)
      · rw [back hm]; rfl
      · rw [back hm]; rfl
    by_cases e3 : x.script.getD 3 0 = 33
    case neg =>
      have hm := mark_not (i := 3) (by decide) (c := 33) rfl c e3
      simp (config := {dsimp := false}) only [↓vp0, vz, vn, nq, tys, cellD, wideIR, if_true, if_false, implies_true, forall_const, ne_eq, reduceIte, reduceCtorEq, Nat.reduceEqDiff, Nat.reduceAdd, Nat.reduceMul, Nat.reduceLT, Nat.reduceSub, Nat.reduceLeDiff, Nat.reduceBNe, Nat.reduceBEq, Nat.reduceBeqDiff, List.range, List.range.loop, gl0, Tryd.ntmps28, Tryd.results28, g0, g1, txD, outD, Int.toNat_natCast, dl, e0, e1, e2, e3, show Int.toNat 0 = 0 from rfl, show Int.toNat 1 = 1 from rfl, show Int.toNat 2 = 2 from rfl, show Int.toNat 3 = 3 from rfl, decide_true, decide_false]
      refine ⟨Int.le_refl _, by omega, by omega, by omega, by omega, by omega, by omega, by omega, by omega, by omega, by omega, by omega, ⟨k + 1, by omega⟩, ⟨⟨wkD_eq ?_, rfl, wkD_eq ?_, rfl, wkD_eq rfl, rfl, wkD_eq rfl, rfl, wkD_eq rfl, rfl, trivial⟩, ⟨rfl, Nat.le_of_ble_eq_true rfl, rfl, rfl, Nat.le_of_ble_eq_true rfl, rfl, ?_, Nat.le_of_ble_eq_true rfl, rfl, trivial⟩, trivial⟩, by (try simp only); omega⟩
      · exact some_i64 (by (try simp only); omega)
      · rw [back hm]; rfl
      · rw [back hm]; rfl
    by_cases e4 : x.script.getD 4 0 = 169
    case neg =>
      have hm := mark_not (i := 4) (by decide) (c := 169) rfl c e4
      simp (config := {dsimp := false}) only [↓vp0, vz, vn, nq, tys, cellD, wideIR, if_true, if_false, implies_true, forall_const, ne_eq, reduceIte, reduceCtorEq, Nat.reduceEqDiff, Nat.reduceAdd, Nat.reduceMul, Nat.reduceLT, Nat.reduceSub, Nat.reduceLeDiff, Nat.reduceBNe, Nat.reduceBEq, Nat.reduceBeqDiff, List.range, List.range.loop, gl0, Tryd.ntmps28, Tryd.results28, g0, g1, txD, outD, Int.toNat_natCast, dl, e0, e1, e2, e3, e4, show Int.toNat 0 = 0 from rfl, show Int.toNat 1 = 1 from rfl, show Int.toNat 2 = 2 from rfl, show Int.toNat 3 = 3 from rfl, show Int.toNat 4 = 4 from rfl, decide_true, decide_false]
      refine ⟨Int.le_refl _, by omega, by omega, by omega, by omega, by omega, by omega, by omega, by omega, by omega, by omega, by omega, by omega, by omega, ⟨k + 1, by omega⟩, ⟨⟨wkD_eq ?_, rfl, wkD_eq ?_, rfl, wkD_eq rfl, rfl, wkD_eq rfl, rfl, wkD_eq rfl, rfl, trivial⟩, ⟨rfl, Nat.le_of_ble_eq_true rfl, rfl, rfl, Nat.le_of_ble_eq_true rfl, rfl, ?_, Nat.le_of_ble_eq_true rfl, rfl, trivial⟩, trivial⟩, by (try simp only); omega⟩
      · exact some_i64 (by (try simp only); omega)
      · rw [back hm]; rfl
      · rw [back hm]; rfl
    by_cases e5 : x.script.getD 5 0 = 237
    case neg =>
      have hm := mark_not (i := 5) (by decide) (c := 237) rfl c e5
      simp (config := {dsimp := false}) only [↓vp0, vz, vn, nq, tys, cellD, wideIR, if_true, if_false, implies_true, forall_const, ne_eq, reduceIte, reduceCtorEq, Nat.reduceEqDiff, Nat.reduceAdd, Nat.reduceMul, Nat.reduceLT, Nat.reduceSub, Nat.reduceLeDiff, Nat.reduceBNe, Nat.reduceBEq, Nat.reduceBeqDiff, List.range, List.range.loop, gl0, Tryd.ntmps28, Tryd.results28, g0, g1, txD, outD, Int.toNat_natCast, dl, e0, e1, e2, e3, e4, e5, show Int.toNat 0 = 0 from rfl, show Int.toNat 1 = 1 from rfl, show Int.toNat 2 = 2 from rfl, show Int.toNat 3 = 3 from rfl, show Int.toNat 4 = 4 from rfl, show Int.toNat 5 = 5 from rfl, decide_true, decide_false]
      refine ⟨Int.le_refl _, by omega, by omega, by omega, by omega, by omega, by omega, by omega, by omega, by omega, by omega, by omega, by omega, by omega, by omega, by omega, ⟨k + 1, by omega⟩, ⟨⟨wkD_eq ?_, rfl, wkD_eq ?_, rfl, wkD_eq rfl, rfl, wkD_eq rfl, rfl, wkD_eq rfl, rfl, trivial⟩, ⟨rfl, Nat.le_of_ble_eq_true rfl, rfl, rfl, Nat.le_of_ble_eq_true rfl, rfl, ?_, Nat.le_of_ble_eq_true rfl, rfl, trivial⟩, trivial⟩, by (try simp only); omega⟩
      · exact some_i64 (by (try simp only); omega)
      · rw [back hm]; rfl
      · rw [back hm]; rfl
    have hm := mark_yes c e0 e1 e2 e3 e4 e5
    rw [hm, if_pos rfl] at hsn
    simp (config := {dsimp := false}) only [↓vp0, vz, vn, nq, tys, cellD, wideIR, if_true, if_false, implies_true, forall_const, ne_eq, reduceIte, reduceCtorEq, Nat.reduceEqDiff, Nat.reduceAdd, Nat.reduceMul, Nat.reduceLT, Nat.reduceSub, Nat.reduceLeDiff, Nat.reduceBNe, Nat.reduceBEq, Nat.reduceBeqDiff, List.range, List.range.loop, gl0, Tryd.ntmps28, Tryd.results28, g0, g1, txD, outD, Int.toNat_natCast, dl, e0, e1, e2, e3, e4, e5, show Int.toNat 0 = 0 from rfl, show Int.toNat 1 = 1 from rfl, show Int.toNat 2 = 2 from rfl, show Int.toNat 3 = 3 from rfl, show Int.toNat 4 = 4 from rfl, show Int.toNat 5 = 5 from rfl, decide_true]
    refine ⟨by omega, by omega, by omega, by omega, by omega, by omega, by omega, by omega, by omega, by omega, by omega, by omega, by omega, by omega, by omega, by omega, ?_⟩
    have ha : ((x.script.drop 6).take 32).length = 32 := by simp only [List.length_take, List.length_drop]; omega
    refine loopI (Fin 33) (fun m => [(8, .int .i64 (m.1 : Nat)), (7, .sli .no .u8 x.script), (6, .int .i64 (k : Nat)), (5, .bool true), (1, .bp 0 0), (2, .bp 4 0), (4, .bp 12 0)]) (fun m => ⟨[(0, .agg [.agg [.int .u32 h0, .arr .u8 32 hp, .arr .u8 32 hr, .int .u32 h1, .int .u32 h2, .int .u32 h3], .sl .no 4 (txsD L)]), (4, .arr .u8 32 (List.replicate 32 0)), (12, .arr .u8 32 (((x.script.drop 6).take 32).take m.1 ++ old.drop m.1))], [], 276⟩) (fun m => 32 - m.1) 0 (fun _ => rfl) ?_ ?_
    · refine ⟨⟨wkD_eq rfl, rfl, wkD_eq rfl, rfl, wkD_eq rfl, rfl, wkD_eq rfl, rfl, wkD_eq rfl, rfl, wkD_eq rfl, rfl, wkD_eq rfl, rfl, trivial⟩, ⟨rfl, Nat.le_of_ble_eq_true rfl, rfl, rfl, Nat.le_of_ble_eq_true rfl, rfl, ?_, Nat.le_of_ble_eq_true rfl, rfl, trivial⟩, trivial⟩
      show some (D.arr .u8 32 (hOf (lastMark (t.outs.take k)))) = _
      rw [hold]; rfl
    rintro ⟨m, hm'⟩
    simp (config := {dsimp := false}) only [↓vp0, vz, vn, nq, tys, cellD, wideIR, if_true, if_false, implies_true, forall_const, ne_eq, reduceIte, reduceCtorEq, Nat.reduceEqDiff, Nat.reduceAdd, Nat.reduceMul, Nat.reduceLT, Nat.reduceSub, Nat.reduceLeDiff, Nat.reduceBNe, Nat.reduceBEq, Nat.reduceBeqDiff, List.range, List.range.loop, gl0, Tryd.ntmps28, Tryd.results28]
    refine ⟨fun h2 => ?_, fun h2 => ?_⟩
    · have h2 := of_decide_eq_true h2
      have w6 : (IntKind.wrap .i64 (6 + ((m : Nat) : Int))) = ((6 + m : Nat) : Int) := by rw [IntWalk.i64_in _ (by omega)]; omega
      have hs := mix_set (a := (x.script.drop 6).take 32) (b := old) (m := m) (by omega) (by omega)
      have hg : ((x.script.drop 6).take 32).getD m 0 = x.script.getD (6 + m) 0 := by simp [List.getD, List.getElem?_take, show m < 32 by omega]
      simp (config := {dsimp := false}) only [↓vp0, vz, vn, nq, tys, cellD, wideIR, if_true, if_false, implies_true, forall_const, ne_eq, reduceIte, reduceCtorEq, Nat.reduceEqDiff, Nat.reduceAdd, Nat.reduceMul, Nat.reduceLT, Nat.reduceSub, Nat.reduceLeDiff, Nat.reduceBNe, Nat.reduceBEq, Nat.reduceBeqDiff, List.range, List.range.loop, gl0, Tryd.ntmps28, Tryd.results28, w6, Int.toNat_natCast]
      refine ⟨by omega, by omega, by omega, by omega, ⟨m + 1, by omega⟩, ⟨⟨wkD_eq ?_, rfl, wkD_eq rfl, rfl, wkD_eq rfl, rfl, wkD_eq rfl, rfl, wkD_eq rfl, rfl, wkD_eq rfl, rfl, wkD_eq rfl, rfl, trivial⟩, ⟨rfl, Nat.le_of_ble_eq_true rfl, rfl, rfl, Nat.le_of_ble_eq_true rfl, rfl, ?_, Nat.le_of_ble_eq_true rfl, rfl, trivial⟩, trivial⟩, by (try simp only); omega⟩
      · exact some_i64 (by (try simp only); omega)
      · show some (D.arr .u8 32 _) = some _
        rw [← hg, hs]
    · have h2 := of_decide_eq_false h2
      obtain rfl : m = 32 := by omega
      have hmx := mix_all (a := (x.script.drop 6).take 32) (b := old) ha hol
      refine ⟨⟨k + 1, by omega⟩, ⟨⟨wkD_eq ?_, rfl, wkD_eq ?_, rfl, wkD_eq rfl, rfl, wkD_eq rfl, rfl, wkD_eq rfl, rfl, trivial⟩, ⟨rfl, Nat.le_of_ble_eq_true rfl, rfl, rfl, Nat.le_of_ble_eq_true rfl, rfl, ?_, Nat.le_of_ble_eq_true rfl, rfl, trivial⟩, trivial⟩, by (try simp only); omega⟩
      · exact some_i64 (by (try simp only); omega)
      · rw [hsn]; rfl
      · rw [hsn]
        show some (D.arr .u8 32 (((x.script.drop 6).take 32).take 32 ++ old.drop 32)) = _
        rw [hmx]; rfl
  · have hh := of_decide_eq_false hh
    obtain rfl : k = t.outs.length := by omega
    simp (config := {dsimp := false}) only [↓vp0, vz, vn, nq, tys, cellD, wideIR, if_true, if_false, implies_true, forall_const, ne_eq, reduceIte, reduceCtorEq, Nat.reduceEqDiff, Nat.reduceAdd, Nat.reduceMul, Nat.reduceLT, Nat.reduceSub, Nat.reduceLeDiff, Nat.reduceBNe, Nat.reduceBEq, Nat.reduceBeqDiff, List.range, List.range.loop, gl0, Tryd.ntmps28, Tryd.results28, hC, List.take_length, givesIf]
    all_goals rfl
end Go.Vi.CM
end

section
set_option linter.unusedVariables false
set_option linter.unusedSimpArgs false
set_option maxHeartbeats 0
set_option maxRecDepth 20000
namespace Go.Vi.CM
open Go.Proofs

theorem arrs_eq_nil {l : L2} (e : arrs l = []) : l.length = 0 := by
  have := congrArg List.length e
  rwa [arrs_length] at this
theorem slis_eq_nil {l : L2} (e : slis l = []) : l.length = 0 := by
  have := congrArg List.length e
  rwa [slis_length] at this
theorem partner_pair (l : L2) (i : Nat) (h : 2 * i < l.length) : partnerP l (2 * i) = (pairAt l i).2.1 ∧ (pairAt l i).1 = l.getD (2 * i) [] := by
  refine ⟨?_, rfl⟩
  unfold partnerP pairAt
  rw [if_neg (show ¬ 2 * i % 2 = 1 by omega)]
  by_cases h2 : 2 * i + 2 ≤ l.length
  · rw [if_neg (by omega)]; simp [h2]
  · rw [if_pos (by omega)]; simp [h2]
theorem above_get (l : L2) (i : Nat) (h : i < (l.length + 1) / 2) : (aboveP l).getD i [] = joinP (pairAt l i) := by
  simp [aboveP, pairsOf, List.getD, h]
theorem w2i {i : Nat} (h : i < 100000) : IntKind.wrap .i64 (2 * (i : Int) + 2) = 2 * ((i + 1 : Nat) : Int) := by rw [IntWalk.i64_in _ (by omega)]; omega
theorem bare_sli (k : IntKind) (xs : List Int) : (D.sli .no k xs).bare = D.sli .no k xs := rfl
theorem c_refPartner : Contract E 38 := by
  refine contract_seeT hE hgl (show E.P.funcs[38]? = some Tryd.f38 from Tryd.func38) rfl (p := sp_refPartner) (fun _ _ _ => rfl) ?_
  intro args hv
  unfold sp_refPartner at hv ⊢
  split at hv
  case h_2 => exact hv.elim
  rename_i es i
  refine ⟨by simp, Nat.le_of_ble_eq_true rfl, ?_⟩
  simp only [givesIf] at hv
  obtain ⟨⟨l, rfl, hl⟩, hlen, h0, h1⟩ := hv
  obtain ⟨n, rfl⟩ : ∃ n : Nat, i = (n : Int) := ⟨i.toNat, by omega⟩
  simp only [arrs_length] at hlen h1
  have w1 : IntKind.wrap .i64 ((n : Int) + 1) = ((n + 1 : Nat) : Int) := w64' (by omega) (by omega)
  rcases Nat.mod_two_eq_zero_or_one n with hm | hm
  · have c1 : decide ((n : Int).tmod 2 = 1) = false := by rw [Int.tmod_eq_emod_of_nonneg (by omega)]; simp; omega
    by_cases h2 : n + 1 < l.length
    · have c2 : decide (((n + 1 : Nat) : Int) ≥ (l.length : Int)) = false := decide_eq_false (by omega)
      have g := arrs_get l (n + 1) (by omega)
      have hp : partnerP l n = l.getD (n + 1) [] := by unfold partnerP; rw [if_neg (show ¬ n % 2 = 1 by omega), if_neg (by omega)]
      simp (config := {dsimp := false}) only [↓vp0, vz, vn, nq, tys, cellD, wideIR, if_true, if_false, implies_true, forall_const, ne_eq, reduceIte, reduceCtorEq, Nat.reduceEqDiff, Nat.reduceAdd, Nat.reduceMul, Nat.reduceLT, Nat.reduceSub, Nat.reduceLeDiff, Nat.reduceBNe, Nat.reduceBEq, Nat.reduceBeqDiff, List.range, List.range.loop, gl0, Tryd.ntmps38, Tryd.results38, arrs_length, w1, c1, c2, g, Int.toNat_natCast]
      rw [hs_arrs, hp]
      exact ⟨by decide, by omega, by omega, rfl⟩
    · have c2 : decide (((n + 1 : Nat) : Int) ≥ (l.length : Int)) = true := decide_eq_true (by omega)
      have g := arrs_get l n (by omega)
      have hp : partnerP l n = l.getD n [] := by unfold partnerP; rw [if_neg (show ¬ n % 2 = 1 by omega), if_pos (by omega)]
      simp (config := {dsimp := false}) only [↓vp0, vz, vn, nq, tys, cellD, wideIR, if_true, if_false, implies_true, forall_const, ne_eq, reduceIte, reduceCtorEq, Nat.reduceEqDiff, Nat.reduceAdd, Nat.reduceMul, Nat.reduceLT, Nat.reduceSub, Nat.reduceLeDiff, Nat.reduceBNe, Nat.reduceBEq, Nat.reduceBeqDiff, List.range, List.range.loop, gl0, Tryd.ntmps38, Tryd.results38, arrs_length, w1, c1, c2, g, Int.toNat_natCast]
      rw [hs_arrs, hp]
      exact ⟨by decide, by omega, by omega, rfl⟩
  · have c1 : decide ((n : Int).tmod 2 = 1) = true := by rw [Int.tmod_eq_emod_of_nonneg (by omega)]; simp; omega
    have w2 : IntKind.wrap .i64 ((n : Int) - 1) = ((n - 1 : Nat) : Int) := w64' (by omega) (by omega)
    have c2 : decide (((n - 1 : Nat) : Int) ≥ (l.length : Int)) = false := decide_eq_false (by omega)
    have g := arrs_get l (n - 1) (by omega)
    have hp : partnerP l n = l.getD (n - 1) [] := by unfold partnerP; rw [if_pos hm, if_neg (by omega)]
    simp (config := {dsimp := false}) only [↓vp0, vz, vn, nq, tys, cellD, wideIR, if_true, if_false, implies_true, forall_const, ne_eq, reduceIte, reduceCtorEq, Nat.reduceEqDiff, Nat.reduceAdd, Nat.reduceMul, Nat.reduceLT, Nat.reduceSub, Nat.reduceLeDiff, Nat.reduceBNe, Nat.reduceBEq, Nat.reduceBeqDiff, List.range, List.range.loop, gl0, Tryd.ntmps38, Tryd.results38, arrs_length, w1, w2, c1, c2, g, Int.toNat_natCast]
    rw [hs_arrs, hp]
    exact ⟨by decide, by omega, by omega, rfl⟩
theorem take_snoc {α : Type} (l : List α) (i : Nat) (h : i < l.length) (d : α) : l.take i ++ [l.getD i d] = l.take (i + 1) := by
  rw [List.take_add_one]
  simp [List.getD, h]
theorem c_refMText : Contract E 37 := by
  refine contract_seeT hE hgl (show E.P.funcs[37]? = some Tryd.f37 from Tryd.func37) rfl (p := sp_refMText) (fun _ _ _ => rfl) ?_
  intro args hv
  unfold sp_refMText at hv ⊢
  split at hv
  case h_2 => exact hv.elim
  rename_i a b
  refine ⟨by simp, Nat.le_of_ble_eq_true rfl, ?_⟩
  simp only [givesIf] at hv
  obtain ⟨ha, hb⟩ := hv
  simp (config := {dsimp := false}) only [↓vp0, vz, vn, nq, tys, cellD, wideIR, if_true, if_false, implies_true, forall_const, ne_eq, reduceIte, reduceCtorEq, Nat.reduceEqDiff, Nat.reduceAdd, Nat.reduceMul, Nat.reduceLT, Nat.reduceSub, Nat.reduceLeDiff, Nat.reduceBNe, Nat.reduceBEq, Nat.reduceBeqDiff, List.range, List.range.loop, gl0, Tryd.ntmps37, Tryd.results37]
  refine loopA [(5, some .u8, 0)] ?_
  simp (config := {dsimp := false}) only [↓vp0, vz, vn, nq, tys, cellD, wideIR, if_true, if_false, implies_true, forall_const, ne_eq, reduceIte, reduceCtorEq, Nat.reduceEqDiff, Nat.reduceAdd, Nat.reduceMul, Nat.reduceLT, Nat.reduceSub, Nat.reduceLeDiff, Nat.reduceBNe, Nat.reduceBEq, Nat.reduceBeqDiff, List.range, List.range.loop, gl0, Tryd.ntmps37, Tryd.results37, adopt]
  refine ⟨Fin 33, (fun i => [(5, .sli (.tok 20) .u8 (a.take i.1)), (6, .int .i64 (i.1 : Int)), (2, .bp 0 0), (3, .bp 4 0)]), (fun i => ⟨[(0, .arr .u8 32 a), (4, .arr .u8 32 b)], [(20, (i.1, 1))], 24⟩), (fun i => 32 - i.1), 0, (fun _ => rfl), ⟨⟨wkD_eq rfl, rfl, wkD_eq rfl, rfl, wkD_eq rfl, rfl, wkD_eq rfl, rfl, trivial⟩, ⟨rfl, Nat.le_of_ble_eq_true rfl, rfl, rfl, Nat.le_of_ble_eq_true rfl, rfl, trivial⟩, ⟨rfl, Nat.le_of_ble_eq_true rfl, trivial⟩⟩, ?_⟩
  rintro ⟨i, hi⟩
  have l1 : (a.take i).length = i := by rw [List.length_take]; omega
  simp (config := {dsimp := false}) only [↓vp0, vz, vn, nq, tys, cellD, wideIR, if_true, if_false, implies_true, forall_const, ne_eq, reduceIte, reduceCtorEq, Nat.reduceEqDiff, Nat.reduceAdd, Nat.reduceMul, Nat.reduceLT, Nat.reduceSub, Nat.reduceLeDiff, Nat.reduceBNe, Nat.reduceBEq, Nat.reduceBeqDiff, List.range, List.range.loop, gl0, Tryd.ntmps37, Tryd.results37, Int.toNat_natCast, l1]
  refine ⟨fun hh => ?_, fun hh => ?_⟩
  · have hh := of_decide_eq_true hh
    refine ⟨by omega, by omega, by omega, ⟨i + 1, by omega⟩, ⟨⟨wkD_eq ?_, rfl, wkD_eq ?_, rfl, wkD_eq rfl, rfl, wkD_eq rfl, rfl, trivial⟩, ⟨rfl, Nat.le_of_ble_eq_true rfl, rfl, rfl, Nat.le_of_ble_eq_true rfl, rfl, trivial⟩, ⟨rfl, Nat.le_of_ble_eq_true rfl, trivial⟩⟩, by (try simp only); omega⟩
    · exact congrArg (fun x => some (D.sli (.tok 20) .u8 x)) (take_snoc a i (by omega) 0)
    · exact some_i64 (by (try simp only); omega)
  have hh := of_decide_eq_false hh
  obtain rfl : i = 32 := by omega
  rw [List.take_of_length_le (by omega)]
  refine loopI (Fin 33) (fun i => [(5, .sli (.tok 20) .u8 (a ++ b.take i.1)), (7, .int .i64 (i.1 : Int)), (2, .bp 0 0), (3, .bp 4 0)]) (fun i => ⟨[(0, .arr .u8 32 a), (4, .arr .u8 32 b)], [(20, (32 + i.1, 1))], 36⟩) (fun i => 32 - i.1) 0 (fun _ => rfl) ?_ ?_
  · refine ⟨⟨wkD_eq ?_, rfl, wkD_eq rfl, rfl, wkD_eq rfl, rfl, wkD_eq rfl, rfl, trivial⟩, ⟨rfl, Nat.le_of_ble_eq_true rfl, rfl, rfl, Nat.le_of_ble_eq_true rfl, rfl, trivial⟩, ⟨rfl, Nat.le_of_ble_eq_true rfl, trivial⟩⟩
    rw [show ((0 : Fin 33) : Nat) = 0 from rfl, List.take_zero, List.append_nil]
    rfl
  rintro ⟨i, hi⟩
  have l2 : (b.take i).length = i := by rw [List.length_take]; omega
  simp (config := {dsimp := false}) only [↓vp0, vz, vn, nq, tys, cellD, wideIR, if_true, if_false, implies_true, forall_const, ne_eq, reduceIte, reduceCtorEq, Nat.reduceEqDiff, Nat.reduceAdd, Nat.reduceMul, Nat.reduceLT, Nat.reduceSub, Nat.reduceLeDiff, Nat.reduceBNe, Nat.reduceBEq, Nat.reduceBeqDiff, List.range, List.range.loop, gl0, Tryd.ntmps37, Tryd.results37, Int.toNat_natCast, List.length_append, l2, ha]
  refine ⟨fun hh => ?_, fun hh => ?_⟩
  · have hh := of_decide_eq_true hh
    refine ⟨by omega, by omega, by omega, ⟨i + 1, by omega⟩, ⟨⟨wkD_eq ?_, rfl, wkD_eq ?_, rfl, wkD_eq rfl, rfl, wkD_eq rfl, rfl, trivial⟩, ⟨rfl, Nat.le_of_ble_eq_true rfl, rfl, rfl, Nat.le_of_ble_eq_true rfl, rfl, trivial⟩, ⟨rfl, Nat.le_of_ble_eq_true rfl, trivial⟩⟩, by (try simp only); omega⟩
    · exact congrArg (fun x => some (D.sli (.tok 20) .u8 x)) ((List.append_assoc ..).trans (congrArg (a ++ ·) (take_snoc b i (by omega) 0)))
    · exact some_i64 (by (try simp only); omega)
  · have hh := of_decide_eq_false hh
    obtain rfl : i = 32 := by omega
    rw [List.take_of_length_le (by omega)]
    rfl
theorem c_refAbove : Contract E 35 := by
  refine contract_seeT hE hgl (show E.P.funcs[35]? = some Tryd.f35 from Tryd.func35) rfl (p := sp_refAbove) (fun _ _ _ => rfl) ?_
  intro args hv
  unfold sp_refAbove at hv ⊢
  split at hv
  case h_2 => exact hv.elim
  rename_i es
  refine ⟨by simp, Nat.le_of_ble_eq_true rfl, ?_⟩
  simp only [givesIf] at hv
  obtain ⟨⟨l, rfl, hl⟩, hlen, hby⟩ := hv
  rw [hs_arrs] at hby
  rw [arrs_length] at hlen
  simp (config := {dsimp := false}) only [↓vp0, vz, vn, nq, tys, cellD, wideIR, if_true, if_false, implies_true, forall_const, ne_eq, reduceIte, reduceCtorEq, Nat.reduceEqDiff, Nat.reduceAdd, Nat.reduceMul, Nat.reduceLT, Nat.reduceSub, Nat.reduceLeDiff, Nat.reduceBNe, Nat.reduceBEq, Nat.reduceBeqDiff, List.range, List.range.loop, gl0, Tryd.ntmps35, Tryd.results35, arrs_length]
  refine loopA [(3, none, 32)] ?_
  simp (config := {dsimp := false}) only [↓vp0, vz, vn, nq, tys, cellD, wideIR, if_true, if_false, implies_true, forall_const, ne_eq, reduceIte, reduceCtorEq, Nat.reduceEqDiff, Nat.reduceAdd, Nat.reduceMul, Nat.reduceLT, Nat.reduceSub, Nat.reduceLeDiff, Nat.reduceBNe, Nat.reduceBEq, Nat.reduceBeqDiff, List.range, List.range.loop, gl0, Tryd.ntmps35, Tryd.results35, adopt]
  refine ⟨Fin ((l.length + 1) / 2 + 1), (fun i => [(3, .sl (.tok 12) 32 (arrs ((aboveP l).take i.1))), (4, .int .i64 (2 * i.1 : Int)), (0, .sl .no 32 (arrs l))]), (fun i => ⟨[], [(12, (i.1, 32))], 16⟩), (fun i => l.length + 1 - 2 * i.1), 0, (fun _ => rfl), ⟨⟨wkD_eq rfl, rfl, wkD_eq rfl, rfl, wkD_eq rfl, rfl, trivial⟩, trivial, ⟨rfl, Nat.le_of_ble_eq_true rfl, trivial⟩⟩, ?_⟩
  rintro ⟨i, hi⟩
  simp (config := {dsimp := false}) only [↓vp0, vz, vn, nq, tys, cellD, wideIR, if_true, if_false, implies_true, forall_const, ne_eq, reduceIte, reduceCtorEq, Nat.reduceEqDiff, Nat.reduceAdd, Nat.reduceMul, Nat.reduceLT, Nat.reduceSub, Nat.reduceLeDiff, Nat.reduceBNe, Nat.reduceBEq, Nat.reduceBeqDiff, List.range, List.range.loop, gl0, Tryd.ntmps35, Tryd.results35, arrs_length]
  refine ⟨fun hh => ?_, fun hh => ?_⟩
  · have hh := of_decide_eq_true hh
    have hil : 2 * i < l.length := by omega
    have hia : i < (aboveP l).length := by rw [above_len]; omega
    have g := arrs_get l (2 * i) hil
    have i2 : (2 * (i : Int)) = ((2 * i : Nat) : Int) := by omega
    have lt : ((aboveP l).take i).length = i := by rw [List.length_take]; omega
    obtain ⟨p1, p2⟩ := partner_pair l i hil
    obtain ⟨⟨q1, q2⟩, q3, q4⟩ := pair_ok hl hby (p := pairAt l i) (List.mem_map_of_mem (by rw [List.mem_range]; omega))
    have tw := twice_eq ((pairAt l i).1 ++ (pairAt l i).2.1) (bytes_append q3 q4) (by simp [q1, q2])
    rw [p2] at q1 q3 tw
    rw [i2]
    refine drawI [3, 0, 4] (by kernel_rfl) ?_
    simp (config := {dsimp := false}) only [↓vp0, vz, vn, nq, tys, cellD, wideIR, if_true, if_false, implies_true, forall_const, ne_eq, reduceIte, reduceCtorEq, Nat.reduceEqDiff, Nat.reduceAdd, Nat.reduceMul, Nat.reduceLT, Nat.reduceSub, Nat.reduceLeDiff, Nat.reduceBNe, Nat.reduceBEq, Nat.reduceBeqDiff, List.range, List.range.loop, gl0, Tryd.ntmps35, Tryd.results35, PF.toR, gives, givesIf, arrs_length, strips_arrs, hs_arrs, Int.toNat_natCast, g, p1, q1, q2, tw, lt, bare_arr, spec_refPartner, sp_refPartner, c_refPartner, b_refPartner, spec_refMText, sp_refMText, c_refMText, b_refMText, spec_refTwice, sp_refTwice, c_refTwice, b_refTwice]
    have hsn : arrs ((aboveP l).take i) ++ [D.arr .u8 32 (sumP (sumP (l.getD (2 * i) [] ++ (pairAt l i).2.1)))] = arrs ((aboveP l).take (i + 1)) := by
      rw [← take_snoc (aboveP l) i hia [], ← arrs_append, above_get l i (by omega)]
      rfl
    refine ⟨by omega, by omega, ⟨l, rfl, hl⟩, by omega, by omega, by omega, by rw [List.length_append, q1, q2]; decide, by omega, .inr trivial, .inr trivial, by kernel_rfl, ⟨i + 1, by omega⟩, ⟨⟨wkD_eq ?_, rfl, wkD_eq ?_, rfl, wkD_eq rfl, rfl, trivial⟩, trivial, ⟨rfl, Nat.le_of_ble_eq_true rfl, trivial⟩⟩, by (try simp only); omega⟩
    · exact congrArg (fun x => some (D.sl (.tok 12) 32 x)) hsn
    · rw [← i2]
      exact congrArg (fun n => some (D.int .i64 n)) (w2i (by omega))
  · have hh := of_decide_eq_false hh
    have : i = (l.length + 1) / 2 := by omega
    rw [List.take_of_length_le (by rw [above_len]; omega), strips_arrs, hs_arrs]
    rfl
end Go.Vi.CM
end

section
set_option linter.unusedVariables false
set_option linter.unusedSimpArgs false
set_option maxHeartbeats 0
set_option maxRecDepth 20000
namespace Go.Vi.CM
open Go.Proofs

theorem text_get (l : L2) (i : Nat) (h : i < (l.length + 1) / 2) : ((pairsOf l).map textOf).getD i [] = textOf (pairAt l i) := by
  simp [pairsOf, List.getD, h]
end Go.Vi.CM
end

section
set_option linter.unusedVariables false
set_option linter.unusedSimpArgs false
set_option maxHeartbeats 0
set_option maxRecDepth 20000
namespace Go.Vi.CM
open Go.Proofs

theorem mut_one (p : Pr) : mutP [p] = (!p.2.2 && decide (p.1 = p.2.1)) := by simp [mutP, mutS]
theorem pairs_get (l : L2) (i : Nat) (h : i < (l.length + 1) / 2) (d : Pr) : (pairsOf l).getD i d = pairAt l i := by simp [pairsOf, List.getD, h]
theorem mut_step (T : List Pr) (r : L2) (j : Nat) (h : 2 * j + 1 < r.length) : mutP (T ++ (pairsOf r).take (j + 1)) = (mutP (T ++ (pairsOf r).take j) || decide (r.getD (2 * j) [] = r.getD (2 * j + 1) [])) := by
  have hl : j < (pairsOf r).length := by simp [pairsOf]; omega
  rw [← take_snoc (pairsOf r) j hl ([], [], false), ← List.append_assoc, mutP_append, mut_one, pairs_get r j (by omega)]
  simp [pairAt, show 2 * j + 2 ≤ r.length by omega]
theorem mut_all (T : List Pr) (r : L2) (j : Nat) (h0 : 2 * j ≤ r.length) (h : ¬ 2 * j + 1 < r.length) : mutP (T ++ (pairsOf r).take j) = mutP (T ++ pairsOf r) := by
  have hl : (pairsOf r).length = (r.length + 1) / 2 := by simp [pairsOf]
  rcases Nat.lt_or_ge (2 * j) r.length with h1 | h1
  · have h2 : (pairsOf r).take (j + 1) = pairsOf r := List.take_of_length_le (by omega)
    rw [← h2, List.take_take, Nat.min_eq_left (by omega), ← take_snoc (pairsOf r) j (by omega) ([], [], false), ← List.append_assoc, mutP_append (T ++ _), mut_one, pairs_get r j (by omega)]
    simp [pairAt, show ¬ 2 * j + 2 ≤ r.length by omega]
  · rw [List.take_of_length_le (by omega)]
theorem c_refRoot : Contract E 13 := by
  refine contract_seeT hE hgl (show E.P.funcs[13]? = some Tryd.f13 from Tryd.func13) rfl (p := sp_refRoot) (fun _ _ _ => rfl) ?_
  intro args hv
  unfold sp_refRoot at hv ⊢
  split at hv
  case h_2 => exact hv.elim
  rename_i es
  refine ⟨by simp, Nat.le_of_ble_eq_true rfl, ?_⟩
  simp only [givesIf] at hv
  obtain ⟨⟨l, rfl, hl⟩, hlen, hby⟩ := hv
  rw [hs_arrs] at hby
  rw [arrs_length] at hlen
  by_cases hne : l = []
  · subst hne
    simp (config := {dsimp := false}) only [↓vp0, vz, vn, nq, tys, cellD, wideIR, if_true, if_false, implies_true, forall_const, ne_eq, reduceIte, reduceCtorEq, Nat.reduceEqDiff, Nat.reduceAdd, Nat.reduceMul, Nat.reduceLT, Nat.reduceSub, Nat.reduceLeDiff, Nat.reduceBNe, Nat.reduceBEq, Nat.reduceBeqDiff, List.range, List.range.loop, gl0, Tryd.ntmps13, Tryd.results13, show arrs [] = [] from rfl, show decide (((0 : Nat) : Int) = 0) = true from rfl, hs_arrs]
    rw [show hs [] = [] from rfl, allP_nil, rootP_nil]
    rfl
  have hn0 : decide ((l.length : Int) = 0) = false := decide_eq_false fun e => hne (List.eq_nil_of_length_eq_zero (by omega))
  simp (config := {dsimp := false}) only [↓vp0, vz, vn, nq, tys, cellD, wideIR, if_true, if_false, implies_true, forall_const, ne_eq, reduceIte, reduceCtorEq, Nat.reduceEqDiff, Nat.reduceAdd, Nat.reduceMul, Nat.reduceLT, Nat.reduceSub, Nat.reduceLeDiff, Nat.reduceBNe, Nat.reduceBEq, Nat.reduceBeqDiff, List.range, List.range.loop, gl0, Tryd.ntmps13, Tryd.results13, arrs_length, hn0]
  refine loopI {k : Nat // k ≤ dep l.length} (fun k => [(4, .bool (mutP (pairsTo l k.1))), (0, .sl .no 32 (arrs (rowAt l k.1))), (2, .bp 0 0)]) (fun k => ⟨[(0, .arr .u8 32 (List.replicate 32 0))], [], 24⟩) (fun k => dep l.length - k.1) ⟨0, Nat.zero_le _⟩ (fun _ => rfl) ⟨⟨wkD_eq rfl, rfl, wkD_eq rfl, rfl, wkD_eq rfl, rfl, trivial⟩, ⟨rfl, Nat.le_of_ble_eq_true rfl, rfl, trivial⟩, trivial⟩ ?_
  rintro ⟨k, hk⟩
  have hk1 := row_more k l
  have hk2 := row_h32 hl k
  have hk3 := row_len_le l k
  have hkb := row_bytes hby k
  simp (config := {dsimp := false}) only [↓vp0, vz, vn, nq, tys, cellD, wideIR, if_true, if_false, implies_true, forall_const, ne_eq, reduceIte, reduceCtorEq, Nat.reduceEqDiff, Nat.reduceAdd, Nat.reduceMul, Nat.reduceLT, Nat.reduceSub, Nat.reduceLeDiff, Nat.reduceBNe, Nat.reduceBEq, Nat.reduceBeqDiff, List.range, List.range.loop, gl0, Tryd.ntmps13, Tryd.results13, arrs_length]
  refine ⟨fun hh => ?_, fun hh => ?_⟩
  · have hh := of_decide_eq_true hh
    have hkd : k < dep l.length := hk1.1 (by omega)
    generalize hr : rowAt l k = r at hk1 hk2 hk3 hkb hh
    generalize hT : pairsTo l k = T
    refine loopI {j : Nat // 2 * j ≤ r.length} (fun j => [(4, .bool (mutP (T ++ (pairsOf r).take j.1))), (5, .int .i64 (2 * j.1 : Int)), (0, .sl .no 32 (arrs r)), (2, .bp 0 0)]) (fun j => ⟨[(0, .arr .u8 32 (List.replicate 32 0))], [], 40⟩) (fun j => r.length - 2 * j.1) ⟨0, by omega⟩ (fun _ => rfl) ?_ ?_
    · refine ⟨⟨wkD_eq ?_, rfl, wkD_eq rfl, rfl, wkD_eq rfl, rfl, wkD_eq rfl, rfl, trivial⟩, ⟨rfl, Nat.le_of_ble_eq_true rfl, rfl, trivial⟩, trivial⟩
      rw [List.take_zero, List.append_nil]
      rfl
    rintro ⟨j, hj⟩
    have i2 : (2 * (j : Int)) = ((2 * j : Nat) : Int) := by omega
    have w1 : IntKind.wrap .i64 (((2 * j : Nat) : Int) + 1) = ((2 * j + 1 : Nat) : Int) := w64' (by omega) (by omega)
    simp only [i2]
    simp (config := {dsimp := false}) only [↓vp0, vz, vn, nq, tys, cellD, wideIR, if_true, if_false, implies_true, forall_const, ne_eq, reduceIte, reduceCtorEq, Nat.reduceEqDiff, Nat.reduceAdd, Nat.reduceMul, Nat.reduceLT, Nat.reduceSub, Nat.reduceLeDiff, Nat.reduceBNe, Nat.reduceBEq, Nat.reduceBeqDiff, List.range, List.range.loop, gl0, Tryd.ntmps13, Tryd.results13, arrs_length, w1]
    refine ⟨fun hh => ?_, fun hh => ?_⟩
    · have hh := of_decide_eq_true hh
      have g1 := arrs_get r (2 * j) (by omega)
      have g2 := arrs_get r (2 * j + 1) (by omega)
      have ms := mut_step T r j (by omega)
      refine drawI [0, 5, 4, 2] (by kernel_rfl) ?_
      cases he : decide (r.getD (2 * j) [] = r.getD (2 * j + 1) [])
      · rw [he, Bool.or_false] at ms
        simp (config := {dsimp := false}) only [↓vp0, vz, vn, nq, tys, cellD, wideIR, if_true, if_false, implies_true, forall_const, ne_eq, reduceIte, reduceCtorEq, Nat.reduceEqDiff, Nat.reduceAdd, Nat.reduceMul, Nat.reduceLT, Nat.reduceSub, Nat.reduceLeDiff, Nat.reduceBNe, Nat.reduceBEq, Nat.reduceBeqDiff, List.range, List.range.loop, gl0, Tryd.ntmps13, Tryd.results13, arrs_length, Int.toNat_natCast, w1, g1, g2, he]
        refine ⟨by omega, by omega, by omega, by omega, ⟨j + 1, by omega⟩, ⟨⟨wkD_eq ?_, rfl, wkD_eq ?_, rfl, wkD_eq rfl, rfl, wkD_eq rfl, rfl, trivial⟩, ⟨rfl, Nat.le_of_ble_eq_true rfl, rfl, trivial⟩, trivial⟩, by (try simp only); omega⟩
        · rw [ms]; rfl
        · rw [← i2]
          exact congrArg (fun n => some (D.int .i64 n)) (w2i (by omega))
      · rw [he, Bool.or_true] at ms
        simp (config := {dsimp := false}) only [↓vp0, vz, vn, nq, tys, cellD, wideIR, if_true, if_false, implies_true, forall_const, ne_eq, reduceIte, reduceCtorEq, Nat.reduceEqDiff, Nat.reduceAdd, Nat.reduceMul, Nat.reduceLT, Nat.reduceSub, Nat.reduceLeDiff, Nat.reduceBNe, Nat.reduceBEq, Nat.reduceBeqDiff, List.range, List.range.loop, gl0, Tryd.ntmps13, Tryd.results13, arrs_length, Int.toNat_natCast, w1, g1, g2, he]
        refine ⟨by omega, by omega, by omega, by omega, ⟨j + 1, by omega⟩, ⟨⟨wkD_eq ?_, rfl, wkD_eq ?_, rfl, wkD_eq rfl, rfl, wkD_eq rfl, rfl, trivial⟩, ⟨rfl, Nat.le_of_ble_eq_true rfl, rfl, trivial⟩, trivial⟩, by (try simp only); omega⟩
        · rw [ms]; rfl
        · rw [← i2]
          exact congrArg (fun n => some (D.int .i64 n)) (w2i (by omega))
    · have hh := of_decide_eq_false hh
      have ma := mut_all T r j hj (by omega)
      simp (config := {dsimp := false}) only [↓vp0, vz, vn, nq, tys, cellD, wideIR, if_true, if_false, implies_true, forall_const, ne_eq, reduceIte, reduceCtorEq, Nat.reduceEqDiff, Nat.reduceAdd, Nat.reduceMul, Nat.reduceLT, Nat.reduceSub, Nat.reduceLeDiff, Nat.reduceBNe, Nat.reduceBEq, Nat.reduceBeqDiff, List.range, List.range.loop, gl0, Tryd.ntmps13, Tryd.results13, PF.toR, gives, givesIf, arrs_length, strips_arrs, hs_arrs, spec_refAbove, sp_refAbove, c_refAbove, b_refAbove]
      refine ⟨⟨r, rfl, hk2⟩, by omega, hkb, ⟨k + 1, hkd⟩, ⟨⟨wkD_eq ?_, rfl, wkD_eq ?_, rfl, wkD_eq rfl, rfl, trivial⟩, ⟨rfl, Nat.le_of_ble_eq_true rfl, rfl, trivial⟩, trivial⟩, by (try simp only); omega⟩
      · rw [ma]
        subst hr hT
        rfl
      · subst hr
        rfl
  · have hh := of_decide_eq_false hh
    have he := row_end hk (by omega)
    have hp := List.length_pos_iff.2 (row_pos l hne k)
    have g0' := arrs_get (rowAt l k) 0 hp
    simp (config := {dsimp := false}) only [↓vp0, vz, vn, nq, tys, cellD, wideIR, if_true, if_false, implies_true, forall_const, ne_eq, reduceIte, reduceCtorEq, Nat.reduceEqDiff, Nat.reduceAdd, Nat.reduceMul, Nat.reduceLT, Nat.reduceSub, Nat.reduceLeDiff, Nat.reduceBNe, Nat.reduceBEq, Nat.reduceBeqDiff, List.range, List.range.loop, gl0, Tryd.ntmps13, Tryd.results13, arrs_length, g0', show Int.toNat 0 = 0 from rfl]
    refine ⟨by decide, by omega, ?_⟩
    rw [hs_arrs]
    unfold allP rootP
    rw [if_neg hne, ← he]
    rfl
end Go.Vi.CM
end

section
set_option linter.unusedVariables false
set_option linter.unusedSimpArgs false
set_option maxHeartbeats 0
set_option maxRecDepth 20000
namespace Go.Vi.CM
open Go.Proofs

theorem id_bytes (t : TxP) : bytes (idP t) := by
  unfold idP
  split
  · exact bytes_sum _
  · intro x hx; rw [List.eq_of_mem_replicate hx]; decide
theorem full_bytes (t : TxP) : bytes (fullP t) := by
  unfold fullP
  split
  · exact bytes_sum _
  · intro x hx; rw [List.eq_of_mem_replicate hx]; decide
theorem zeros_bytes : bytes (List.replicate 32 0) := by intro x hx; rw [List.eq_of_mem_replicate hx]; decide
theorem hashes_bytes (f : Bool) (l : List TxP) : ∀ x ∈ hashesP f l, bytes x := by
  intro x hx
  obtain ⟨i, _, rfl⟩ := List.mem_map.1 hx
  split
  · split
    · exact zeros_bytes
    · exact full_bytes _
  · exact id_bytes _
theorem root_bytes {l : L2} (h : ∀ x ∈ l, bytes x) : bytes (rootP l) := by
  unfold rootP
  split
  · exact zeros_bytes
  · rename_i hne
    exact row_bytes h _ _ (getD_mem (List.length_pos_iff.2 (row_pos l hne _)))
theorem c_rwanted : Contract E 30 := by
  refine contract_seeT hE hgl (show E.P.funcs[30]? = some Tryd.f30 from Tryd.func30) rfl (p := sp_gwanted) (fun _ _ _ => rfl) ?_
  intro args hv
  unfold sp_gwanted at hv ⊢
  split at hv
  case h_2 => exact hv.elim
  rename_i h0 hp hr h1 h2 h3 es
  refine ⟨by simp, Nat.le_of_ble_eq_true rfl, ?_⟩
  simp only [givesIf] at hv
  obtain ⟨hhd, ⟨L, rfl, hok, hl⟩, hlen⟩ := hv
  simp only [txs_D, txsD_length] at hlen ⊢
  have hisL : isTxL (txsD L) := ⟨L, rfl, hok, hl⟩
  by_cases hz : L.length = 0
  · have d0 : decide (((L.length : Nat) : Int) = 0) = true := decide_eq_true (by omega)
    simp (config := {dsimp := false}) only [↓vp0, vz, vn, nq, tys, cellD, wideIR, if_true, if_false, implies_true, forall_const, ne_eq, reduceIte, reduceCtorEq, Nat.reduceEqDiff, Nat.reduceAdd, Nat.reduceMul, Nat.reduceLT, Nat.reduceSub, Nat.reduceLeDiff, Nat.reduceBNe, Nat.reduceBEq, Nat.reduceBeqDiff, List.range, List.range.loop, gl0, Tryd.ntmps30, Tryd.results30, d0, wanted_0 hz, hashV, givesIf]
    all_goals rfl
  have d0 : decide (((L.length : Nat) : Int) = 0) = false := decide_eq_false (by omega)
  obtain ⟨t, r, hL⟩ : ∃ t r, L = t :: r := by cases L with
    | nil => exact absurd rfl hz
    | cons t r => exact ⟨t, r, rfl⟩
  have g0 : (txsD L).getD (Int.toNat 0) .any = txD t := by rw [hL]; rfl
  have ht := hok t (by rw [hL]; exact List.mem_cons_self ..)
  have hmi := ht.mi
  by_cases hi : t.ins.length = 1
  case neg =>
    have d1 : decide (((t.ins.length : Nat) : Int) = 1) = false := decide_eq_false (by omega)
    have hw : wantedP L = none := by rw [hL]; exact wanted_1 hi
    simp (config := {dsimp := false}) only [↓vp0, vz, vn, nq, tys, cellD, wideIR, if_true, if_false, implies_true, forall_const, ne_eq, reduceIte, reduceCtorEq, Nat.reduceEqDiff, Nat.reduceAdd, Nat.reduceMul, Nat.reduceLT, Nat.reduceSub, Nat.reduceLeDiff, Nat.reduceBNe, Nat.reduceBEq, Nat.reduceBeqDiff, List.range, List.range.loop, gl0, Tryd.ntmps30, Tryd.results30, d0, d1, g0, txD, hw, hashV, givesIf]
    (repeat' apply And.intro) <;> first | exact Int.le_refl _ | omega | rfl
  have d1 : decide (((t.ins.length : Nat) : Int) = 1) = true := decide_eq_true (by omega)
  obtain ⟨x, hx⟩ := one_of hi
  have g1 : (insD t.ins).getD (Int.toNat 0) .any = inD x := by rw [hx]; rfl
  have hxo := ht.ins x (by rw [hx]; exact List.mem_cons_self ..)
  have hmw := hxo.many
  by_cases hwl : x.wit.length = 1
  case neg =>
    have d2 : decide (((x.wit.length : Nat) : Int) = 1) = false := decide_eq_false (by omega)
    have hw : wantedP L = none := by rw [hL]; exact wanted_2 hx hwl
    simp (config := {dsimp := false}) only [↓vp0, vz, vn, nq, tys, cellD, wideIR, if_true, if_false, implies_true, forall_const, ne_eq, reduceIte, reduceCtorEq, Nat.reduceEqDiff, Nat.reduceAdd, Nat.reduceMul, Nat.reduceLT, Nat.reduceSub, Nat.reduceLeDiff, Nat.reduceBNe, Nat.reduceBEq, Nat.reduceBeqDiff, List.range, List.range.loop, gl0, Tryd.ntmps30, Tryd.results30, d0, d1, d2, g0, g1, txD, inD, hw, hashV, givesIf]
    (repeat' apply And.intro) <;> first | exact Int.le_refl _ | omega | rfl
  have d2 : decide (((x.wit.length : Nat) : Int) = 1) = true := decide_eq_true (by omega)
  obtain ⟨w, hw⟩ := one_of hwl
  have g2 : (slis x.wit).getD (Int.toNat 0) .any = .sli .no .u8 w := by rw [hw]; rfl
  have hwo := (hxo.wit w (by rw [hw]; exact List.mem_cons_self ..)).2
  have hW : wantedP L = if w.length = 32 then some (H2 (rootP (hashesP true L)) w) else none := by rw [hL]; exact wanted_3 hx hw
  by_cases h32' : w.length = 32
  case neg =>
    have d3 : decide (((w.length : Nat) : Int) = 32) = false := decide_eq_false (by omega)
    rw [if_neg h32'] at hW
    simp (config := {dsimp := false}) only [↓vp0, vz, vn, nq, tys, cellD, wideIR, if_true, if_false, implies_true, forall_const, ne_eq, reduceIte, reduceCtorEq, Nat.reduceEqDiff, Nat.reduceAdd, Nat.reduceMul, Nat.reduceLT, Nat.reduceSub, Nat.reduceLeDiff, Nat.reduceBNe, Nat.reduceBEq, Nat.reduceBeqDiff, List.range, List.range.loop, gl0, Tryd.ntmps30, Tryd.results30, d0, d1, d2, d3, g0, g1, g2, txD, inD, hW, hashV, givesIf]
    (repeat' apply And.intro) <;> first | exact Int.le_refl _ | omega | rfl
  have d3 : decide (((w.length : Nat) : Int) = 32) = true := decide_eq_true (by omega)
  rw [if_pos h32'] at hW
  have hrl : (rootP (hashesP true L)).length = 32 := root_len (hashes_32 true L)
  have hhb := hashes_bytes true L
  have hwb := (hxo.wit w (by rw [hw]; exact List.mem_cons_self ..)).1
  have hrb := root_bytes hhb
  simp (config := {dsimp := false}) only [↓vp0, vz, vn, nq, tys, cellD, wideIR, if_true, if_false, implies_true, forall_const, ne_eq, reduceIte, reduceCtorEq, Nat.reduceEqDiff, Nat.reduceAdd, Nat.reduceMul, Nat.reduceLT, Nat.reduceSub, Nat.reduceLeDiff, Nat.reduceBNe, Nat.reduceBEq, Nat.reduceBeqDiff, List.range, List.range.loop, gl0, Tryd.ntmps30, Tryd.results30, d0, d1, d2, d3, g0, g1, g2, txD, inD]
  (repeat' apply And.intro)
  any_goals first | exact Int.le_refl _ | omega
  refine loopI (Fin 33) (fun m => [(5, .int .i64 (m.1 : Nat)), (1, .bp 0 0), (2, .bp 4 0), (4, .bp 168 0)]) (fun m => ⟨[(0, .agg [.agg [.int .u32 h0, .arr .u8 32 hp, .arr .u8 32 hr, .int .u32 h1, .int .u32 h2, .int .u32 h3], .sl .no 4 (txsD L)]), (4, .arr .u8 32 (List.replicate 32 0)), (168, .arr .u8 32 (w.take m.1 ++ (List.replicate 32 (0 : Int)).drop m.1))], [], 176⟩) (fun m => 32 - m.1) 0 (fun _ => rfl) ?_ ?_
  · exact ⟨⟨wkD_eq rfl, rfl, wkD_eq rfl, rfl, wkD_eq rfl, rfl, wkD_eq rfl, rfl, trivial⟩, ⟨rfl, Nat.le_of_ble_eq_true rfl, rfl, rfl, Nat.le_of_ble_eq_true rfl, rfl, rfl, Nat.le_of_ble_eq_true rfl, rfl, trivial⟩, trivial⟩
  rintro ⟨m, hm'⟩
  simp (config := {dsimp := false}) only [↓vp0, vz, vn, nq, tys, cellD, wideIR, if_true, if_false, implies_true, forall_const, ne_eq, reduceIte, reduceCtorEq, Nat.reduceEqDiff, Nat.reduceAdd, Nat.reduceMul, Nat.reduceLT, Nat.reduceSub, Nat.reduceLeDiff, Nat.reduceBNe, Nat.reduceBEq, Nat.reduceBeqDiff, List.range, List.range.loop, gl0, Tryd.ntmps30, Tryd.results30]
  refine ⟨fun h2 => ?_, fun h2 => ?_⟩
  · have h2 := of_decide_eq_true h2
    have hs := mix_set (a := w) (b := List.replicate 32 (0 : Int)) (m := m) (by omega) (by simp; omega)
    simp (config := {dsimp := false}) only [↓vp0, vz, vn, nq, tys, cellD, wideIR, if_true, if_false, implies_true, forall_const, ne_eq, reduceIte, reduceCtorEq, Nat.reduceEqDiff, Nat.reduceAdd, Nat.reduceMul, Nat.reduceLT, Nat.reduceSub, Nat.reduceLeDiff, Nat.reduceBNe, Nat.reduceBEq, Nat.reduceBeqDiff, List.range, List.range.loop, gl0, Tryd.ntmps30, Tryd.results30, g0, g1, g2, txD, inD, Int.toNat_natCast]
    refine ⟨Int.le_refl _, by omega, Int.le_refl _, by omega, Int.le_refl _, by omega, by omega, by omega, by omega, by omega, ⟨m + 1, by omega⟩, ⟨⟨wkD_eq ?_, rfl, wkD_eq rfl, rfl, wkD_eq rfl, rfl, wkD_eq rfl, rfl, trivial⟩, ⟨rfl, Nat.le_of_ble_eq_true rfl, rfl, rfl, Nat.le_of_ble_eq_true rfl, rfl, ?_, Nat.le_of_ble_eq_true rfl, rfl, trivial⟩, trivial⟩, by (try simp only); omega⟩
    · exact some_i64 (by (try simp only); omega)
    · show some (D.arr .u8 32 _) = some _
      rw [hs]
  · have h2 := of_decide_eq_false h2
    obtain rfl : m = 32 := by omega
    have hmx : w.take 32 ++ (List.replicate 32 (0 : Int)).drop 32 = w := mix_all h32' (by simp)
    have hte := twice_eq (rootP (hashesP true L) ++ w) (bytes_app hrb hwb) (by rw [List.length_append, hrl, h32']; decide)
    simp (config := {dsimp := false}) only [↓vp0, vz, vn, nq, tys, cellD, wideIR, if_true, if_false, implies_true, forall_const, ne_eq, reduceIte, reduceCtorEq, Nat.reduceEqDiff, Nat.reduceAdd, Nat.reduceMul, Nat.reduceLT, Nat.reduceSub, Nat.reduceLeDiff, Nat.reduceBNe, Nat.reduceBEq, Nat.reduceBeqDiff, List.range, List.range.loop, gl0, Tryd.ntmps30, Tryd.results30, PF.toR, hmx, hrl, h32', hte, givesIf, strips_arrs, hs_arrs, spec_rfulls, sp_fulls, c_rfulls, b_rfulls, spec_refRoot, sp_refRoot, c_refRoot, b_refRoot, spec_refMText, sp_refMText, c_refMText, b_refMText, spec_refTwice, sp_refTwice, c_refTwice, b_refTwice]
    exact ⟨hhd, hisL, by omega, ⟨_, rfl, hashes_32 true L⟩, by rw [arrs_length, hashes_len]; omega, hhb, by rw [List.length_append, hrl, h32']; decide, by rw [hW]; rfl⟩
end Go.Vi.CM
end

section
set_option linter.unusedVariables false
set_option linter.unusedSimpArgs false
set_option maxHeartbeats 0
set_option maxRecDepth 20000
namespace Go.Vi.CM
open Go.Proofs

theorem small_no {l : List TxP} {t : TxP} (h : t ∈ l) (hb : txSmall t = false) : smallP l = false := by
  unfold smallP
  rw [List.all_eq_false.2 ⟨t, h, by rw [hb]; decide⟩, Bool.and_false]
theorem small_yes {l : List TxP} (h8 : l.length ≤ 8) (h : ∀ j, j < l.length → txSmall (l.getD j default) = true) : smallP l = true := by
  unfold smallP
  rw [decide_eq_true h8, Bool.true_and, List.all_eq_true]
  intro x hx
  obtain ⟨i, h1, rfl⟩ := List.getElem_of_mem hx
  have := h i h1
  simpa [List.getD, h1] using this
theorem all_get {α : Type} [Inhabited α] {p : α → Bool} {l : List α} (h : ∀ j, j < l.length → p (l.getD j default) = true) : l.all p = true := by
  rw [List.all_eq_true]
  intro x hx
  obtain ⟨i, h1, rfl⟩ := List.getElem_of_mem hx
  have := h i h1
  simpa [List.getD, h1] using this
theorem all_no {α : Type} {p : α → Bool} {l : List α} {x : α} (hx : x ∈ l) (h : p x = false) : l.all p = false := List.all_eq_false.2 ⟨x, hx, by rw [h]; decide⟩
def w200 (w : List Int) : Bool := decide (w.length ≤ 200)
theorem inSmall_eq (x : InP) : inSmall x = ((decide (x.script.length ≤ 200) && decide (x.wit.length ≤ 6)) && x.wit.all w200) := rfl
theorem c_small : Contract E 26 := by
  refine contract_seeT hE hgl (show E.P.funcs[26]? = some Tryd.f26 from Tryd.func26) rfl (p := sp_small) (fun _ _ _ => rfl) ?_
  intro args hv
  unfold sp_small at hv ⊢
  split at hv
  case h_2 => exact hv.elim
  rename_i h0 hp hr h1 h2 h3 es
  refine ⟨by simp, Nat.le_of_ble_eq_true rfl, ?_⟩
  simp only [givesIf] at hv
  obtain ⟨hhd, l, rfl, hok, hl⟩ := hv
  simp only [txs_D]
  by_cases h8 : l.length ≤ 8
  case neg =>
    have d0 : decide ((8 : Int) < ((l.length : Nat) : Int)) = true := decide_eq_true (by omega)
    have hs : smallP l = false := by unfold smallP; rw [decide_eq_false h8, Bool.false_and]
    simp (config := {dsimp := false}) only [↓vp0, vz, vn, nq, tys, cellD, wideIR, if_true, if_false, implies_true, forall_const, ne_eq, reduceIte, reduceCtorEq, Nat.reduceEqDiff, Nat.reduceAdd, Nat.reduceMul, Nat.reduceLT, Nat.reduceSub, Nat.reduceLeDiff, Nat.reduceBNe, Nat.reduceBEq, Nat.reduceBeqDiff, List.range, List.range.loop, gl0, Tryd.ntmps26, Tryd.results26, d0, hs, givesIf]
    all_goals rfl
  have d0 : decide ((8 : Int) < ((l.length : Nat) : Int)) = false := decide_eq_false (by omega)
  simp (config := {dsimp := false}) only [↓vp0, vz, vn, nq, tys, cellD, wideIR, if_true, if_false, implies_true, forall_const, ne_eq, reduceIte, reduceCtorEq, Nat.reduceEqDiff, Nat.reduceAdd, Nat.reduceMul, Nat.reduceLT, Nat.reduceSub, Nat.reduceLeDiff, Nat.reduceBNe, Nat.reduceBEq, Nat.reduceBeqDiff, List.range, List.range.loop, gl0, Tryd.ntmps26, Tryd.results26, d0]
  refine loopI {k : Nat // k ≤ l.length ∧ ∀ j, j < k → txSmall (l.getD j default) = true} (fun k => [(3, .int .i64 (k.1 : Nat)), (1, .bp 0 0)]) (fun _ => ⟨[(0, .agg [.agg [.int .u32 h0, .arr .u8 32 hp, .arr .u8 32 hr, .int .u32 h1, .int .u32 h2, .int .u32 h3], .sl .no 4 (txsD l)])], [], 28⟩) (fun k => l.length - k.1) ⟨0, by simp⟩ (fun _ => rfl) ?_ ?_
  · exact ⟨⟨wkD_eq rfl, rfl, wkD_eq rfl, rfl, trivial⟩, ⟨rfl, Nat.le_of_ble_eq_true rfl, rfl, trivial⟩, trivial⟩
  rintro ⟨k, hk, hb⟩
  simp (config := {dsimp := false}) only [↓vp0, vz, vn, nq, tys, cellD, wideIR, if_true, if_false, implies_true, forall_const, ne_eq, reduceIte, reduceCtorEq, Nat.reduceEqDiff, Nat.reduceAdd, Nat.reduceMul, Nat.reduceLT, Nat.reduceSub, Nat.reduceLeDiff, Nat.reduceBNe, Nat.reduceBEq, Nat.reduceBeqDiff, List.range, List.range.loop, gl0, Tryd.ntmps26, Tryd.results26]
  refine ⟨fun hh => ?_, fun hh => ?_⟩
  case refine_2 =>
    have hh := of_decide_eq_false hh
    obtain rfl : k = l.length := by omega
    simp (config := {dsimp := false}) only [↓vp0, vz, vn, nq, tys, cellD, wideIR, if_true, if_false, implies_true, forall_const, ne_eq, reduceIte, reduceCtorEq, Nat.reduceEqDiff, Nat.reduceAdd, Nat.reduceMul, Nat.reduceLT, Nat.reduceSub, Nat.reduceLeDiff, Nat.reduceBNe, Nat.reduceBEq, Nat.reduceBeqDiff, List.range, List.range.loop, gl0, Tryd.ntmps26, Tryd.results26, small_yes h8 hb, givesIf]
    all_goals rfl
  have hh := of_decide_eq_true hh
  have hk' : k < l.length := by omega
  have g0 := txsD_get l k hk'
  have ht := hok _ (getD_memI hk')
  have hmi := ht.mi
  have hmo := ht.mo
  have no : txSmall (l.getD k default) = false → smallP l = false := small_no (getD_memI hk')
  by_cases c1 : (l.getD k default).ins.length ≤ 6
  case neg =>
    have hs := no (by unfold txSmall; rw [decide_eq_false c1, Bool.false_and, Bool.false_and])
    have d1 : decide ((6 : Int) < (((l.getD k default).ins.length : Nat) : Int)) = true := decide_eq_true (by omega)
    simp (config := {dsimp := false}) only [↓vp0, vz, vn, nq, tys, cellD, wideIR, if_true, if_false, implies_true, forall_const, ne_eq, reduceIte, reduceCtorEq, Nat.reduceEqDiff, Nat.reduceAdd, Nat.reduceMul, Nat.reduceLT, Nat.reduceSub, Nat.reduceLeDiff, Nat.reduceBNe, Nat.reduceBEq, Nat.reduceBeqDiff, List.range, List.range.loop, gl0, Tryd.ntmps26, Tryd.results26, Int.toNat_natCast, g0, txD, d1, hs, givesIf]
    exact ⟨by omega, by omega⟩
  have d1 : decide ((6 : Int) < (((l.getD k default).ins.length : Nat) : Int)) = false := decide_eq_false (by omega)
  by_cases c2 : (l.getD k default).outs.length ≤ 6
  case neg =>
    have hs := no (by unfold txSmall; rw [decide_eq_false c2, Bool.and_false, Bool.false_and])
    have d2 : decide ((6 : Int) < (((l.getD k default).outs.length : Nat) : Int)) = true := decide_eq_true (by omega)
    simp (config := {dsimp := false}) only [↓vp0, vz, vn, nq, tys, cellD, wideIR, if_true, if_false, implies_true, forall_const, ne_eq, reduceIte, reduceCtorEq, Nat.reduceEqDiff, Nat.reduceAdd, Nat.reduceMul, Nat.reduceLT, Nat.reduceSub, Nat.reduceLeDiff, Nat.reduceBNe, Nat.reduceBEq, Nat.reduceBeqDiff, List.range, List.range.loop, gl0, Tryd.ntmps26, Tryd.results26, Int.toNat_natCast, g0, txD, d1, d2, hs, givesIf]
    exact ⟨by omega, by omega⟩
  have d2 : decide ((6 : Int) < (((l.getD k default).outs.length : Nat) : Int)) = false := decide_eq_false (by omega)
  simp (config := {dsimp := false}) only [↓vp0, vz, vn, nq, tys, cellD, wideIR, if_true, if_false, implies_true, forall_const, ne_eq, reduceIte, reduceCtorEq, Nat.reduceEqDiff, Nat.reduceAdd, Nat.reduceMul, Nat.reduceLT, Nat.reduceSub, Nat.reduceLeDiff, Nat.reduceBNe, Nat.reduceBEq, Nat.reduceBeqDiff, List.range, List.range.loop, gl0, Tryd.ntmps26, Tryd.results26, Int.toNat_natCast, g0, txD, d1, d2]
  refine ⟨by omega, by omega, ?_⟩
  refine loopI {m : Nat // m ≤ (l.getD k default).ins.length ∧ ∀ j, j < m → inSmall ((l.getD k default).ins.getD j default) = true} (fun m => [(5, .int .i64 (m.1 : Nat)), (4, .bp 68 0), (3, .int .i64 (k : Nat)), (1, .bp 0 0)]) (fun _ => ⟨[(0, .agg [.agg [.int .u32 h0, .arr .u8 32 hp, .arr .u8 32 hr, .int .u32 h1, .int .u32 h2, .int .u32 h3], .sl .no 4 (txsD l)]), (68, txD (l.getD k default))], [], 120⟩) (fun m => (l.getD k default).ins.length - m.1) ⟨0, by simp⟩ (fun _ => rfl) ?_ ?_
  · exact ⟨⟨wkD_eq rfl, rfl, wkD_eq rfl, rfl, wkD_eq rfl, rfl, wkD_eq rfl, rfl, trivial⟩, ⟨rfl, Nat.le_of_ble_eq_true rfl, rfl, rfl, Nat.le_of_ble_eq_true rfl, rfl, trivial⟩, trivial⟩
  rintro ⟨m, hm, hbm⟩
  simp (config := {dsimp := false}) only [↓vp0, vz, vn, nq, tys, cellD, wideIR, if_true, if_false, implies_true, forall_const, ne_eq, reduceIte, reduceCtorEq, Nat.reduceEqDiff, Nat.reduceAdd, Nat.reduceMul, Nat.reduceLT, Nat.reduceSub, Nat.reduceLeDiff, Nat.reduceBNe, Nat.reduceBEq, Nat.reduceBeqDiff, List.range, List.range.loop, gl0, Tryd.ntmps26, Tryd.results26, txD]
  refine ⟨fun hh2 => ?_, fun hh2 => ?_⟩
  · have hh2 := of_decide_eq_true hh2
    have hm' : m < (l.getD k default).ins.length := by omega
    have g1 := insD_get (l.getD k default).ins m hm'
    have hx := ht.ins _ (getD_memI hm')
    have hmw := hx.many
    have hms := hx.script.2
    have no2 : inSmall ((l.getD k default).ins.getD m default) = false → smallP l = false := fun h => no (by unfold txSmall; rw [all_no (getD_memI hm') h, Bool.false_and, Bool.and_false])
    by_cases c3 : ((l.getD k default).ins.getD m default).script.length ≤ 200
    case neg =>
      have hs := no2 (by unfold inSmall; rw [decide_eq_false c3, Bool.false_and, Bool.false_and])
      have d3 : decide ((200 : Int) < ((((l.getD k default).ins.getD m default).script.length : Nat) : Int)) = true := decide_eq_true (by omega)
      simp (config := {dsimp := false}) only [↓vp0, vz, vn, nq, tys, cellD, wideIR, if_true, if_false, implies_true, forall_const, ne_eq, reduceIte, reduceCtorEq, Nat.reduceEqDiff, Nat.reduceAdd, Nat.reduceMul, Nat.reduceLT, Nat.reduceSub, Nat.reduceLeDiff, Nat.reduceBNe, Nat.reduceBEq, Nat.reduceBeqDiff, List.range, List.range.loop, gl0, Tryd.ntmps26, Tryd.results26, Int.toNat_natCast, g1, txD, inD, d3, hs, givesIf]
      exact ⟨by omega, by omega⟩
    have d3 : decide ((200 : Int) < ((((l.getD k default).ins.getD m default).script.length : Nat) : Int)) = false := decide_eq_false (by omega)
    by_cases c4 : ((l.getD k default).ins.getD m default).wit.length ≤ 6
    case neg =>
      have hs := no2 (by unfold inSmall; rw [decide_eq_false c4, Bool.and_false, Bool.false_and])
      have d4 : decide ((6 : Int) < ((((l.getD k default).ins.getD m default).wit.length : Nat) : Int)) = true := decide_eq_true (by omega)
      simp (config := {dsimp := false}) only [↓vp0, vz, vn, nq, tys, cellD, wideIR, if_true, if_false, implies_true, forall_const, ne_eq, reduceIte, reduceCtorEq, Nat.reduceEqDiff, Nat.reduceAdd, Nat.reduceMul, Nat.reduceLT, Nat.reduceSub, Nat.reduceLeDiff, Nat.reduceBNe, Nat.reduceBEq, Nat.reduceBeqDiff, List.range, List.range.loop, gl0, Tryd.ntmps26, Tryd.results26, Int.toNat_natCast, g1, txD, inD, d3, d4, hs, givesIf]
      exact ⟨by omega, by omega, by omega, by omega⟩
    have d4 : decide ((6 : Int) < ((((l.getD k default).ins.getD m default).wit.length : Nat) : Int)) = false := decide_eq_false (by omega)
    simp (config := {dsimp := false}) only [↓vp0, vz, vn, nq, tys, cellD, wideIR, if_true, if_false, implies_true, forall_const, ne_eq, reduceIte, reduceCtorEq, Nat.reduceEqDiff, Nat.reduceAdd, Nat.reduceMul, Nat.reduceLT, Nat.reduceSub, Nat.reduceLeDiff, Nat.reduceBNe, Nat.reduceBEq, Nat.reduceBeqDiff, List.range, List.range.loop, gl0, Tryd.ntmps26, Tryd.results26, Int.toNat_natCast, g1, txD, inD, d3, d4]
    refine ⟨by omega, by omega, by omega, by omega, ?_⟩
    refine loopI {q : Nat // q ≤ ((l.getD k default).ins.getD m default).wit.length ∧ ∀ j, j < q → w200 (((l.getD k default).ins.getD m default).wit.getD j default) = true} (fun q => [(6, .int .i64 (q.1 : Nat)), (5, .int .i64 (m : Nat)), (4, .bp 68 0), (3, .int .i64 (k : Nat)), (1, .bp 0 0)]) (fun _ => ⟨[(0, .agg [.agg [.int .u32 h0, .arr .u8 32 hp, .arr .u8 32 hr, .int .u32 h1, .int .u32 h2, .int .u32 h3], .sl .no 4 (txsD l)]), (68, txD (l.getD k default))], [], 216⟩) (fun q => ((l.getD k default).ins.getD m default).wit.length - q.1) ⟨0, by simp⟩ (fun _ => rfl) ?_ ?_
    · exact ⟨⟨wkD_eq rfl, rfl, wkD_eq rfl, rfl, wkD_eq rfl, rfl, wkD_eq rfl, rfl, wkD_eq rfl, rfl, trivial⟩, ⟨rfl, Nat.le_of_ble_eq_true rfl, rfl, rfl, Nat.le_of_ble_eq_true rfl, rfl, trivial⟩, trivial⟩
    rintro ⟨q, hq, hbq⟩
    simp (config := {dsimp := false}) only [↓vp0, vz, vn, nq, tys, cellD, wideIR, if_true, if_false, implies_true, forall_const, ne_eq, reduceIte, reduceCtorEq, Nat.reduceEqDiff, Nat.reduceAdd, Nat.reduceMul, Nat.reduceLT, Nat.reduceSub, Nat.reduceLeDiff, Nat.reduceBNe, Nat.reduceBEq, Nat.reduceBeqDiff, List.range, List.range.loop, gl0, Tryd.ntmps26, Tryd.results26, Int.toNat_natCast, g1, txD, inD]
    refine ⟨by omega, by omega, fun hh3 => ?_, fun hh3 => ?_⟩
    · have hh3 := of_decide_eq_true hh3
      have hq' : q < ((l.getD k default).ins.getD m default).wit.length := by omega
      have g2 : (slis ((l.getD k default).ins.getD m default).wit).getD q .any = .sli .no .u8 (((l.getD k default).ins.getD m default).wit.getD q default) := slis_get _ q hq'
      have hwm := (hx.wit _ (getD_memI hq')).2
      cases hp : w200 (((l.getD k default).ins.getD m default).wit.getD q default)
      · have hs := no2 (by rw [inSmall_eq, all_no (p := w200) (getD_memI hq') hp, Bool.and_false])
        have d5 : decide ((200 : Int) < (((((l.getD k default).ins.getD m default).wit.getD q default).length : Nat) : Int)) = true := decide_eq_true (by have := of_decide_eq_false hp; omega)
        simp (config := {dsimp := false}) only [↓vp0, vz, vn, nq, tys, cellD, wideIR, if_true, if_false, implies_true, forall_const, ne_eq, reduceIte, reduceCtorEq, Nat.reduceEqDiff, Nat.reduceAdd, Nat.reduceMul, Nat.reduceLT, Nat.reduceSub, Nat.reduceLeDiff, Nat.reduceBNe, Nat.reduceBEq, Nat.reduceBeqDiff, List.range, List.range.loop, gl0, Tryd.ntmps26, Tryd.results26, Int.toNat_natCast, g1, g2, txD, inD, d5, hs, givesIf]
        exact ⟨by omega, by omega, by omega, by omega⟩
      · have d5 : decide ((200 : Int) < (((((l.getD k default).ins.getD m default).wit.getD q default).length : Nat) : Int)) = false := decide_eq_false (by have := of_decide_eq_true hp; omega)
        simp (config := {dsimp := false}) only [↓vp0, vz, vn, nq, tys, cellD, wideIR, if_true, if_false, implies_true, forall_const, ne_eq, reduceIte, reduceCtorEq, Nat.reduceEqDiff, Nat.reduceAdd, Nat.reduceMul, Nat.reduceLT, Nat.reduceSub, Nat.reduceLeDiff, Nat.reduceBNe, Nat.reduceBEq, Nat.reduceBeqDiff, List.range, List.range.loop, gl0, Tryd.ntmps26, Tryd.results26, Int.toNat_natCast, g1, g2, txD, inD, d5]
        refine ⟨by omega, by omega, by omega, by omega, ⟨q + 1, by omega, fun j hj => ?_⟩, ⟨⟨wkD_eq ?_, rfl, wkD_eq rfl, rfl, wkD_eq rfl, rfl, wkD_eq rfl, rfl, wkD_eq rfl, rfl, trivial⟩, ⟨rfl, Nat.le_of_ble_eq_true rfl, rfl, rfl, Nat.le_of_ble_eq_true rfl, rfl, trivial⟩, trivial⟩, by (try simp only); omega⟩
        · rcases Nat.lt_or_ge j q with h7 | h7
          · exact hbq j h7
          · obtain rfl : j = q := by omega
            exact hp
        · exact some_i64 (by (try simp only); omega)
    · have hh3 := of_decide_eq_false hh3
      obtain rfl : q = ((l.getD k default).ins.getD m default).wit.length := by omega
      have hp : inSmall ((l.getD k default).ins.getD m default) = true := by
        rw [inSmall_eq, decide_eq_true c3, decide_eq_true c4, all_get (p := w200) hbq]; rfl
      refine ⟨⟨m + 1, by omega, fun j hj => ?_⟩, ⟨⟨wkD_eq ?_, rfl, wkD_eq rfl, rfl, wkD_eq rfl, rfl, wkD_eq rfl, rfl, trivial⟩, ⟨rfl, Nat.le_of_ble_eq_true rfl, rfl, rfl, Nat.le_of_ble_eq_true rfl, rfl, trivial⟩, trivial⟩, by (try simp only); omega⟩
      · rcases Nat.lt_or_ge j m with h7 | h7
        · exact hbm j h7
        · obtain rfl : j = m := by omega
          exact hp
      · exact some_i64 (by (try simp only); omega)
  have hh2 := of_decide_eq_false hh2
  obtain rfl : m = (l.getD k default).ins.length := by omega
  refine loopI {m : Nat // m ≤ (l.getD k default).outs.length ∧ ∀ j, j < m → outSmall ((l.getD k default).outs.getD j default) = true} (fun m => [(7, .int .i64 (m.1 : Nat)), (4, .bp 68 0), (3, .int .i64 (k : Nat)), (1, .bp 0 0)]) (fun _ => ⟨[(0, .agg [.agg [.int .u32 h0, .arr .u8 32 hp, .arr .u8 32 hr, .int .u32 h1, .int .u32 h2, .int .u32 h3], .sl .no 4 (txsD l)]), (68, txD (l.getD k default))], [], 144⟩) (fun m => (l.getD k default).outs.length - m.1) ⟨0, by simp⟩ (fun _ => rfl) ?_ ?_
  · exact ⟨⟨wkD_eq rfl, rfl, wkD_eq rfl, rfl, wkD_eq rfl, rfl, wkD_eq rfl, rfl, trivial⟩, ⟨rfl, Nat.le_of_ble_eq_true rfl, rfl, rfl, Nat.le_of_ble_eq_true rfl, rfl, trivial⟩, trivial⟩
  rintro ⟨m, hm, hbo⟩
  simp (config := {dsimp := false}) only [↓vp0, vz, vn, nq, tys, cellD, wideIR, if_true, if_false, implies_true, forall_const, ne_eq, reduceIte, reduceCtorEq, Nat.reduceEqDiff, Nat.reduceAdd, Nat.reduceMul, Nat.reduceLT, Nat.reduceSub, Nat.reduceLeDiff, Nat.reduceBNe, Nat.reduceBEq, Nat.reduceBeqDiff, List.range, List.range.loop, gl0, Tryd.ntmps26, Tryd.results26, txD]
  refine ⟨fun hh2 => ?_, fun hh2 => ?_⟩
  · have hh2 := of_decide_eq_true hh2
    have hm' : m < (l.getD k default).outs.length := by omega
    have g1 := outsD_get (l.getD k default).outs m hm'
    have hx := ht.outs _ (getD_memI hm')
    have hms := hx.script.2
    cases hp : outSmall ((l.getD k default).outs.getD m default)
    · have hs := no (by unfold txSmall; rw [all_no (getD_memI hm') hp, Bool.and_false, Bool.and_false])
      have d5 : decide ((200 : Int) < ((((l.getD k default).outs.getD m default).script.length : Nat) : Int)) = true := decide_eq_true (by have := of_decide_eq_false hp; omega)
      simp (config := {dsimp := false}) only [↓vp0, vz, vn, nq, tys, cellD, wideIR, if_true, if_false, implies_true, forall_const, ne_eq, reduceIte, reduceCtorEq, Nat.reduceEqDiff, Nat.reduceAdd, Nat.reduceMul, Nat.reduceLT, Nat.reduceSub, Nat.reduceLeDiff, Nat.reduceBNe, Nat.reduceBEq, Nat.reduceBeqDiff, List.range, List.range.loop, gl0, Tryd.ntmps26, Tryd.results26, Int.toNat_natCast, g1, txD, outD, d5, hs, givesIf]
      exact ⟨by omega, by omega⟩
    · have d5 : decide ((200 : Int) < ((((l.getD k default).outs.getD m default).script.length : Nat) : Int)) = false := decide_eq_false (by have := of_decide_eq_true hp; omega)
      simp (config := {dsimp := false}) only [↓vp0, vz, vn, nq, tys, cellD, wideIR, if_true, if_false, implies_true, forall_const, ne_eq, reduceIte, reduceCtorEq, Nat.reduceEqDiff, Nat.reduceAdd, Nat.reduceMul, Nat.reduceLT, Nat.reduceSub, Nat.reduceLeDiff, Nat.reduceBNe, Nat.reduceBEq, Nat.reduceBeqDiff, List.range, List.range.loop, gl0, Tryd.ntmps26, Tryd.results26, Int.toNat_natCast, g1, txD, outD, d5]
      refine ⟨by omega, by omega, ⟨m + 1, by omega, fun j hj => ?_⟩, ⟨⟨wkD_eq ?_, rfl, wkD_eq rfl, rfl, wkD_eq rfl, rfl, wkD_eq rfl, rfl, trivial⟩, ⟨rfl, Nat.le_of_ble_eq_true rfl, rfl, rfl, Nat.le_of_ble_eq_true rfl, rfl, trivial⟩, trivial⟩, by (try simp only); omega⟩
      · rcases Nat.lt_or_ge j m with h7 | h7
        · exact hbo j h7
        · obtain rfl : j = m := by omega
          exact hp
      · exact some_i64 (by (try simp only); omega)
  have hh2 := of_decide_eq_false hh2
  obtain rfl : m = (l.getD k default).outs.length := by omega
  have hp : txSmall (l.getD k default) = true := by
    unfold txSmall
    rw [decide_eq_true c1, decide_eq_true c2, all_get hbm, all_get hbo]; rfl
  refine ⟨⟨k + 1, by omega, fun j hj => ?_⟩, ⟨⟨wkD_eq ?_, rfl, wkD_eq rfl, rfl, trivial⟩, ⟨rfl, Nat.le_of_ble_eq_true rfl, rfl, trivial⟩, trivial⟩, by (try simp only); omega⟩
  · rcases Nat.lt_or_ge j k with h7 | h7
    · exact hb j h7
    · obtain rfl : j = k := by omega
      exact hp
  · exact some_i64 (by (try simp only); omega)
end Go.Vi.CM
end

section
set_option linter.unusedVariables false
set_option linter.unusedSimpArgs false
set_option maxHeartbeats 0
set_option maxRecDepth 20000
namespace Go.Vi.CM
open Go.Proofs

theorem c_lawMCommits : Contract E 8 := by
  refine contract_seeT hE hgl (show E.P.funcs[8]? = some Tryd.f8 from Tryd.func8) rfl (p := sp_lawMCommits) (fun _ _ _ => rfl) ?_
  intro args hv
  unfold sp_lawMCommits at hv ⊢
  split at hv
  case h_2 => exact hv.elim
  rename_i h0 hp hr h1 h2 h3 es
  refine ⟨by simp, Nat.le_of_ble_eq_true rfl, ?_⟩
  simp only [givesIf] at hv
  obtain ⟨hhd, l, rfl, hok, hl⟩ := hv
  have hiw : isTxW (txsD l) := ⟨l, rfl, hok, hl⟩
  cases hs : smallP l
  · simp (config := {dsimp := false}) only [↓vp0, vz, vn, nq, tys, cellD, wideIR, if_true, if_false, implies_true, forall_const, ne_eq, reduceIte, reduceCtorEq, Nat.reduceEqDiff, Nat.reduceAdd, Nat.reduceMul, Nat.reduceLT, Nat.reduceSub, Nat.reduceLeDiff, Nat.reduceBNe, Nat.reduceBEq, Nat.reduceBeqDiff, List.range, List.range.loop, gl0, Tryd.ntmps8, Tryd.results8, PF.toR, gives, givesIf, hs, spec_small, sp_small, c_small, b_small, spec_works, sp_works, c_works, b_works]
    exact ⟨hhd, hiw⟩
  · obtain ⟨hok', h8⟩ := any_ok hok hs
    have his : isTxL (txsD l) := ⟨l, rfl, hok', by omega⟩
    obtain ⟨a, ha⟩ : ∃ a, commitP l = a := ⟨_, rfl⟩
    obtain ⟨b, hb⟩ : ∃ b, wantedP l = b := ⟨_, rfl⟩
    simp (config := {dsimp := false}) only [↓vp0, vz, vn, nq, tys, cellD, wideIR, if_true, if_false, implies_true, forall_const, ne_eq, reduceIte, reduceCtorEq, Nat.reduceEqDiff, Nat.reduceAdd, Nat.reduceMul, Nat.reduceLT, Nat.reduceSub, Nat.reduceLeDiff, Nat.reduceBNe, Nat.reduceBEq, Nat.reduceBeqDiff, List.range, List.range.loop, gl0, Tryd.ntmps8, Tryd.results8, PF.toR, gives, givesIf, hs, ha, hb, hashV_eq, eq_self, decide_true, spec_small, sp_small, c_small, b_small, spec_works, sp_works, c_works, b_works, spec_gcommit, sp_gcommit, c_gcommit, b_gcommit, spec_rcommit, sp_gcommit, c_rcommit, b_rcommit, spec_gwanted, sp_gwanted, c_gwanted, b_gwanted, spec_rwanted, sp_gwanted, c_rwanted, b_rwanted]
    exact ⟨hhd, hiw, hhd, his, hhd, his, hhd, his, by omega⟩
end Go.Vi.CM
end

section
set_option linter.unusedVariables false
set_option linter.unusedSimpArgs false
namespace Go.Proofs.YtnfcnphhcgmnmaaDoor
open Go.ChangeShapes Go.WideShapes Go.RowKit Go.Vi Go.Vi.CM

theorem Tryd.own : ownKnob Tryd.prog.godebug = none := by kernel_rfl
theorem Tryd.laidOut : laidOutB Tryd.prog = true := by kernel_rfl

theorem globs_of_laid {W : World} (h : laidMetH Tryd.prog [("spinney/sha.roundNumbers", Rows.laid_spinney_sha_roundNumbers)] W) : Globs Go.Vi.CM.E (g0 W) W := by
  rw [MakeChecks.laidMetH_plain _ _ _ (by kernel_rfl)] at h
  obtain ⟨ps, ⟨g, t, cs, fuel, p, q, hg, ht, hv, hd, _, _⟩, _, _⟩ := h
  obtain rfl := Option.some.inj ((show Tryd.prog.globalNamed "spinney/sha.roundNumbers" = some 0 by kernel_rfl).symm.trans hg)
  obtain rfl := Option.some.inj ((show (Tryd.prog.globals[0]?).map (·.type) = some 109 by kernel_rfl).symm.trans ht)
  obtain ⟨xs, m, _, ex, hcl, hl, hel⟩ := DataW.trod_array Tryd.underlying109 hd
  have c5 : Tryd.prog.cellsOf 42 = 1 := by kernel_rfl
  have hlen : kList.length = 64 := by decide
  have e3 : (xs.map (·.1)) = kList.map fun n => .lit (.int .u32 n) :=
    (DataW.agg.inj (Prod.mk.inj ex).1).symm
  have cell : ∀ r, r < 64 → cs.toList[r]? = some (.int .u32 (kList.getD r 0)) := by
    intro r hr
    have hE := hel r hr
    rw [c5, Nat.mul_one, List.getElem?_eq_getElem (by omega)] at hE
    obtain ⟨z, e1, e2, _⟩ := DataW.trod_int Tryd.underlying42 hE
    have e4 : (xs.map (·.1))[r]? = (kList.map fun n => (DataW.lit (.int .u32 n) : DataW Unit))[r]? := by rw [e3]
    rw [List.getElem?_map, List.getElem?_map, List.getElem?_eq_getElem (by omega : r < xs.length), List.getElem?_eq_getElem (by omega : r < kList.length), e2] at e4
    have hz : z = kList.getD r 0 := by
      simp only [Option.map_some, Option.some.injEq, DataW.lit.injEq, Lit.int.injEq, true_and] at e4
      rw [e4, List.getD, List.getElem?_eq_getElem (by omega : r < kList.length)]; rfl
    rw [← hz]
    have h0 : ((cs.toList.drop r).take 1)[0]? = some (.int .u32 z) := by rw [e1]; rfl
    simpa using h0
  have at0 : At W 0 0 (ints .u32 kList) := by
    intro i v hi
    simp only [ints, List.getElem?_map, Option.map_eq_some_iff] at hi
    obtain ⟨z, hz, rfl⟩ := hi
    have hil : i < 64 := by
      have := (List.getElem?_eq_some_iff.1 hz).1
      omega
    have := cell i hil
    rw [List.getD_eq_getElem?_getD, hz] at this
    rw [Nat.zero_add, World.var?_cell hg hv i]
    simpa using this
  intro i d hi
  change glC i = some d at hi
  unfold glC at hi
  split at hi <;> cases hi
  refine ⟨0, 0, ints .u32 kList, rfl, ⟨hlen, rfl⟩, ?_, at0⟩
  have := at0 63 _ (by rw [ints, List.getElem?_map, List.getElem?_eq_getElem (by omega : 63 < kList.length)]; rfl)
  have := cell_lt this
  show 0 + (ints .u32 kList).length ≤ rowSize W 0
  simp only [ints, List.length_map, hlen]
  omega

theorem bytes_of {xs : List Int} (h : ∀ x ∈ xs, (Lit.int .u8 x).wf = true) : Go.Vi.bytes xs := by
  intro x hx
  have := h x hx
  simp only [Lit.wf, Bool.and_eq_true, decide_eq_true_eq, show IntKind.u8.min = 0 from rfl, show IntKind.u8.max = 255 from rfl] at this
  omega

end Go.Proofs.YtnfcnphhcgmnmaaDoor
end

section
/-
  BLOCKS, as what is handed is read.
-/
set_option linter.unusedVariables false
namespace Go.Vi
open Go.RowKit Go.WideShapes Go.ChangeShapes

theorem lay_nil {P : Program} {a b : Nat} (h : a = b) : LayF P [] a b := h
def rU32 (d : D) : Prop := ∃ n, d = .int .u32 n ∧ (Lit.int .u32 n).wf = true
def rI64 (d : D) : Prop := ∃ n, d = .int .i64 n ∧ (Lit.int .i64 n).wf = true
def rH (d : D) : Prop := ∃ xs, d = .arr .u8 32 xs ∧ xs.length = 32 ∧ ∀ x ∈ xs, (Lit.int .u8 x).wf = true
def rScr (d : D) : Prop := ∃ xs, d = .sli .no .u8 xs ∧ (∀ x ∈ xs, (Lit.int .u8 x).wf = true) ∧ xs.length ≤ maxLen
def rSl (sz : Nat) (R : D → Prop) (d : D) : Prop := ∃ es, d = .sl .no sz es ∧ (∀ x ∈ es, R x) ∧ es.length ≤ maxLen
def rAg (Rs : List (D → Prop)) (d : D) : Prop := ∃ ds, d = .agg ds ∧ All2 (fun d R => R d) ds Rs
def rIn (d : D) : Prop := ∃ x : InP, d = inD x ∧ x.Any
def rOut (d : D) : Prop := ∃ x : OutP, d = outD x ∧ x.Any
def rTx (d : D) : Prop := ∃ x : TxP, d = txD x ∧ x.Any
theorem wf_u32 {n : Int} (h : (Lit.int .u32 n).wf = true) : u32ok n := by
  simp only [Lit.wf, Bool.and_eq_true, decide_eq_true_eq, show IntKind.u32.min = 0 from rfl, show IntKind.u32.max = 4294967295 from rfl] at h
  exact ⟨h.1, by omega⟩
theorem wf_i64 {n : Int} (h : (Lit.int .i64 n).wf = true) : -9223372036854775808 ≤ n ∧ n ≤ 9223372036854775807 := by
  simpa only [Lit.wf, Bool.and_eq_true, decide_eq_true_eq, show IntKind.i64.min = -9223372036854775808 from rfl, show IntKind.i64.max = 9223372036854775807 from rfl] using h
theorem wf_bytes {xs : List Int} (h : ∀ x ∈ xs, (Lit.int .u8 x).wf = true) : bytes xs := by
  intro x hx
  have := h x hx
  simp only [Lit.wf, Bool.and_eq_true, decide_eq_true_eq, show IntKind.u8.min = 0 from rfl, show IntKind.u8.max = 255 from rfl] at this
  omega
theorem maxLen_eq : maxLen = 9223372036854775807 := by decide
theorem all_map {α : Type} {R : D → Prop} {p : α → Prop} {f : α → D} (h : ∀ d, R d → ∃ x, d = f x ∧ p x) : ∀ es : List D, (∀ x ∈ es, R x) → ∃ l : List α, es = l.map f ∧ ∀ x ∈ l, p x
  | [], _ => ⟨[], rfl, fun x hx => by cases hx⟩
  | e :: es, he => by
    obtain ⟨x, rfl, hx⟩ := h e (he e (by simp))
    obtain ⟨l, rfl, hl⟩ := all_map h es fun y hy => he y (by simp [hy])
    exact ⟨x :: l, rfl, fun y hy => by
      rcases List.mem_cons.1 hy with rfl | hy
      · exact hx
      · exact hl y hy⟩
theorem all_mapL {α : Type} {R : D → Prop} {p : α → Prop} {f : α → D} (h : ∀ d, R d → ∃ x, d = f x ∧ p x) {sz : Nat} {d : D} (hd : rSl sz R d) : ∃ l : List α, d = .sl .no sz (l.map f) ∧ (∀ x ∈ l, p x) ∧ l.length ≤ 9223372036854775807 := by
  obtain ⟨es, rfl, he, hl⟩ := hd
  obtain ⟨l, rfl, h2⟩ := all_map h es he
  rw [List.length_map, maxLen_eq] at hl
  exact ⟨l, rfl, h2, hl⟩
theorem scr_r (d : D) (h : rScr d) : ∃ s : List Int, d = .sli .no .u8 s ∧ scrW s := by
  obtain ⟨s, rfl, h1, h2⟩ := h
  exact ⟨s, rfl, wf_bytes h1, by rw [maxLen_eq] at h2; exact h2⟩
theorem all2_2 {ds : List D} {R0 R1 : D → Prop} (h : All2 (fun d R => R d) ds [R0, R1]) : ∃ a b, ds = [a, b] ∧ R0 a ∧ R1 b := by
  match ds, h with
  | [a, b], h => exact ⟨a, b, rfl, h.1, h.2.1⟩
theorem all2_4 {ds : List D} {R0 R1 R2 R3 : D → Prop} (h : All2 (fun d R => R d) ds [R0, R1, R2, R3]) : ∃ a b c d, ds = [a, b, c, d] ∧ R0 a ∧ R1 b ∧ R2 c ∧ R3 d := by
  match ds, h with
  | [a, b, c, d], h => exact ⟨a, b, c, d, rfl, h.1, h.2.1, h.2.2.1, h.2.2.2.1⟩
theorem all2_6 {ds : List D} {R0 R1 R2 R3 R4 R5 : D → Prop} (h : All2 (fun d R => R d) ds [R0, R1, R2, R3, R4, R5]) : ∃ a b c d e f, ds = [a, b, c, d, e, f] ∧ R0 a ∧ R1 b ∧ R2 c ∧ R3 d ∧ R4 e ∧ R5 f := by
  match ds, h with
  | [a, b, c, d, e, f], h => exact ⟨a, b, c, d, e, f, rfl, h.1, h.2.1, h.2.2.1, h.2.2.2.1, h.2.2.2.2.1, h.2.2.2.2.2.1⟩
theorem raw_in (d : D) (h : rAg [rAg [rH, rU32], rScr, rU32, rSl 1 rScr] d) : rIn d := by
  obtain ⟨ds, rfl, h⟩ := h
  obtain ⟨_, _, _, _, rfl, ⟨es, rfl, h0⟩, h1, ⟨q, rfl, hq⟩, h3⟩ := all2_4 h
  obtain ⟨_, _, rfl, ⟨p, rfl, hp, hb⟩, ⟨i, rfl, hi⟩⟩ := all2_2 h0
  obtain ⟨s, rfl, hs⟩ := scr_r _ h1
  obtain ⟨w, rfl, hw, hl⟩ := all_mapL scr_r h3
  exact ⟨⟨p, i, s, q, w⟩, rfl, ⟨hp, wf_bytes hb, wf_u32 hi, hs, wf_u32 hq, hw, hl⟩⟩
theorem raw_out (d : D) (h : rAg [rI64, rScr] d) : rOut d := by
  obtain ⟨ds, rfl, h⟩ := h
  obtain ⟨_, _, rfl, ⟨v, rfl, hv⟩, h1⟩ := all2_2 h
  obtain ⟨s, rfl, hs⟩ := scr_r _ h1
  exact ⟨⟨v, s⟩, rfl, wf_i64 hv, hs⟩
theorem raw_tx (d : D) (h : rAg [rU32, rSl 36 rIn, rSl 2 rOut, rU32] d) : rTx d := by
  obtain ⟨ds, rfl, h⟩ := h
  obtain ⟨_, _, _, _, rfl, ⟨v, rfl, hv⟩, h1, h2, ⟨l, rfl, hl⟩⟩ := all2_4 h
  obtain ⟨i, rfl, hi, hil⟩ := all_mapL (f := inD) (p := InP.Any) (fun d h => h) h1
  obtain ⟨o, rfl, ho, hol⟩ := all_mapL (f := outD) (p := OutP.Any) (fun d h => h) h2
  exact ⟨⟨v, i, o, l⟩, rfl, wf_u32 hv, hi, ho, wf_u32 hl, hil, hol⟩
/-- A block, as it is handed. -/
theorem raw_block {ds : List D} (h : All2 (fun d R => R d) ds [rAg [rU32, rH, rH, rU32, rU32, rU32], rSl 4 rTx]) :
    ∃ (h0 : Int) (hp hr : List Int) (h1 h2 h3 : Int) (l : List TxP), ds = [.agg [.int .u32 h0, .arr .u8 32 hp, .arr .u8 32 hr, .int .u32 h1, .int .u32 h2, .int .u32 h3], .sl .no 4 (txsD l)] ∧ hdOk hp hr ∧ isTxW (txsD l) := by
  obtain ⟨_, _, rfl, ⟨es, rfl, h0⟩, ht⟩ := all2_2 h
  obtain ⟨_, _, _, _, _, _, rfl, ⟨a, rfl, _⟩, ⟨p, rfl, hp, _⟩, ⟨r, rfl, hr, _⟩, ⟨b, rfl, _⟩, ⟨c, rfl, _⟩, ⟨e, rfl, _⟩⟩ := all2_6 h0
  obtain ⟨l, rfl, hl, hm⟩ := all_mapL (f := txD) (p := TxP.Any) (fun d h => h) ht
  exact ⟨a, p, r, b, c, e, l, rfl, ⟨hp, hr⟩, l, rfl, hl, hm⟩
end Go.Vi
end
