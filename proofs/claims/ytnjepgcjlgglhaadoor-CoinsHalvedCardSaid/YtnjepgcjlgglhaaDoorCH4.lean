/- Lemmas for the law proved in the text whose name ends with Law. -/
import Derived.Test.YtnjepgcjlgglhaaDoorCH3
set_option linter.unusedVariables false
set_option linter.unnecessarySimpa false
set_option linter.unusedSimpArgs false
set_option maxHeartbeats 0
set_option maxRecDepth 20000
section
namespace Go.Vi.CO
open Go.Proofs
theorem Zd0 {n : Int} {i : Nat} (h : ZjB n) (hi : i < 8) : IntKind.wrap .u8 (ZeY .u64 n (IntKind.wrap .i64 (8 * (i : Int)))) = n / 256 ^ i % 256 := by
 have e1 : IntKind.wrap .i64 (8 * (i : Int)) = ((8 * i : Nat) : Int) := by rw [IntWalk.i64_in _ (by omega)]; omega
 have e2 : ZeY .u64 n ((8 * i : Nat) : Int) = n / 256 ^ i := by
  unfold ZeY
  rw [Int.toNat_natCast, Nat.min_eq_left (by show 8 * i ≤ 64; omega), Int.fdiv_eq_ediv_of_nonneg _ (Int.le_of_lt (Int.pow_pos (by decide)))]
  congr 1
  rw [Int.pow_mul]
  rfl
 rw [e1, e2]
 rfl
theorem Zvp {n : Int} {w : Nat} (hw : w ≤ 8) (h : 0 ≤ n ∧ n < 256 ^ w) : ZeY .u64 n (IntKind.wrap .i64 (8 * (w : Int))) = 0 := by
 have e1 : IntKind.wrap .i64 (8 * (w : Int)) = ((8 * w : Nat) : Int) := by rw [IntWalk.i64_in _ (by omega)]; omega
 rw [e1]
 unfold ZeY
 rw [Int.toNat_natCast, Nat.min_eq_left (by show 8 * w ≤ 64; omega), Int.fdiv_eq_ediv_of_nonneg _ (Int.le_of_lt (Int.pow_pos (by decide)))]
 have : (2 : Int) ^ (8 * w) = 256 ^ w := by rw [Int.pow_mul]; rfl
 rw [this]
 exact Int.ediv_eq_zero_of_lt h.1 h.2
theorem le_succ (n : Int) (w : Nat) : leI (w + 1) n = leI w n ++ [n / 256 ^ w % 256] := by
 simp [leI, List.range_succ]
theorem Zug : Zw E 116 := by
 refine ZbC hE hgl (show E.P.funcs[116]? = some Tryd.f116 from Tryd.func116) rfl (p := ZfM) (fun _ _ _ => rfl) ?_
 intro args ds tv hv hdl htl
 unfold ZfM at hv ⊢
 split at hv
 case h_2 => exact hv.elim
 rename_i rs o b w n
 refine ⟨by simp, Nat.le_of_ble_eq_true rfl, ?_⟩
 obtain ⟨hr, hw, hn, hb⟩ := hv
 obtain ⟨w, rfl, hw8⟩ : ∃ k : Nat, w = (k : Int) ∧ (k = 4 ∨ k = 8) := ⟨w.toNat, by omega, by omega⟩
 simp only [Int.toNat_natCast] at hn ⊢
 have hu : ZjB n := ⟨hn.1, by rcases hw8 with rfl | rfl <;> omega⟩
 have hz := Zvp (n := n) (w := w) (by omega) hn
 have d8 : (decide ((w : Int) = 4) || decide ((w : Int) = 8)) = true := by rcases hw8 with rfl | rfl <;> rfl
 have d1 : (decide ((w : Int) = 1) || (decide ((w : Int) = 2) || (decide ((w : Int) = 4) || decide ((w : Int) = 8)))) = true := by rw [d8]; simp
 have hsh : (0 ≤ IntKind.wrap .i64 (8 * (w : Int))) = True := by rw [IntWalk.i64_in _ (by omega)]; simp; omega
 rcases hr with ⟨rfl, rfl⟩ | ⟨rfl, rfl, hne⟩
 ·have hf := Zrn b
  cases hc : decide ((w : Int) < 8)
  all_goals simp (config := {dsimp := false}) only [↓Zt, vz, vn, nq, Zp, Zh, Zd, Zb, Zg, Za, Zi, Ze, Zj, Zf, if_true, if_false, implies_true, forall_const, ne_eq, reduceIte, reduceCtorEq, Nat.reduceEqDiff, Nat.reduceAdd, Nat.reduceMul, Nat.reduceDiv, Nat.reduceLT, Nat.reduceSub, Nat.reduceLeDiff, Nat.reduceBNe, Nat.reduceBEq, Nat.reduceBeqDiff, List.range, List.range.loop, Zu, Tryd.ntmps116, Tryd.results116, Za9, vb, PF.toR, gives, d1, hc, hz, hf, hsh, decide_true, Zix, ZdB, ZnI, ZnT, ZbQ, Zbx, Zd3, Zd9]
  all_goals refine ⟨.inl ⟨rfl, rfl⟩, by omega, ?_⟩
  all_goals refine ZbL (Fin (w + 1)) (fun k => [(27, .int .i64 (k.1 : Nat)), (26, .int .i64 (w : Nat)), (8, .sli (.tok 76) .u8 (b ++ leI k.1 n)), (2, .int .u64 n)]) (fun k => ⟨[], [(76, (b.length + k.1, 1))], 92⟩) (fun k => w - k.1) 0 (fun _ => rfl) ?_ ?_
  any_goals (refine ⟨⟨Zc rfl, rfl, Zc rfl, rfl, Zc ?_, rfl, Zc rfl, rfl, trivial⟩, trivial, ⟨rfl, Nat.le_of_ble_eq_true rfl, trivial⟩⟩; exact Zaq (List.append_nil _).symm)
  all_goals rintro ⟨k, hk⟩
  all_goals simp (config := {dsimp := false}) only [↓Zt, vz, vn, nq, Zp, Zh, Zd, Zb, Zg, Za, Zi, Ze, Zj, Zf, if_true, if_false, implies_true, forall_const, ne_eq, reduceIte, reduceCtorEq, Nat.reduceEqDiff, Nat.reduceAdd, Nat.reduceMul, Nat.reduceDiv, Nat.reduceLT, Nat.reduceSub, Nat.reduceLeDiff, Nat.reduceBNe, Nat.reduceBEq, Nat.reduceBeqDiff, List.range, List.range.loop, Zu, Tryd.ntmps116, Tryd.results116]
  all_goals refine ⟨fun h => ?_, fun h => ?_⟩
  any_goals (
   have h := of_decide_eq_true h
   refine ⟨by rw [IntWalk.i64_in _ (by omega)]; omega, Zab (by simp [Zr]), by simp [Zr]; omega, ⟨k + 1, by omega⟩, ⟨⟨Zc ?_, rfl, Zc rfl, rfl, Zc ?_, rfl, Zc rfl, rfl, trivial⟩, trivial, ⟨?_, Nat.le_of_ble_eq_true rfl, trivial⟩⟩, by (try simp only); omega⟩
   ·exact Zap (by (try simp only); omega)
   ·exact Zaq (by rw [Zd0 hu (by omega), List.append_assoc, ← le_succ])
   ·exact Zab (by simp [Zr]; omega))
  all_goals have h := of_decide_eq_false h
  all_goals obtain rfl : k = w := by omega
  all_goals simp (config := {dsimp := false}) only [↓Zt, vz, vn, nq, Zp, Zh, Zd, Zb, Zg, Za, Zi, Ze, Zj, Zf, if_true, if_false, implies_true, forall_const, ne_eq, reduceIte, reduceCtorEq, Nat.reduceEqDiff, Nat.reduceAdd, Nat.reduceMul, Nat.reduceDiv, Nat.reduceLT, Nat.reduceSub, Nat.reduceLeDiff, Nat.reduceBNe, Nat.reduceBEq, Nat.reduceBeqDiff, List.range, List.range.loop, Zu, Tryd.ntmps116, Tryd.results116, Za9, vb]
  all_goals exact ⟨[], [76], [], ⟨rfl, rfl⟩, ⟨rfl, rfl⟩, ⟨by simp, by simp⟩, by simp, by simp [ZB, S.tok, Zm], by simp [ZB, S.tok, Zm], ⟨_, rfl, rfl⟩, ⟨_, rfl, rfl⟩, id rfl⟩
 ·have hf := Zxg (.tok 0) hne
  cases hc : decide ((w : Int) < 8)
  all_goals simp (config := {dsimp := false}) only [↓Zt, vz, vn, nq, Zp, Zh, Zd, Zb, Zg, Za, Zi, Ze, Zj, Zf, if_true, if_false, implies_true, forall_const, ne_eq, reduceIte, reduceCtorEq, Nat.reduceEqDiff, Nat.reduceAdd, Nat.reduceMul, Nat.reduceDiv, Nat.reduceLT, Nat.reduceSub, Nat.reduceLeDiff, Nat.reduceBNe, Nat.reduceBEq, Nat.reduceBeqDiff, List.range, List.range.loop, Zu, Tryd.ntmps116, Tryd.results116, Za9, vb, PF.toR, gives, d1, hc, hz, hf, hsh, decide_true, Zix, ZdB, ZnI, ZnT, ZbQ, Zbx, Zd3, Zd9]
  all_goals refine ⟨.inr ⟨rfl, rfl, hne⟩, by omega, ?_⟩
  all_goals refine ZbL (Fin (w + 1)) (fun k => [(27, .int .i64 (k.1 : Nat)), (26, .int .i64 (w : Nat)), (8, .sli (.tok 76) .u8 (b ++ leI k.1 n)), (2, .int .u64 n)]) (fun k => ⟨[], [(0, (b.length, 1)), (76, (b.length + k.1, 1))], 92⟩) (fun k => w - k.1) 0 (fun _ => rfl) ?_ ?_
  any_goals (refine ⟨⟨Zc rfl, rfl, Zc rfl, rfl, Zc ?_, rfl, Zc rfl, rfl, trivial⟩, trivial, ⟨rfl, Nat.le_of_ble_eq_true rfl, rfl, Nat.le_of_ble_eq_true rfl, trivial⟩⟩; exact Zaq (List.append_nil _).symm)
  all_goals rintro ⟨k, hk⟩
  all_goals simp (config := {dsimp := false}) only [↓Zt, vz, vn, nq, Zp, Zh, Zd, Zb, Zg, Za, Zi, Ze, Zj, Zf, if_true, if_false, implies_true, forall_const, ne_eq, reduceIte, reduceCtorEq, Nat.reduceEqDiff, Nat.reduceAdd, Nat.reduceMul, Nat.reduceDiv, Nat.reduceLT, Nat.reduceSub, Nat.reduceLeDiff, Nat.reduceBNe, Nat.reduceBEq, Nat.reduceBeqDiff, List.range, List.range.loop, Zu, Tryd.ntmps116, Tryd.results116]
  all_goals refine ⟨fun h => ?_, fun h => ?_⟩
  any_goals (
   have h := of_decide_eq_true h
   refine ⟨by rw [IntWalk.i64_in _ (by omega)]; omega, Zab (by simp [Zr]), by simp [Zr]; omega, ⟨k + 1, by omega⟩, ⟨⟨Zc ?_, rfl, Zc rfl, rfl, Zc ?_, rfl, Zc rfl, rfl, trivial⟩, trivial, ⟨rfl, Nat.le_of_ble_eq_true rfl, ?_, Nat.le_of_ble_eq_true rfl, trivial⟩⟩, by (try simp only); omega⟩
   ·exact Zap (by (try simp only); omega)
   ·exact Zaq (by rw [Zd0 hu (by omega), List.append_assoc, ← le_succ])
   ·exact Zab (by simp [Zr]; omega))
  all_goals have h := of_decide_eq_false h
  all_goals obtain rfl : k = w := by omega
  all_goals simp (config := {dsimp := false}) only [↓Zt, vz, vn, nq, Zp, Zh, Zd, Zb, Zg, Za, Zi, Ze, Zj, Zf, if_true, if_false, implies_true, forall_const, ne_eq, reduceIte, reduceCtorEq, Nat.reduceEqDiff, Nat.reduceAdd, Nat.reduceMul, Nat.reduceDiv, Nat.reduceLT, Nat.reduceSub, Nat.reduceLeDiff, Nat.reduceBNe, Nat.reduceBEq, Nat.reduceBeqDiff, List.range, List.range.loop, Zu, Tryd.ntmps116, Tryd.results116, Za9, vb]
  all_goals exact ⟨[], [76], [], ⟨rfl, rfl⟩, ⟨rfl, rfl⟩, ⟨by simp, by simp⟩, by simp, by simp [ZB, S.tok, Zm], by simp [ZB, S.tok, Zm], ⟨_, rfl, rfl⟩, ⟨_, rfl, rfl⟩, id rfl⟩
theorem ZiQ : Zw E 102 := by
 refine ZbC hE hgl (show E.P.funcs[102]? = some Tryd.f102 from Tryd.func102) rfl (p := ZdK) (fun _ _ _ => rfl) ?_
 intro args ds tv hv hdl htl
 unfold ZdK at hv ⊢
 split at hv
 case h_2 => exact hv.elim
 rename_i rs o b w n
 refine ⟨by simp, Nat.le_of_ble_eq_true rfl, ?_⟩
 obtain ⟨hr, hw, hn, hb⟩ := hv
 rcases hr with ⟨rfl, rfl⟩ | ⟨rfl, rfl, hne⟩
 ·simp (config := {dsimp := false}) only [↓Zt, vz, vn, nq, Zp, Zh, Zd, Zb, Zg, Za, Zi, Ze, Zj, Zf, if_true, if_false, implies_true, forall_const, ne_eq, reduceIte, reduceCtorEq, Nat.reduceEqDiff, Nat.reduceAdd, Nat.reduceMul, Nat.reduceDiv, Nat.reduceLT, Nat.reduceSub, Nat.reduceLeDiff, Nat.reduceBNe, Nat.reduceBEq, Nat.reduceBeqDiff, List.range, List.range.loop, Zu, Tryd.ntmps102, Tryd.results102, Za9, vb, ZlY, ZfM, Zug, Zue]
  exact ⟨.inl ⟨rfl, rfl⟩, hw, hn.1, hn.2, hb, [], [24], [], ⟨rfl, rfl⟩, ⟨rfl, rfl⟩, ⟨by simp, by simp⟩, by simp, by simp [ZB, S.tok, Zm], by simp [ZB, S.tok, Zm], ⟨_, rfl, rfl⟩, ⟨_, rfl, rfl⟩, id rfl⟩
 ·simp (config := {dsimp := false}) only [↓Zt, vz, vn, nq, Zp, Zh, Zd, Zb, Zg, Za, Zi, Ze, Zj, Zf, if_true, if_false, implies_true, forall_const, ne_eq, reduceIte, reduceCtorEq, Nat.reduceEqDiff, Nat.reduceAdd, Nat.reduceMul, Nat.reduceDiv, Nat.reduceLT, Nat.reduceSub, Nat.reduceLeDiff, Nat.reduceBNe, Nat.reduceBEq, Nat.reduceBeqDiff, List.range, List.range.loop, Zu, Tryd.ntmps102, Tryd.results102, Za9, vb, ZlY, ZfM, Zug, Zue]
  exact ⟨.inr ⟨rfl, rfl, hne⟩, hw, hn.1, hn.2, hb, [], [24], [], ⟨rfl, rfl⟩, ⟨rfl, rfl⟩, ⟨by simp, by simp⟩, by simp, by simp [ZB, S.tok, Zm], by simp [ZB, S.tok, Zm], ⟨_, rfl, rfl⟩, ⟨_, rfl, rfl⟩, id rfl⟩
theorem ZoG {n : Int} (h : 0 ≤ n) : (Zaf n = [n] ∧ n < 253) ∨ (253 ≤ n ∧ ∃ m w, Zaf n = m :: leI w n ∧ ((m = 253 ∧ w = 2) ∨ (m = 254 ∧ w = 4) ∨ (m = 255 ∧ w = 8))) := by
 unfold Zaf
 by_cases h1 : n < 253
 ·rw [if_pos h1]; exact .inl ⟨rfl, h1⟩
 ·right
  refine ⟨by omega, ?_⟩
  rw [if_neg h1]
  by_cases h2 : n < 65536
  ·rw [if_pos h2]; exact ⟨_, _, rfl, .inl ⟨rfl, rfl⟩⟩
  ·rw [if_neg h2]
   by_cases h3 : n < 4294967296
   ·rw [if_pos h3]; exact ⟨_, _, rfl, .inr (.inl ⟨rfl, rfl⟩)⟩
   ·rw [if_neg h3]; exact ⟨_, _, rfl, .inr (.inr ⟨rfl, rfl⟩)⟩
theorem ZmE : Zw E 117 := by
 refine ZbC hE hgl (show E.P.funcs[117]? = some Tryd.f117 from Tryd.func117) rfl (p := Zd7) (fun _ _ _ => rfl) ?_
 intro args ds tv hv hdl htl
 unfold Zd7 at hv ⊢
 split at hv
 case h_2 => exact hv.elim
 rename_i rs o b n
 refine ⟨by simp, Nat.le_of_ble_eq_true rfl, ?_⟩
 obtain ⟨hr, hn, hb⟩ := hv
 rcases hr with ⟨rfl, rfl⟩ | ⟨rfl, rfl, hne⟩
 ·have hf := Zrn b
  rcases ZoG hn.1 with ⟨hc, h253⟩ | ⟨h253, m, w, hc, hm⟩
  ·have e1 : decide (IntKind.wrap .i64 (((1 : Nat) : Int) - 1) = 0) = true := rfl
   have e2 : IntKind.wrap .u8 n = n := IntWalk.u8_in n ⟨hn.1, by omega⟩
   simp (config := {dsimp := false}) only [↓Zt, vz, vn, nq, Zp, Zh, Zd, Zb, Zg, Za, Zi, Ze, Zj, Zf, if_true, if_false, implies_true, forall_const, ne_eq, reduceIte, reduceCtorEq, Nat.reduceEqDiff, Nat.reduceAdd, Nat.reduceMul, Nat.reduceDiv, Nat.reduceLT, Nat.reduceSub, Nat.reduceLeDiff, Nat.reduceBNe, Nat.reduceBEq, Nat.reduceBeqDiff, List.range, List.range.loop, Zu, Tryd.ntmps117, Tryd.results117, Za9, vb, PF.toR, Zl, hf, hc, e1, e2, eq_self, decide_true, ZbQ, Zbx, Zd3, Zd9, ZeP, Zc2, ZiE, ZiF]
   exact ⟨.inl ⟨rfl, rfl⟩, by omega, hn, by omega, [], [16], [], ⟨rfl, rfl⟩, ⟨rfl, rfl⟩, ⟨by simp, by simp⟩, by simp, by simp [ZB, S.tok, Zm], by simp [ZB, S.tok, Zm], ⟨_, rfl, rfl⟩, ⟨_, rfl, rfl⟩, id rfl⟩
  ·have e1 : IntKind.wrap .i64 ((((leI w n).length + 1 : Nat) : Int) - 1) = (w : Int) := by rw [Zr, IntWalk.i64_in _ (by omega)]; omega
   rcases hm with ⟨rfl, rfl⟩ | ⟨rfl, rfl⟩ | ⟨rfl, rfl⟩
   all_goals simp (config := {dsimp := false}) only [↓Zt, vz, vn, nq, Zp, Zh, Zd, Zb, Zg, Za, Zi, Ze, Zj, Zf, if_true, if_false, implies_true, forall_const, ne_eq, reduceIte, reduceCtorEq, Nat.reduceEqDiff, Nat.reduceAdd, Nat.reduceMul, Nat.reduceDiv, Nat.reduceLT, Nat.reduceSub, Nat.reduceLeDiff, Nat.reduceBNe, Nat.reduceBEq, Nat.reduceBeqDiff, List.range, List.range.loop, Zu, Tryd.ntmps117, Tryd.results117, Za9, vb, PF.toR, Zl, hf, hc, e1, eq_self, decide_true, show decide (((2 : Nat) : Int) = 0) = false from rfl, show decide (((4 : Nat) : Int) = 0) = false from rfl, show decide (((8 : Nat) : Int) = 0) = false from rfl, show decide (((2 : Nat) : Int) = 2) = true from rfl, show decide (((4 : Nat) : Int) = 2) = false from rfl, show decide (((8 : Nat) : Int) = 2) = false from rfl, show decide (((4 : Nat) : Int) = 4) = true from rfl, show decide (((8 : Nat) : Int) = 4) = false from rfl, ZbQ, Zbx, Zd3, Zd9, ZeP, Zc2, ZiE, ZiF]
   all_goals refine ⟨.inl ⟨rfl, rfl⟩, by omega, hn, by omega, ?_⟩
   ·refine ZbL (Fin (2 + 1)) (fun k => [(35, .int .i64 (k.1 : Nat)), (34, .int .i64 ((2 : Nat) : Int)), (5, .sli (.tok 16) .u8 (b ++ 253 :: leI k.1 n)), (1, .int .u64 n)]) (fun k => ⟨[], [(16, (b.length + 1 + k.1, 1))], 84⟩) (fun k => 2 - k.1) 0 (fun _ => rfl) ?_ ?_
    ·exact ⟨⟨Zc rfl, rfl, Zc rfl, rfl, Zc rfl, rfl, Zc rfl, rfl, trivial⟩, trivial, ⟨rfl, Nat.le_of_ble_eq_true rfl, trivial⟩⟩
    rintro ⟨k, hk⟩
    simp (config := {dsimp := false}) only [↓Zt, vz, vn, nq, Zp, Zh, Zd, Zb, Zg, Za, Zi, Ze, Zj, Zf, if_true, if_false, implies_true, forall_const, ne_eq, reduceIte, reduceCtorEq, Nat.reduceEqDiff, Nat.reduceAdd, Nat.reduceMul, Nat.reduceDiv, Nat.reduceLT, Nat.reduceSub, Nat.reduceLeDiff, Nat.reduceBNe, Nat.reduceBEq, Nat.reduceBeqDiff, List.range, List.range.loop, Zu, Tryd.ntmps117, Tryd.results117]
    refine ⟨fun h => ?_, fun h => ?_⟩
    ·have h := of_decide_eq_true h
     refine ⟨by rw [IntWalk.i64_in _ (by omega)]; omega, Zab (by simp [Zr]; omega), by simp [Zr]; omega, ⟨k + 1, by omega⟩, ⟨⟨Zc ?_, rfl, Zc rfl, rfl, Zc ?_, rfl, Zc rfl, rfl, trivial⟩, trivial, ⟨?_, Nat.le_of_ble_eq_true rfl, trivial⟩⟩, by (try simp only); omega⟩
     ·exact Zap (by (try simp only); omega)
     ·exact Zaq (by rw [Zd0 hn (by omega), List.append_assoc, List.cons_append, ← le_succ])
     ·exact Zab (by simp [Zr]; omega)
    ·have h := of_decide_eq_false h
     obtain rfl : k = 2 := by omega
     simp (config := {dsimp := false}) only [↓Zt, vz, vn, nq, Zp, Zh, Zd, Zb, Zg, Za, Zi, Ze, Zj, Zf, if_true, if_false, implies_true, forall_const, ne_eq, reduceIte, reduceCtorEq, Nat.reduceEqDiff, Nat.reduceAdd, Nat.reduceMul, Nat.reduceDiv, Nat.reduceLT, Nat.reduceSub, Nat.reduceLeDiff, Nat.reduceBNe, Nat.reduceBEq, Nat.reduceBeqDiff, List.range, List.range.loop, Zu, Tryd.ntmps117, Tryd.results117, Za9, vb, hc]
     exact ⟨[], [16], [], ⟨rfl, rfl⟩, ⟨rfl, rfl⟩, ⟨by simp, by simp⟩, by simp, by simp [ZB, S.tok, Zm], by simp [ZB, S.tok, Zm, Zr]; try omega, ⟨_, rfl, rfl⟩, ⟨_, rfl, rfl⟩, id rfl⟩
   ·refine ZbL (Fin (4 + 1)) (fun k => [(35, .int .i64 (k.1 : Nat)), (34, .int .i64 ((4 : Nat) : Int)), (5, .sli (.tok 16) .u8 (b ++ 254 :: leI k.1 n)), (1, .int .u64 n)]) (fun k => ⟨[], [(16, (b.length + 1 + k.1, 1))], 92⟩) (fun k => 4 - k.1) 0 (fun _ => rfl) ?_ ?_
    ·exact ⟨⟨Zc rfl, rfl, Zc rfl, rfl, Zc rfl, rfl, Zc rfl, rfl, trivial⟩, trivial, ⟨rfl, Nat.le_of_ble_eq_true rfl, trivial⟩⟩
    rintro ⟨k, hk⟩
    simp (config := {dsimp := false}) only [↓Zt, vz, vn, nq, Zp, Zh, Zd, Zb, Zg, Za, Zi, Ze, Zj, Zf, if_true, if_false, implies_true, forall_const, ne_eq, reduceIte, reduceCtorEq, Nat.reduceEqDiff, Nat.reduceAdd, Nat.reduceMul, Nat.reduceDiv, Nat.reduceLT, Nat.reduceSub, Nat.reduceLeDiff, Nat.reduceBNe, Nat.reduceBEq, Nat.reduceBeqDiff, List.range, List.range.loop, Zu, Tryd.ntmps117, Tryd.results117]
    refine ⟨fun h => ?_, fun h => ?_⟩
    ·have h := of_decide_eq_true h
     refine ⟨by rw [IntWalk.i64_in _ (by omega)]; omega, Zab (by simp [Zr]; omega), by simp [Zr]; omega, ⟨k + 1, by omega⟩, ⟨⟨Zc ?_, rfl, Zc rfl, rfl, Zc ?_, rfl, Zc rfl, rfl, trivial⟩, trivial, ⟨?_, Nat.le_of_ble_eq_true rfl, trivial⟩⟩, by (try simp only); omega⟩
     ·exact Zap (by (try simp only); omega)
     ·exact Zaq (by rw [Zd0 hn (by omega), List.append_assoc, List.cons_append, ← le_succ])
     ·exact Zab (by simp [Zr]; omega)
    ·have h := of_decide_eq_false h
     obtain rfl : k = 4 := by omega
     simp (config := {dsimp := false}) only [↓Zt, vz, vn, nq, Zp, Zh, Zd, Zb, Zg, Za, Zi, Ze, Zj, Zf, if_true, if_false, implies_true, forall_const, ne_eq, reduceIte, reduceCtorEq, Nat.reduceEqDiff, Nat.reduceAdd, Nat.reduceMul, Nat.reduceDiv, Nat.reduceLT, Nat.reduceSub, Nat.reduceLeDiff, Nat.reduceBNe, Nat.reduceBEq, Nat.reduceBeqDiff, List.range, List.range.loop, Zu, Tryd.ntmps117, Tryd.results117, Za9, vb, hc]
     exact ⟨[], [16], [], ⟨rfl, rfl⟩, ⟨rfl, rfl⟩, ⟨by simp, by simp⟩, by simp, by simp [ZB, S.tok, Zm], by simp [ZB, S.tok, Zm, Zr]; try omega, ⟨_, rfl, rfl⟩, ⟨_, rfl, rfl⟩, id rfl⟩
   ·refine ZbL (Fin (8 + 1)) (fun k => [(35, .int .i64 (k.1 : Nat)), (34, .int .i64 ((8 : Nat) : Int)), (5, .sli (.tok 16) .u8 (b ++ 255 :: leI k.1 n)), (1, .int .u64 n)]) (fun k => ⟨[], [(16, (b.length + 1 + k.1, 1))], 92⟩) (fun k => 8 - k.1) 0 (fun _ => rfl) ?_ ?_
    ·exact ⟨⟨Zc rfl, rfl, Zc rfl, rfl, Zc rfl, rfl, Zc rfl, rfl, trivial⟩, trivial, ⟨rfl, Nat.le_of_ble_eq_true rfl, trivial⟩⟩
    rintro ⟨k, hk⟩
    simp (config := {dsimp := false}) only [↓Zt, vz, vn, nq, Zp, Zh, Zd, Zb, Zg, Za, Zi, Ze, Zj, Zf, if_true, if_false, implies_true, forall_const, ne_eq, reduceIte, reduceCtorEq, Nat.reduceEqDiff, Nat.reduceAdd, Nat.reduceMul, Nat.reduceDiv, Nat.reduceLT, Nat.reduceSub, Nat.reduceLeDiff, Nat.reduceBNe, Nat.reduceBEq, Nat.reduceBeqDiff, List.range, List.range.loop, Zu, Tryd.ntmps117, Tryd.results117]
    refine ⟨fun h => ?_, fun h => ?_⟩
    ·have h := of_decide_eq_true h
     refine ⟨by rw [IntWalk.i64_in _ (by omega)]; omega, Zab (by simp [Zr]; omega), by simp [Zr]; omega, ⟨k + 1, by omega⟩, ⟨⟨Zc ?_, rfl, Zc rfl, rfl, Zc ?_, rfl, Zc rfl, rfl, trivial⟩, trivial, ⟨?_, Nat.le_of_ble_eq_true rfl, trivial⟩⟩, by (try simp only); omega⟩
     ·exact Zap (by (try simp only); omega)
     ·exact Zaq (by rw [Zd0 hn (by omega), List.append_assoc, List.cons_append, ← le_succ])
     ·exact Zab (by simp [Zr]; omega)
    ·have h := of_decide_eq_false h
     obtain rfl : k = 8 := by omega
     simp (config := {dsimp := false}) only [↓Zt, vz, vn, nq, Zp, Zh, Zd, Zb, Zg, Za, Zi, Ze, Zj, Zf, if_true, if_false, implies_true, forall_const, ne_eq, reduceIte, reduceCtorEq, Nat.reduceEqDiff, Nat.reduceAdd, Nat.reduceMul, Nat.reduceDiv, Nat.reduceLT, Nat.reduceSub, Nat.reduceLeDiff, Nat.reduceBNe, Nat.reduceBEq, Nat.reduceBeqDiff, List.range, List.range.loop, Zu, Tryd.ntmps117, Tryd.results117, Za9, vb, hc]
     exact ⟨[], [16], [], ⟨rfl, rfl⟩, ⟨rfl, rfl⟩, ⟨by simp, by simp⟩, by simp, by simp [ZB, S.tok, Zm], by simp [ZB, S.tok, Zm, Zr]; try omega, ⟨_, rfl, rfl⟩, ⟨_, rfl, rfl⟩, id rfl⟩
 ·have hf := Zxg (.tok 0) hne
  rcases ZoG hn.1 with ⟨hc, h253⟩ | ⟨h253, m, w, hc, hm⟩
  ·have e1 : decide (IntKind.wrap .i64 (((1 : Nat) : Int) - 1) = 0) = true := rfl
   have e2 : IntKind.wrap .u8 n = n := IntWalk.u8_in n ⟨hn.1, by omega⟩
   simp (config := {dsimp := false}) only [↓Zt, vz, vn, nq, Zp, Zh, Zd, Zb, Zg, Za, Zi, Ze, Zj, Zf, if_true, if_false, implies_true, forall_const, ne_eq, reduceIte, reduceCtorEq, Nat.reduceEqDiff, Nat.reduceAdd, Nat.reduceMul, Nat.reduceDiv, Nat.reduceLT, Nat.reduceSub, Nat.reduceLeDiff, Nat.reduceBNe, Nat.reduceBEq, Nat.reduceBeqDiff, List.range, List.range.loop, Zu, Tryd.ntmps117, Tryd.results117, Za9, vb, PF.toR, Zl, hf, hc, e1, e2, eq_self, decide_true, ZbQ, Zbx, Zd3, Zd9, ZeP, Zc2, ZiE, ZiF]
   exact ⟨.inr ⟨rfl, rfl, hne⟩, by omega, hn, by omega, [], [16], [], ⟨rfl, rfl⟩, ⟨rfl, rfl⟩, ⟨by simp, by simp⟩, by simp, by simp [ZB, S.tok, Zm], by simp [ZB, S.tok, Zm], ⟨_, rfl, rfl⟩, ⟨_, rfl, rfl⟩, id rfl⟩
  ·have e1 : IntKind.wrap .i64 ((((leI w n).length + 1 : Nat) : Int) - 1) = (w : Int) := by rw [Zr, IntWalk.i64_in _ (by omega)]; omega
   rcases hm with ⟨rfl, rfl⟩ | ⟨rfl, rfl⟩ | ⟨rfl, rfl⟩
   all_goals simp (config := {dsimp := false}) only [↓Zt, vz, vn, nq, Zp, Zh, Zd, Zb, Zg, Za, Zi, Ze, Zj, Zf, if_true, if_false, implies_true, forall_const, ne_eq, reduceIte, reduceCtorEq, Nat.reduceEqDiff, Nat.reduceAdd, Nat.reduceMul, Nat.reduceDiv, Nat.reduceLT, Nat.reduceSub, Nat.reduceLeDiff, Nat.reduceBNe, Nat.reduceBEq, Nat.reduceBeqDiff, List.range, List.range.loop, Zu, Tryd.ntmps117, Tryd.results117, Za9, vb, PF.toR, Zl, hf, hc, e1, eq_self, decide_true, show decide (((2 : Nat) : Int) = 0) = false from rfl, show decide (((4 : Nat) : Int) = 0) = false from rfl, show decide (((8 : Nat) : Int) = 0) = false from rfl, show decide (((2 : Nat) : Int) = 2) = true from rfl, show decide (((4 : Nat) : Int) = 2) = false from rfl, show decide (((8 : Nat) : Int) = 2) = false from rfl, show decide (((4 : Nat) : Int) = 4) = true from rfl, show decide (((8 : Nat) : Int) = 4) = false from rfl, ZbQ, Zbx, Zd3, Zd9, ZeP, Zc2, ZiE, ZiF]
   all_goals refine ⟨.inr ⟨rfl, rfl, hne⟩, by omega, hn, by omega, ?_⟩
   ·refine ZbL (Fin (2 + 1)) (fun k => [(35, .int .i64 (k.1 : Nat)), (34, .int .i64 ((2 : Nat) : Int)), (5, .sli (.tok 16) .u8 (b ++ 253 :: leI k.1 n)), (1, .int .u64 n)]) (fun k => ⟨[], [(0, (b.length, 1)), (16, (b.length + 1 + k.1, 1))], 84⟩) (fun k => 2 - k.1) 0 (fun _ => rfl) ?_ ?_
    ·exact ⟨⟨Zc rfl, rfl, Zc rfl, rfl, Zc rfl, rfl, Zc rfl, rfl, trivial⟩, trivial, ⟨rfl, Nat.le_of_ble_eq_true rfl, rfl, Nat.le_of_ble_eq_true rfl, trivial⟩⟩
    rintro ⟨k, hk⟩
    simp (config := {dsimp := false}) only [↓Zt, vz, vn, nq, Zp, Zh, Zd, Zb, Zg, Za, Zi, Ze, Zj, Zf, if_true, if_false, implies_true, forall_const, ne_eq, reduceIte, reduceCtorEq, Nat.reduceEqDiff, Nat.reduceAdd, Nat.reduceMul, Nat.reduceDiv, Nat.reduceLT, Nat.reduceSub, Nat.reduceLeDiff, Nat.reduceBNe, Nat.reduceBEq, Nat.reduceBeqDiff, List.range, List.range.loop, Zu, Tryd.ntmps117, Tryd.results117]
    refine ⟨fun h => ?_, fun h => ?_⟩
    ·have h := of_decide_eq_true h
     refine ⟨by rw [IntWalk.i64_in _ (by omega)]; omega, Zab (by simp [Zr]; omega), by simp [Zr]; omega, ⟨k + 1, by omega⟩, ⟨⟨Zc ?_, rfl, Zc rfl, rfl, Zc ?_, rfl, Zc rfl, rfl, trivial⟩, trivial, ⟨rfl, Nat.le_of_ble_eq_true rfl, ?_, Nat.le_of_ble_eq_true rfl, trivial⟩⟩, by (try simp only); omega⟩
     ·exact Zap (by (try simp only); omega)
     ·exact Zaq (by rw [Zd0 hn (by omega), List.append_assoc, List.cons_append, ← le_succ])
     ·exact Zab (by simp [Zr]; omega)
    ·have h := of_decide_eq_false h
     obtain rfl : k = 2 := by omega
     simp (config := {dsimp := false}) only [↓Zt, vz, vn, nq, Zp, Zh, Zd, Zb, Zg, Za, Zi, Ze, Zj, Zf, if_true, if_false, implies_true, forall_const, ne_eq, reduceIte, reduceCtorEq, Nat.reduceEqDiff, Nat.reduceAdd, Nat.reduceMul, Nat.reduceDiv, Nat.reduceLT, Nat.reduceSub, Nat.reduceLeDiff, Nat.reduceBNe, Nat.reduceBEq, Nat.reduceBeqDiff, List.range, List.range.loop, Zu, Tryd.ntmps117, Tryd.results117, Za9, vb, hc]
     exact ⟨[], [16], [], ⟨rfl, rfl⟩, ⟨rfl, rfl⟩, ⟨by simp, by simp⟩, by simp, by simp [ZB, S.tok, Zm], by simp [ZB, S.tok, Zm, Zr]; try omega, ⟨_, rfl, rfl⟩, ⟨_, rfl, rfl⟩, id rfl⟩
   ·refine ZbL (Fin (4 + 1)) (fun k => [(35, .int .i64 (k.1 : Nat)), (34, .int .i64 ((4 : Nat) : Int)), (5, .sli (.tok 16) .u8 (b ++ 254 :: leI k.1 n)), (1, .int .u64 n)]) (fun k => ⟨[], [(0, (b.length, 1)), (16, (b.length + 1 + k.1, 1))], 92⟩) (fun k => 4 - k.1) 0 (fun _ => rfl) ?_ ?_
    ·exact ⟨⟨Zc rfl, rfl, Zc rfl, rfl, Zc rfl, rfl, Zc rfl, rfl, trivial⟩, trivial, ⟨rfl, Nat.le_of_ble_eq_true rfl, rfl, Nat.le_of_ble_eq_true rfl, trivial⟩⟩
    rintro ⟨k, hk⟩
    simp (config := {dsimp := false}) only [↓Zt, vz, vn, nq, Zp, Zh, Zd, Zb, Zg, Za, Zi, Ze, Zj, Zf, if_true, if_false, implies_true, forall_const, ne_eq, reduceIte, reduceCtorEq, Nat.reduceEqDiff, Nat.reduceAdd, Nat.reduceMul, Nat.reduceDiv, Nat.reduceLT, Nat.reduceSub, Nat.reduceLeDiff, Nat.reduceBNe, Nat.reduceBEq, Nat.reduceBeqDiff, List.range, List.range.loop, Zu, Tryd.ntmps117, Tryd.results117]
    refine ⟨fun h => ?_, fun h => ?_⟩
    ·have h := of_decide_eq_true h
     refine ⟨by rw [IntWalk.i64_in _ (by omega)]; omega, Zab (by simp [Zr]; omega), by simp [Zr]; omega, ⟨k + 1, by omega⟩, ⟨⟨Zc ?_, rfl, Zc rfl, rfl, Zc ?_, rfl, Zc rfl, rfl, trivial⟩, trivial, ⟨rfl, Nat.le_of_ble_eq_true rfl, ?_, Nat.le_of_ble_eq_true rfl, trivial⟩⟩, by (try simp only); omega⟩
     ·exact Zap (by (try simp only); omega)
     ·exact Zaq (by rw [Zd0 hn (by omega), List.append_assoc, List.cons_append, ← le_succ])
     ·exact Zab (by simp [Zr]; omega)
    ·have h := of_decide_eq_false h
     obtain rfl : k = 4 := by omega
     simp (config := {dsimp := false}) only [↓Zt, vz, vn, nq, Zp, Zh, Zd, Zb, Zg, Za, Zi, Ze, Zj, Zf, if_true, if_false, implies_true, forall_const, ne_eq, reduceIte, reduceCtorEq, Nat.reduceEqDiff, Nat.reduceAdd, Nat.reduceMul, Nat.reduceDiv, Nat.reduceLT, Nat.reduceSub, Nat.reduceLeDiff, Nat.reduceBNe, Nat.reduceBEq, Nat.reduceBeqDiff, List.range, List.range.loop, Zu, Tryd.ntmps117, Tryd.results117, Za9, vb, hc]
     exact ⟨[], [16], [], ⟨rfl, rfl⟩, ⟨rfl, rfl⟩, ⟨by simp, by simp⟩, by simp, by simp [ZB, S.tok, Zm], by simp [ZB, S.tok, Zm, Zr]; try omega, ⟨_, rfl, rfl⟩, ⟨_, rfl, rfl⟩, id rfl⟩
   ·refine ZbL (Fin (8 + 1)) (fun k => [(35, .int .i64 (k.1 : Nat)), (34, .int .i64 ((8 : Nat) : Int)), (5, .sli (.tok 16) .u8 (b ++ 255 :: leI k.1 n)), (1, .int .u64 n)]) (fun k => ⟨[], [(0, (b.length, 1)), (16, (b.length + 1 + k.1, 1))], 92⟩) (fun k => 8 - k.1) 0 (fun _ => rfl) ?_ ?_
    ·exact ⟨⟨Zc rfl, rfl, Zc rfl, rfl, Zc rfl, rfl, Zc rfl, rfl, trivial⟩, trivial, ⟨rfl, Nat.le_of_ble_eq_true rfl, rfl, Nat.le_of_ble_eq_true rfl, trivial⟩⟩
    rintro ⟨k, hk⟩
    simp (config := {dsimp := false}) only [↓Zt, vz, vn, nq, Zp, Zh, Zd, Zb, Zg, Za, Zi, Ze, Zj, Zf, if_true, if_false, implies_true, forall_const, ne_eq, reduceIte, reduceCtorEq, Nat.reduceEqDiff, Nat.reduceAdd, Nat.reduceMul, Nat.reduceDiv, Nat.reduceLT, Nat.reduceSub, Nat.reduceLeDiff, Nat.reduceBNe, Nat.reduceBEq, Nat.reduceBeqDiff, List.range, List.range.loop, Zu, Tryd.ntmps117, Tryd.results117]
    refine ⟨fun h => ?_, fun h => ?_⟩
    ·have h := of_decide_eq_true h
     refine ⟨by rw [IntWalk.i64_in _ (by omega)]; omega, Zab (by simp [Zr]; omega), by simp [Zr]; omega, ⟨k + 1, by omega⟩, ⟨⟨Zc ?_, rfl, Zc rfl, rfl, Zc ?_, rfl, Zc rfl, rfl, trivial⟩, trivial, ⟨rfl, Nat.le_of_ble_eq_true rfl, ?_, Nat.le_of_ble_eq_true rfl, trivial⟩⟩, by (try simp only); omega⟩
     ·exact Zap (by (try simp only); omega)
     ·exact Zaq (by rw [Zd0 hn (by omega), List.append_assoc, List.cons_append, ← le_succ])
     ·exact Zab (by simp [Zr]; omega)
    ·have h := of_decide_eq_false h
     obtain rfl : k = 8 := by omega
     simp (config := {dsimp := false}) only [↓Zt, vz, vn, nq, Zp, Zh, Zd, Zb, Zg, Za, Zi, Ze, Zj, Zf, if_true, if_false, implies_true, forall_const, ne_eq, reduceIte, reduceCtorEq, Nat.reduceEqDiff, Nat.reduceAdd, Nat.reduceMul, Nat.reduceDiv, Nat.reduceLT, Nat.reduceSub, Nat.reduceLeDiff, Nat.reduceBNe, Nat.reduceBEq, Nat.reduceBeqDiff, List.range, List.range.loop, Zu, Tryd.ntmps117, Tryd.results117, Za9, vb, hc]
     exact ⟨[], [16], [], ⟨rfl, rfl⟩, ⟨rfl, rfl⟩, ⟨by simp, by simp⟩, by simp, by simp [ZB, S.tok, Zm], by simp [ZB, S.tok, Zm, Zr]; try omega, ⟨_, rfl, rfl⟩, ⟨_, rfl, rfl⟩, id rfl⟩
end Go.Vi.CO
end

section
namespace Go.Vi.CO
open Go.Proofs
theorem Zyb {p : List Int} (h : p.length = 32) : List.take (((32 : Nat) : Int) - 0).toNat (List.drop (Int.toNat 0) p) = p := by
 rw [show Int.toNat 0 = 0 from rfl, List.drop_zero]
 exact List.take_of_length_le (by rw [h]; decide)
theorem Zh0 : Zw E 108 := by
 refine Zbz hE hgl (show E.P.funcs[108]? = some Tryd.f108 from Tryd.func108) rfl (p := Zcg) (fun _ _ _ => rfl) ?_
 intro args ds tv hv hdl htl
 unfold Zcg at hv ⊢
 split at hv
 case h_2 => exact hv.elim
 rename_i b s n
 refine ⟨by simp, Nat.le_of_ble_eq_true rfl, ?_⟩
 obtain ⟨rfl, hne, hb, hs⟩ := hv
 have e1 : IntKind.wrap .u64 (s.length : Int) = (s.length : Int) := IntWalk.u64_in _ (by omega)
 have hc := Zcr (s.length : Int)
 simp (config := {dsimp := false}) only [↓Zt, vz, vn, nq, Zp, Zh, Zd, Zb, Zg, Za, Zi, Ze, Zj, Zf, if_true, if_false, implies_true, forall_const, ne_eq, reduceIte, reduceCtorEq, Nat.reduceEqDiff, Nat.reduceAdd, Nat.reduceMul, Nat.reduceDiv, Nat.reduceLT, Nat.reduceSub, Nat.reduceLeDiff, Nat.reduceBNe, Nat.reduceBEq, Nat.reduceBeqDiff, List.range, List.range.loop, Zu, Tryd.ntmps108, Tryd.results108, ZgE, vb, e1, ZfY, Zd7, ZmE, Zmx]
 refine ⟨.inr ⟨rfl, rfl, hne⟩, ⟨by omega, by omega⟩, by omega, Zab (by simp), by simp; omega, ?_⟩
 refine ⟨0, 28, 4, _, _, ⟨rfl, ⟨by decide, by decide⟩, rfl, ⟨_, _, rfl, ?_⟩, rfl, [], [], [], ⟨rfl, rfl⟩, ⟨rfl, rfl⟩, ⟨by simp, by simp⟩, by simp, ?_, rfl, ⟨_, rfl, rfl⟩, ⟨_, rfl, rfl⟩, ?_⟩⟩
 ·simp only [List.length_append]; omega
 ·simp [ZB, S.tok, Zm, reT, Zbb]; omega
 ·rfl
theorem ZvF : Zw E 104 := by
 refine Zbz hE hgl (show E.P.funcs[104]? = some Tryd.f104 from Tryd.func104) rfl (p := Zfs) (fun _ _ _ => rfl) ?_
 intro args ds tv hv hdl htl
 unfold Zfs at hv ⊢
 split at hv
 case h_2 => exact hv.elim
 rename_i b p i s q w n
 refine ⟨by simp, Nat.le_of_ble_eq_true rfl, ?_⟩
 obtain ⟨rfl, hne, ⟨hp, hi, hq⟩, hb, hs⟩ := hv
 have u1 : IntKind.wrap .u64 i = i := IntWalk.u64_in _ (by have := hi.1; have := hi.2; omega)
 have u2 : IntKind.wrap .u64 q = q := IntWalk.u64_in _ (by have := hq.1; have := hq.2; omega)
 have tp := Zyb hp
 have ht := Zfk s
 simp (config := {dsimp := false}) only [↓Zt, vz, vn, nq, Zp, Zh, Zd, Zb, Zg, Za, Zi, Ze, Zj, Zf, if_true, if_false, implies_true, forall_const, ne_eq, reduceIte, reduceCtorEq, Nat.reduceEqDiff, Nat.reduceAdd, Nat.reduceMul, Nat.reduceDiv, Nat.reduceLT, Nat.reduceSub, Nat.reduceLeDiff, Nat.reduceBNe, Nat.reduceBEq, Nat.reduceBeqDiff, List.range, List.range.loop, Zu, Tryd.ntmps104, Tryd.results104, ZgE, vb]
 refine ZjS [0, 3] [(4, [5, 6, 7, 8])] [(4, [0])] (by kernel_rfl) (Zdw rfl) ?_
 simp (config := {dsimp := false}) only [↓Zt, vz, vn, nq, Zp, Zh, Zd, Zb, Zg, Za, Zi, Ze, Zj, Zf, if_true, if_false, implies_true, forall_const, ne_eq, reduceIte, reduceCtorEq, Nat.reduceEqDiff, Nat.reduceAdd, Nat.reduceMul, Nat.reduceDiv, Nat.reduceLT, Nat.reduceSub, Nat.reduceLeDiff, Nat.reduceBNe, Nat.reduceBEq, Nat.reduceBeqDiff, List.range, List.range.loop, Zu, Tryd.ntmps104, Tryd.results104, ZgE, vb, ↓vy0, vx0, u1, tp, hp, ZdH, ZdK, ZiQ, ZjX]
 refine ⟨by decide, by decide, by decide, by omega, ZaY (by kernel_rfl) rfl, .inr ⟨rfl, by simp [hp], by simp [hp]⟩, .inl trivial, hi.1, hi.2, by simp [hp]; omega, ZcO rfl (by kernel_rfl), ?_⟩
 refine ZjS [0, 3] [(3, [4, 5, 6])] [(3, [52])] (by kernel_rfl) (Zdw rfl) ?_
 simp (config := {dsimp := false}) only [↓Zt, vz, vn, nq, Zp, Zh, Zd, Zb, Zg, Za, Zi, Ze, Zj, Zf, if_true, if_false, implies_true, forall_const, ne_eq, reduceIte, reduceCtorEq, Nat.reduceEqDiff, Nat.reduceAdd, Nat.reduceMul, Nat.reduceDiv, Nat.reduceLT, Nat.reduceSub, Nat.reduceLeDiff, Nat.reduceBNe, Nat.reduceBEq, Nat.reduceBeqDiff, List.range, List.range.loop, Zu, Tryd.ntmps104, Tryd.results104, ZgE, vb, ↓vy0, vx0, u2, ZdH, ZdK, ZiQ, ZjX, ZeZ, Zcg, Zh0, Zhx]
 have l4 : ∀ x : Int, (leI (Int.toNat 4) x).length = 4 := fun x => Zr _ _
 have t4 : Int.toNat 4 = 4 := rfl
 refine ⟨by simp [Zr] <;> omega, by simp [Zr] <;> omega, by simp [Zr, hp] <;> omega, by omega, ZaY (by kernel_rfl) rfl, .inr ⟨rfl, by simp [Zr] <;> omega, by simp [Zr] <;> omega⟩, .inl trivial, hq.1, hq.2, by simp [Zr, hp] <;> omega, ZcO rfl (by kernel_rfl), ?_⟩
 refine ⟨0, 88, 4, _, _, ⟨rfl, ⟨by decide, by decide⟩, rfl, ⟨_, _, rfl, ?_⟩, rfl, [], [], [], ⟨rfl, rfl⟩, ⟨rfl, rfl⟩, ⟨by simp, by simp⟩, by simp, ?_, rfl, ⟨_, rfl, rfl⟩, ⟨_, rfl, rfl⟩, ?_⟩⟩
 ·simp [hp, Zr] <;> omega
 ·simp [ZB, S.tok, Zm, reT, inI, hp, Zr] <;> omega
 ·simp only [inI, List.append_assoc]; rfl
theorem Zvj : Zw E 106 := by
 refine Zbz hE hgl (show E.P.funcs[106]? = some Tryd.f106 from Tryd.func106) rfl (p := Zem) (fun _ _ _ => rfl) ?_
 intro args ds tv hv hdl htl
 unfold Zem at hv ⊢
 split at hv
 case h_2 => exact hv.elim
 rename_i b v s n
 refine ⟨by simp, Nat.le_of_ble_eq_true rfl, ?_⟩
 obtain ⟨rfl, hne, hv1, hb, hs⟩ := hv
 have u1 : IntKind.wrap .u64 v = v % 18446744073709551616 := rfl
 have ht := Zfk s
 have m1 := Int.emod_nonneg v (show (18446744073709551616 : Int) ≠ 0 by decide)
 have m2 := Int.emod_lt_of_pos v (show (0 : Int) < 18446744073709551616 by decide)
 simp (config := {dsimp := false}) only [↓Zt, vz, vn, nq, Zp, Zh, Zd, Zb, Zg, Za, Zi, Ze, Zj, Zf, if_true, if_false, implies_true, forall_const, ne_eq, reduceIte, reduceCtorEq, Nat.reduceEqDiff, Nat.reduceAdd, Nat.reduceMul, Nat.reduceDiv, Nat.reduceLT, Nat.reduceSub, Nat.reduceLeDiff, Nat.reduceBNe, Nat.reduceBEq, Nat.reduceBeqDiff, List.range, List.range.loop, Zu, Tryd.ntmps106, Tryd.results106, ZgE, vb]
 refine ZjS [0, 3] [(4, [5, 6])] [(4, [0])] (by kernel_rfl) (Zdw rfl) ?_
 simp (config := {dsimp := false}) only [↓Zt, vz, vn, nq, Zp, Zh, Zd, Zb, Zg, Za, Zi, Ze, Zj, Zf, if_true, if_false, implies_true, forall_const, ne_eq, reduceIte, reduceCtorEq, Nat.reduceEqDiff, Nat.reduceAdd, Nat.reduceMul, Nat.reduceDiv, Nat.reduceLT, Nat.reduceSub, Nat.reduceLeDiff, Nat.reduceBNe, Nat.reduceBEq, Nat.reduceBeqDiff, List.range, List.range.loop, Zu, Tryd.ntmps106, Tryd.results106, ZgE, vb, ↓vy0, vx0, u1, ZdH, ZdK, ZiQ, ZjX, ZeZ, Zcg, Zh0, Zhx]
 refine ⟨.inr ⟨rfl, rfl, hne⟩, .inr trivial, m1, m2, by omega, ZaY (by kernel_rfl) rfl, by simp [Zr], by simp [Zr] <;> omega, by simp [Zr] <;> omega, by omega, ZcO rfl (by kernel_rfl), ?_⟩
 refine ⟨0, 32, 4, _, _, ⟨rfl, ⟨by decide, by decide⟩, rfl, ⟨_, _, rfl, ?_⟩, rfl, [], [], [], ⟨rfl, rfl⟩, ⟨rfl, rfl⟩, ⟨by simp, by simp⟩, by simp, ?_, rfl, ⟨_, rfl, rfl⟩, ⟨_, rfl, rfl⟩, ?_⟩⟩
 ·simp [Zr] <;> omega
 ·simp [ZB, S.tok, Zm, reT, Zfc, Zr] <;> omega
 ·simp only [Zfc, List.append_assoc]; rfl
end Go.Vi.CO
end

section
namespace Go.Vi.CO
open Go.Proofs
theorem Zes {α : Type} [Inhabited α] (f : α → List Int) (l : List α) (k : Nat) (h : k < l.length) : (l.take (k + 1)).flatMap f = (l.take k).flatMap f ++ f (l.getD k default) := by
 rw [List.take_add_one, List.flatMap_append]
 simp [List.getD, h]
theorem ZiN {α : Type} [Inhabited α] (f : α → List Int) (l : List α) (k : Nat) (h : k < l.length) : ((l.take k).flatMap f).length + (f (l.getD k default)).length ≤ (l.flatMap f).length := by
 have e : l.flatMap f = (l.take (k + 1)).flatMap f ++ (l.drop (k + 1)).flatMap f := by rw [← List.flatMap_append, List.take_append_drop]
 rw [e, Zes f l k h]
 simp only [List.length_append]
 omega
theorem ZqF : Zw E 103 := by
 refine Zbz hE hgl (show E.P.funcs[103]? = some Tryd.f103 from Tryd.func103) rfl (p := (ZeC 104)) (fun _ _ _ => rfl) ?_
 intro args ds tv hv hdl htl
 unfold ZeC at hv ⊢
 split at hv
 case h_2 => exact hv.elim
 rename_i b es h n
 refine ⟨by simp, Nat.le_of_ble_eq_true rfl, ?_⟩
 obtain ⟨rfl, rfl, hne, ⟨l, rfl, hok, hl⟩, hlen⟩ := hv
 simp only [Zja] at hlen ⊢
 have e1 : IntKind.wrap .u64 (l.length : Int) = (l.length : Int) := IntWalk.u64_in _ (by omega)
 have hc := Zcr (l.length : Int)
 simp only [List.length_append] at hlen
 simp (config := {dsimp := false}) only [↓Zt, vz, vn, nq, Zp, Zh, Zd, Zb, Zg, Za, Zi, Ze, Zj, Zf, if_true, if_false, implies_true, forall_const, ne_eq, reduceIte, reduceCtorEq, Nat.reduceEqDiff, Nat.reduceAdd, Nat.reduceMul, Nat.reduceDiv, Nat.reduceLT, Nat.reduceSub, Nat.reduceLeDiff, Nat.reduceBNe, Nat.reduceBEq, Nat.reduceBeqDiff, List.range, List.range.loop, Zu, Tryd.ntmps103, Tryd.results103, ZgE, vb, e1, ZfY, Zd7, ZmE, Zmx]
 refine ⟨.inr ⟨rfl, rfl, hne⟩, ⟨by omega, by omega⟩, by omega, ?_⟩
 refine ZbL (Fin (l.length + 1)) (fun k => [(16, .int .i64 (k.1 : Nat)), (15, .int .i64 (l.length : Nat)), (14, .sl .no 36 (Zct l)), (0, .sli (.tok 28) .u8 (b ++ (Zaf l.length ++ (l.take k.1).flatMap inI))), (2, .fn 104 [])]) (fun k => ⟨[], [(0, (b.length, 1)), (28, ((b ++ (Zaf l.length ++ (l.take k.1).flatMap inI)).length, 1))], 48⟩) (fun k => l.length - k.1) 0 (fun _ => rfl) ?_ ?_
 ·refine ⟨⟨Zc rfl, rfl, Zc rfl, rfl, Zc rfl, rfl, Zc ?_, rfl, Zc rfl, rfl, trivial⟩, trivial, ⟨rfl, Nat.le_of_ble_eq_true rfl, ?_, Nat.le_of_ble_eq_true rfl, trivial⟩⟩
  ·exact Zaq (by simp)
  ·exact Zab (by simp)
 rintro ⟨k, hk⟩
 simp (config := {dsimp := false}) only [↓Zt, vz, vn, nq, Zp, Zh, Zd, Zb, Zg, Za, Zi, Ze, Zj, Zf, if_true, if_false, implies_true, forall_const, ne_eq, reduceIte, reduceCtorEq, Nat.reduceEqDiff, Nat.reduceAdd, Nat.reduceMul, Nat.reduceDiv, Nat.reduceLT, Nat.reduceSub, Nat.reduceLeDiff, Nat.reduceBNe, Nat.reduceBEq, Nat.reduceBeqDiff, List.range, List.range.loop, Zu, Tryd.ntmps103, Tryd.results103]
 refine ⟨fun h => ?_, fun h => ?_⟩
 ·have h := of_decide_eq_true h
  have hk' : k < l.length := by omega
  have g1 := Zfh l k hk'
  have hx := hok _ (ZaI hk')
  have hfl := ZiN inI l k hk'
  have hsn := Zes inI l k hk'
  have hs : (l.getD k default).script.length ≤ (inI (l.getD k default)).length := by simp only [inI, Zbb, List.length_append]; omega
  simp (config := {dsimp := false}) only [↓Zt, vz, vn, nq, Zp, Zh, Zd, Zb, Zg, Za, Zi, Ze, Zj, Zf, if_true, if_false, implies_true, forall_const, ne_eq, reduceIte, reduceCtorEq, Nat.reduceEqDiff, Nat.reduceAdd, Nat.reduceMul, Nat.reduceDiv, Nat.reduceLT, Nat.reduceSub, Nat.reduceLeDiff, Nat.reduceBNe, Nat.reduceBEq, Nat.reduceBeqDiff, List.range, List.range.loop, Zu, Tryd.ntmps103, Tryd.results103, vb, Int.toNat_natCast, g1, inD, ZpW, Zfs, ZvF, ZvJ]
  refine ⟨by omega, by omega, by simp only [List.length_append]; omega, hx.prev, hx.ix, hx.seq, by simp only [List.length_append]; omega, by omega, ⟨k + 1, by omega⟩, ⟨⟨Zc ?_, rfl, Zc rfl, rfl, Zc rfl, rfl, Zc ?_, rfl, Zc rfl, rfl, trivial⟩, trivial, ⟨rfl, Nat.le_of_ble_eq_true rfl, ?_, Nat.le_of_ble_eq_true rfl, trivial⟩⟩, by (try simp only); omega⟩
  ·exact Zap (by (try simp only); omega)
  ·exact Zaq (by rw [hsn]; first | done | rfl | (simp only [List.append_assoc]; done) | (simp only [List.append_assoc]; rfl))
  ·exact Zab (by rw [hsn]; simp only [List.length_append, Nat.add_assoc]; try rfl)
 ·have h := of_decide_eq_false h
  obtain rfl : k = l.length := by omega
  simp (config := {dsimp := false}) only [↓Zt, vz, vn, nq, Zp, Zh, Zd, Zb, Zg, Za, Zi, Ze, Zj, Zf, if_true, if_false, implies_true, forall_const, ne_eq, reduceIte, reduceCtorEq, Nat.reduceEqDiff, Nat.reduceAdd, Nat.reduceMul, Nat.reduceDiv, Nat.reduceLT, Nat.reduceSub, Nat.reduceLeDiff, Nat.reduceBNe, Nat.reduceBEq, Nat.reduceBeqDiff, List.range, List.range.loop, Zu, Tryd.ntmps103, Tryd.results103, ZgE, vb, List.take_length]
  refine ⟨0, 28, 6, _, _, ⟨rfl, ⟨by decide, by decide⟩, rfl, ⟨_, _, rfl, ?_⟩, rfl, [], [], [], ⟨rfl, rfl⟩, ⟨rfl, rfl⟩, ⟨by simp, by simp⟩, by simp, by simp [ZB, S.tok, Zm, reT], rfl, ⟨_, rfl, rfl⟩, ⟨_, rfl, rfl⟩, id rfl⟩⟩
  simp only [List.length_append]; omega
theorem ZoX : Zw E 105 := by
 refine Zbz hE hgl (show E.P.funcs[105]? = some Tryd.f105 from Tryd.func105) rfl (p := (Zdx 106)) (fun _ _ _ => rfl) ?_
 intro args ds tv hv hdl htl
 unfold Zdx at hv ⊢
 split at hv
 case h_2 => exact hv.elim
 rename_i b es h n
 refine ⟨by simp, Nat.le_of_ble_eq_true rfl, ?_⟩
 obtain ⟨rfl, rfl, hne, ⟨l, rfl, hok, hl⟩, hlen⟩ := hv
 simp only [Zdh] at hlen ⊢
 have e1 : IntKind.wrap .u64 (l.length : Int) = (l.length : Int) := IntWalk.u64_in _ (by omega)
 have hc := Zcr (l.length : Int)
 simp only [List.length_append] at hlen
 simp (config := {dsimp := false}) only [↓Zt, vz, vn, nq, Zp, Zh, Zd, Zb, Zg, Za, Zi, Ze, Zj, Zf, if_true, if_false, implies_true, forall_const, ne_eq, reduceIte, reduceCtorEq, Nat.reduceEqDiff, Nat.reduceAdd, Nat.reduceMul, Nat.reduceDiv, Nat.reduceLT, Nat.reduceSub, Nat.reduceLeDiff, Nat.reduceBNe, Nat.reduceBEq, Nat.reduceBeqDiff, List.range, List.range.loop, Zu, Tryd.ntmps105, Tryd.results105, ZgE, vb, e1, ZfY, Zd7, ZmE, Zmx]
 refine ⟨.inr ⟨rfl, rfl, hne⟩, ⟨by omega, by omega⟩, by omega, ?_⟩
 refine ZbL (Fin (l.length + 1)) (fun k => [(16, .int .i64 (k.1 : Nat)), (15, .int .i64 (l.length : Nat)), (14, .sl .no 2 (Za1 l)), (0, .sli (.tok 28) .u8 (b ++ (Zaf l.length ++ (l.take k.1).flatMap Zfc))), (2, .fn 106 [])]) (fun k => ⟨[], [(0, (b.length, 1)), (28, ((b ++ (Zaf l.length ++ (l.take k.1).flatMap Zfc)).length, 1))], 48⟩) (fun k => l.length - k.1) 0 (fun _ => rfl) ?_ ?_
 ·refine ⟨⟨Zc rfl, rfl, Zc rfl, rfl, Zc rfl, rfl, Zc ?_, rfl, Zc rfl, rfl, trivial⟩, trivial, ⟨rfl, Nat.le_of_ble_eq_true rfl, ?_, Nat.le_of_ble_eq_true rfl, trivial⟩⟩
  ·exact Zaq (by simp)
  ·exact Zab (by simp)
 rintro ⟨k, hk⟩
 simp (config := {dsimp := false}) only [↓Zt, vz, vn, nq, Zp, Zh, Zd, Zb, Zg, Za, Zi, Ze, Zj, Zf, if_true, if_false, implies_true, forall_const, ne_eq, reduceIte, reduceCtorEq, Nat.reduceEqDiff, Nat.reduceAdd, Nat.reduceMul, Nat.reduceDiv, Nat.reduceLT, Nat.reduceSub, Nat.reduceLeDiff, Nat.reduceBNe, Nat.reduceBEq, Nat.reduceBeqDiff, List.range, List.range.loop, Zu, Tryd.ntmps105, Tryd.results105]
 refine ⟨fun h => ?_, fun h => ?_⟩
 ·have h := of_decide_eq_true h
  have hk' : k < l.length := by omega
  have g1 := ZfK l k hk'
  have hx := hok _ (ZaI hk')
  have hfl := ZiN Zfc l k hk'
  have hsn := Zes Zfc l k hk'
  have hs : (l.getD k default).script.length ≤ (Zfc (l.getD k default)).length := by simp only [Zfc, Zbb, List.length_append]; omega
  simp (config := {dsimp := false}) only [↓Zt, vz, vn, nq, Zp, Zh, Zd, Zb, Zg, Za, Zi, Ze, Zj, Zf, if_true, if_false, implies_true, forall_const, ne_eq, reduceIte, reduceCtorEq, Nat.reduceEqDiff, Nat.reduceAdd, Nat.reduceMul, Nat.reduceDiv, Nat.reduceLT, Nat.reduceSub, Nat.reduceLeDiff, Nat.reduceBNe, Nat.reduceBEq, Nat.reduceBeqDiff, List.range, List.range.loop, Zu, Tryd.ntmps105, Tryd.results105, vb, Int.toNat_natCast, g1, Ze1, ZnF, Zem, Zvj, Zuu]
  refine ⟨by omega, by omega, by simp only [List.length_append]; omega, hx.value, by simp only [List.length_append]; omega, by omega, ⟨k + 1, by omega⟩, ⟨⟨Zc ?_, rfl, Zc rfl, rfl, Zc rfl, rfl, Zc ?_, rfl, Zc rfl, rfl, trivial⟩, trivial, ⟨rfl, Nat.le_of_ble_eq_true rfl, ?_, Nat.le_of_ble_eq_true rfl, trivial⟩⟩, by (try simp only); omega⟩
  ·exact Zap (by (try simp only); omega)
  ·exact Zaq (by rw [hsn]; first | done | rfl | (simp only [List.append_assoc]; done) | (simp only [List.append_assoc]; rfl))
  ·exact Zab (by rw [hsn]; simp only [List.length_append, Nat.add_assoc]; try rfl)
 ·have h := of_decide_eq_false h
  obtain rfl : k = l.length := by omega
  simp (config := {dsimp := false}) only [↓Zt, vz, vn, nq, Zp, Zh, Zd, Zb, Zg, Za, Zi, Ze, Zj, Zf, if_true, if_false, implies_true, forall_const, ne_eq, reduceIte, reduceCtorEq, Nat.reduceEqDiff, Nat.reduceAdd, Nat.reduceMul, Nat.reduceDiv, Nat.reduceLT, Nat.reduceSub, Nat.reduceLeDiff, Nat.reduceBNe, Nat.reduceBEq, Nat.reduceBeqDiff, List.range, List.range.loop, Zu, Tryd.ntmps105, Tryd.results105, ZgE, vb, List.take_length]
  refine ⟨0, 28, 6, _, _, ⟨rfl, ⟨by decide, by decide⟩, rfl, ⟨_, _, rfl, ?_⟩, rfl, [], [], [], ⟨rfl, rfl⟩, ⟨rfl, rfl⟩, ⟨by simp, by simp⟩, by simp, by simp [ZB, S.tok, Zm, reT], rfl, ⟨_, rfl, rfl⟩, ⟨_, rfl, rfl⟩, id rfl⟩⟩
  simp only [List.length_append]; omega
theorem ZuL : Zw E 107 := by
 refine Zbz hE hgl (show E.P.funcs[107]? = some Tryd.f107 from Tryd.func107) rfl (p := (ZeA 108)) (fun _ _ _ => rfl) ?_
 intro args ds tv hv hdl htl
 unfold ZeA at hv ⊢
 split at hv
 case h_2 => exact hv.elim
 rename_i b es h n
 refine ⟨by simp, Nat.le_of_ble_eq_true rfl, ?_⟩
 obtain ⟨rfl, rfl, hne, ⟨l, rfl, hok, hl⟩, hlen⟩ := hv
 simp only [ZeV] at hlen ⊢
 have e1 : IntKind.wrap .u64 (l.length : Int) = (l.length : Int) := IntWalk.u64_in _ (by omega)
 have hc := Zcr (l.length : Int)
 simp only [List.length_append] at hlen
 simp (config := {dsimp := false}) only [↓Zt, vz, vn, nq, Zp, Zh, Zd, Zb, Zg, Za, Zi, Ze, Zj, Zf, if_true, if_false, implies_true, forall_const, ne_eq, reduceIte, reduceCtorEq, Nat.reduceEqDiff, Nat.reduceAdd, Nat.reduceMul, Nat.reduceDiv, Nat.reduceLT, Nat.reduceSub, Nat.reduceLeDiff, Nat.reduceBNe, Nat.reduceBEq, Nat.reduceBeqDiff, List.range, List.range.loop, Zu, Tryd.ntmps107, Tryd.results107, ZgE, vb, e1, ZfY, Zd7, ZmE, Zmx]
 refine ⟨.inr ⟨rfl, rfl, hne⟩, ⟨by omega, by omega⟩, by omega, ?_⟩
 refine ZbL (Fin (l.length + 1)) (fun k => [(16, .int .i64 (k.1 : Nat)), (15, .int .i64 (l.length : Nat)), (14, .sl .no 1 (ZeK l)), (0, .sli (.tok 28) .u8 (b ++ (Zaf l.length ++ (l.take k.1).flatMap Zbb))), (2, .fn 108 [])]) (fun k => ⟨[], [(0, (b.length, 1)), (28, ((b ++ (Zaf l.length ++ (l.take k.1).flatMap Zbb)).length, 1))], 48⟩) (fun k => l.length - k.1) 0 (fun _ => rfl) ?_ ?_
 ·refine ⟨⟨Zc rfl, rfl, Zc rfl, rfl, Zc rfl, rfl, Zc ?_, rfl, Zc rfl, rfl, trivial⟩, trivial, ⟨rfl, Nat.le_of_ble_eq_true rfl, ?_, Nat.le_of_ble_eq_true rfl, trivial⟩⟩
  ·exact Zaq (by simp)
  ·exact Zab (by simp)
 rintro ⟨k, hk⟩
 simp (config := {dsimp := false}) only [↓Zt, vz, vn, nq, Zp, Zh, Zd, Zb, Zg, Za, Zi, Ze, Zj, Zf, if_true, if_false, implies_true, forall_const, ne_eq, reduceIte, reduceCtorEq, Nat.reduceEqDiff, Nat.reduceAdd, Nat.reduceMul, Nat.reduceDiv, Nat.reduceLT, Nat.reduceSub, Nat.reduceLeDiff, Nat.reduceBNe, Nat.reduceBEq, Nat.reduceBeqDiff, List.range, List.range.loop, Zu, Tryd.ntmps107, Tryd.results107]
 refine ⟨fun h => ?_, fun h => ?_⟩
 ·have h := of_decide_eq_true h
  have hk' : k < l.length := by omega
  have g1 := Znd l k hk'
  have hx := hok _ (Zj3 hk')
  have hfl := ZiN Zbb l k hk'
  have hsn := Zes Zbb l k hk'
  have hfl : ((l.take k).flatMap Zbb).length + (Zbb (l.getD k [])).length ≤ (l.flatMap Zbb).length := hfl
  have hsn : (l.take (k + 1)).flatMap Zbb = (l.take k).flatMap Zbb ++ Zbb (l.getD k []) := hsn
  have hs : (l.getD k []).length ≤ (Zbb (l.getD k [])).length := by simp only [Zbb, List.length_append]; omega
  simp (config := {dsimp := false}) only [↓Zt, vz, vn, nq, Zp, Zh, Zd, Zb, Zg, Za, Zi, Ze, Zj, Zf, if_true, if_false, implies_true, forall_const, ne_eq, reduceIte, reduceCtorEq, Nat.reduceEqDiff, Nat.reduceAdd, Nat.reduceMul, Nat.reduceDiv, Nat.reduceLT, Nat.reduceSub, Nat.reduceLeDiff, Nat.reduceBNe, Nat.reduceBEq, Nat.reduceBeqDiff, List.range, List.range.loop, Zu, Tryd.ntmps107, Tryd.results107, vb, Int.toNat_natCast, g1, ZeZ, Zcg, Zh0, Zhx]
  refine ⟨by omega, by omega, by simp only [List.length_append]; omega, by simp only [List.length_append]; omega, by omega, ⟨k + 1, by omega⟩, ⟨⟨Zc ?_, rfl, Zc rfl, rfl, Zc rfl, rfl, Zc ?_, rfl, Zc rfl, rfl, trivial⟩, trivial, ⟨rfl, Nat.le_of_ble_eq_true rfl, ?_, Nat.le_of_ble_eq_true rfl, trivial⟩⟩, by (try simp only); omega⟩
  ·exact Zap (by (try simp only); omega)
  ·exact Zaq (by rw [hsn]; first | done | rfl | (simp only [List.append_assoc]; done) | (simp only [List.append_assoc]; rfl))
  ·exact Zab (by rw [hsn]; simp only [List.length_append, Nat.add_assoc]; try rfl)
 ·have h := of_decide_eq_false h
  obtain rfl : k = l.length := by omega
  simp (config := {dsimp := false}) only [↓Zt, vz, vn, nq, Zp, Zh, Zd, Zb, Zg, Za, Zi, Ze, Zj, Zf, if_true, if_false, implies_true, forall_const, ne_eq, reduceIte, reduceCtorEq, Nat.reduceEqDiff, Nat.reduceAdd, Nat.reduceMul, Nat.reduceDiv, Nat.reduceLT, Nat.reduceSub, Nat.reduceLeDiff, Nat.reduceBNe, Nat.reduceBEq, Nat.reduceBeqDiff, List.range, List.range.loop, Zu, Tryd.ntmps107, Tryd.results107, ZgE, vb, List.take_length]
  refine ⟨0, 28, 6, _, _, ⟨rfl, ⟨by decide, by decide⟩, rfl, ⟨_, _, rfl, ?_⟩, rfl, [], [], [], ⟨rfl, rfl⟩, ⟨rfl, rfl⟩, ⟨by simp, by simp⟩, by simp, by simp [ZB, S.tok, Zm, reT], rfl, ⟨_, rfl, rfl⟩, ⟨_, rfl, rfl⟩, id rfl⟩⟩
  simp only [List.length_append]; omega
end Go.Vi.CO
end

section
namespace Go.Vi.CO
open Go.Proofs
theorem ZxT : Zw E 89 := by
 refine ZbC hE hgl (show E.P.funcs[89]? = some Tryd.f89 from Tryd.func89) rfl (p := Zhe) (fun _ _ _ => rfl) ?_
 intro args ds tv hv hdl htl
 unfold Zhe at hv ⊢
 split at hv
 case h_2 => exact hv.elim
 rename_i b v is os l full
 refine ⟨by simp, Nat.le_of_ble_eq_true rfl, ?_⟩
 obtain ⟨hok, hlen⟩ := hv
 obtain ⟨t, rfl, rfl, rfl, rfl, ht, -⟩ := Zl6 hok
 simp only [Zja, Zdh] at hlen ⊢
 have hi : Zt5 (Zct t.ins) := ⟨_, rfl, ht.ins, ht.mi⟩
 have ho : ZpA (Za1 t.outs) := ⟨_, rfl, ht.outs, ht.mo⟩
 have u1 : IntKind.wrap .u64 t.ver = t.ver := IntWalk.u64_in _ (by have := ht.ver.1; have := ht.ver.2; omega)
 have u2 : IntKind.wrap .u64 t.lock = t.lock := IntWalk.u64_in _ (by have := ht.lock.1; have := ht.lock.2; omega)
 have hlay : Zh6 ⟨t.ver, t.ins, t.outs, t.lock⟩ full = leI 4 t.ver ++ ((if full = true then [0, 1] else []) ++ ((Zaf t.ins.length ++ t.ins.flatMap inI) ++ ((Zaf t.outs.length ++ t.outs.flatMap Zfc) ++ ((if full = true then t.ins.flatMap ZhO else []) ++ leI 4 t.lock)))) := by
  simp only [Zh6, List.append_assoc]
 rw [hlay] at hlen ⊢
 simp only [List.length_append, Zr] at hlen
 obtain ⟨X, hX⟩ : ∃ X : Bool → List Int, ∀ f, X f = leI 4 t.ver ++ ((if f = true then [0, 1] else []) ++ ((Zaf t.ins.length ++ t.ins.flatMap inI) ++ (Zaf t.outs.length ++ t.outs.flatMap Zfc))) := ⟨_, fun _ => rfl⟩
 have t4 : Int.toNat 4 = 4 := rfl
 cases full
 ·have hf := hX false
  simp only [Bool.false_eq_true, if_false, List.nil_append, List.length_nil, List.length_cons] at hlen hf
  have hl2 := congrArg List.length hf
  simp only [List.length_append, Zr, List.length_cons, List.length_nil] at hl2
  have hmi := ht.mi
  have hne : (b ++ X false).length ≠ 0 := by simp only [List.length_append]; omega
  simp (config := {dsimp := false}) only [↓Zt, vz, vn, nq, Zp, Zh, Zd, Zb, Zg, Za, Zi, Ze, Zj, Zf, if_true, if_false, implies_true, forall_const, ne_eq, reduceIte, reduceCtorEq, Nat.reduceEqDiff, Nat.reduceAdd, Nat.reduceMul, Nat.reduceDiv, Nat.reduceLT, Nat.reduceSub, Nat.reduceLeDiff, Nat.reduceBNe, Nat.reduceBEq, Nat.reduceBeqDiff, List.range, List.range.loop, Zu, Tryd.ntmps89, Tryd.results89, Za9, vb, u1, ZdH, ZdK, ZiQ, ZjX, ZjL, ZeC, ZqF, Zqo, Zil, Zdx, ZoX, Zm9]
  refine ⟨.inl ⟨rfl, rfl⟩, .inl trivial, ht.ver.1, ht.ver.2, by omega, by simp [Zr], by simp [Zr], hi, by simp only [List.length_append, List.length_cons, List.length_nil, Zr, t4]; omega, by simp [Zr], ho, by simp only [List.length_append, List.length_cons, List.length_nil, Zr, t4]; omega, ?_⟩
  refine ZbL (Fin (t.ins.length + 1)) (fun k => [(29, .int .i64 (k.1 : Nat)), (28, .int .i64 (t.ins.length : Nat)), (27, .sl .no 36 (Zct t.ins)), (0, .sli (.tok 32) .u8 (b ++ (X false ++ []))), (2, .bool false), (4, .bp 8 0)]) (fun k => ⟨[(8, .agg [.int .u32 t.ver, .sl .no 36 (Zct t.ins), .sl .no 2 (Za1 t.outs), .int .u32 t.lock])], [(32, ((b ++ (X false ++ [])).length, 1))], 100⟩) (fun k => t.ins.length - k.1) 0 (fun _ => rfl) ?_ ?_
  ·refine ⟨⟨Zc rfl, rfl, Zc rfl, rfl, Zc rfl, rfl, Zc ?_, rfl, Zc rfl, rfl, Zc rfl, rfl, trivial⟩, ⟨rfl, Nat.le_of_ble_eq_true rfl, rfl, trivial⟩, ⟨?_, Nat.le_of_ble_eq_true rfl, trivial⟩⟩
   ·exact Zaq (by rw [hf]; simp [t4])
   ·exact Zab (by rw [hf]; simp only [List.length_append, List.length_cons, List.length_nil, Zr, t4, Fin.val_zero, List.take_zero, List.flatMap_nil]; omega)
  rintro ⟨k, hk⟩
  simp (config := {dsimp := false}) only [↓Zt, vz, vn, nq, Zp, Zh, Zd, Zb, Zg, Za, Zi, Ze, Zj, Zf, if_true, if_false, implies_true, forall_const, ne_eq, reduceIte, reduceCtorEq, Nat.reduceEqDiff, Nat.reduceAdd, Nat.reduceMul, Nat.reduceDiv, Nat.reduceLT, Nat.reduceSub, Nat.reduceLeDiff, Nat.reduceBNe, Nat.reduceBEq, Nat.reduceBeqDiff, List.range, List.range.loop, Zu, Tryd.ntmps89, Tryd.results89]
  refine ⟨fun h => ?_, fun h => ?_⟩
  ·have h := of_decide_eq_true h
   have hk' : k < t.ins.length := by omega
   have g1 := Zfh t.ins k hk'
   simp (config := {dsimp := false}) only [↓Zt, vz, vn, nq, Zp, Zh, Zd, Zb, Zg, Za, Zi, Ze, Zj, Zf, if_true, if_false, implies_true, forall_const, ne_eq, reduceIte, reduceCtorEq, Nat.reduceEqDiff, Nat.reduceAdd, Nat.reduceMul, Nat.reduceDiv, Nat.reduceLT, Nat.reduceSub, Nat.reduceLeDiff, Nat.reduceBNe, Nat.reduceBEq, Nat.reduceBeqDiff, List.range, List.range.loop, Zu, Tryd.ntmps89, Tryd.results89, vb, Int.toNat_natCast, g1, inD]
   refine ⟨by omega, by omega, ⟨k + 1, by omega⟩, ⟨⟨Zc ?_, rfl, Zc rfl, rfl, Zc rfl, rfl, Zc rfl, rfl, Zc rfl, rfl, Zc rfl, rfl, trivial⟩, ⟨rfl, Nat.le_of_ble_eq_true rfl, rfl, trivial⟩, ⟨rfl, Nat.le_of_ble_eq_true rfl, trivial⟩⟩, by (try simp only); omega⟩
   ·exact Zap (by (try simp only); omega)
  ·have h := of_decide_eq_false h
   obtain rfl : k = t.ins.length := by omega
   simp (config := {dsimp := false}) only [↓Zt, vz, vn, nq, Zp, Zh, Zd, Zb, Zg, Za, Zi, Ze, Zj, Zf, if_true, if_false, implies_true, forall_const, ne_eq, reduceIte, reduceCtorEq, Nat.reduceEqDiff, Nat.reduceAdd, Nat.reduceMul, Nat.reduceDiv, Nat.reduceLT, Nat.reduceSub, Nat.reduceLeDiff, Nat.reduceBNe, Nat.reduceBEq, Nat.reduceBeqDiff, List.range, List.range.loop, Zu, Tryd.ntmps89, Tryd.results89, Za9, vb, u2, List.take_length, ZdH, ZdK, ZiQ, ZjX]
   refine ⟨.inr ⟨rfl, rfl, by simp only [List.length_append, List.length_nil] at hne ⊢; omega⟩, .inl trivial, ht.lock.1, ht.lock.2, by simp only [List.length_append, List.length_nil]; omega, ?_⟩
   exact ⟨[], [120], [], ⟨rfl, rfl⟩, ⟨rfl, rfl⟩, ⟨by simp, by simp⟩, by simp, rfl, (show some [(_, 1)] = some [(_, 1)] from congrArg (fun n => some [(n, 1)]) (by rw [hf]; simp only [List.length_append, List.length_cons, List.length_nil, Zr, t4]; omega)), ⟨_, rfl, rfl⟩, ⟨_, rfl, rfl⟩, by rw [hf]; simp only [List.append_assoc, List.cons_append, List.nil_append]; rfl⟩
 ·have hf := hX true
  simp only [if_true, List.nil_append, List.length_nil, List.length_cons] at hlen hf
  have hl2 := congrArg List.length hf
  simp only [List.length_append, Zr, List.length_cons, List.length_nil] at hl2
  have hmi := ht.mi
  have hne : (b ++ X true).length ≠ 0 := by simp only [List.length_append]; omega
  simp (config := {dsimp := false}) only [↓Zt, vz, vn, nq, Zp, Zh, Zd, Zb, Zg, Za, Zi, Ze, Zj, Zf, if_true, if_false, implies_true, forall_const, ne_eq, reduceIte, reduceCtorEq, Nat.reduceEqDiff, Nat.reduceAdd, Nat.reduceMul, Nat.reduceDiv, Nat.reduceLT, Nat.reduceSub, Nat.reduceLeDiff, Nat.reduceBNe, Nat.reduceBEq, Nat.reduceBeqDiff, List.range, List.range.loop, Zu, Tryd.ntmps89, Tryd.results89, Za9, vb, u1, ZdH, ZdK, ZiQ, ZjX, ZjL, ZeC, ZqF, Zqo, Zil, Zdx, ZoX, Zm9]
  refine ⟨.inl ⟨rfl, rfl⟩, .inl trivial, ht.ver.1, ht.ver.2, by omega, by simp [Zr], by simp [Zr] <;> omega, by simp [Zr], by simp [Zr], hi, by simp only [List.length_append, List.length_cons, List.length_nil, Zr, t4]; omega, by simp [Zr], ho, by simp only [List.length_append, List.length_cons, List.length_nil, Zr, t4]; omega, ?_⟩
  refine ZbL (Fin (t.ins.length + 1)) (fun k => [(29, .int .i64 (k.1 : Nat)), (28, .int .i64 (t.ins.length : Nat)), (27, .sl .no 36 (Zct t.ins)), (0, .sli (.tok 32) .u8 (b ++ (X true ++ (t.ins.take k.1).flatMap ZhO))), (2, .bool true), (4, .bp 8 0)]) (fun k => ⟨[(8, .agg [.int .u32 t.ver, .sl .no 36 (Zct t.ins), .sl .no 2 (Za1 t.outs), .int .u32 t.lock])], [(32, ((b ++ (X true ++ (t.ins.take k.1).flatMap ZhO)).length, 1))], 116⟩) (fun k => t.ins.length - k.1) 0 (fun _ => rfl) ?_ ?_
  ·refine ⟨⟨Zc rfl, rfl, Zc rfl, rfl, Zc rfl, rfl, Zc ?_, rfl, Zc rfl, rfl, Zc rfl, rfl, trivial⟩, ⟨rfl, Nat.le_of_ble_eq_true rfl, rfl, trivial⟩, ⟨?_, Nat.le_of_ble_eq_true rfl, trivial⟩⟩
   ·exact Zaq (by rw [hf]; simp [t4])
   ·exact Zab (by rw [hf]; simp only [List.length_append, List.length_cons, List.length_nil, Zr, t4, Fin.val_zero, List.take_zero, List.flatMap_nil]; omega)
  rintro ⟨k, hk⟩
  simp (config := {dsimp := false}) only [↓Zt, vz, vn, nq, Zp, Zh, Zd, Zb, Zg, Za, Zi, Ze, Zj, Zf, if_true, if_false, implies_true, forall_const, ne_eq, reduceIte, reduceCtorEq, Nat.reduceEqDiff, Nat.reduceAdd, Nat.reduceMul, Nat.reduceDiv, Nat.reduceLT, Nat.reduceSub, Nat.reduceLeDiff, Nat.reduceBNe, Nat.reduceBEq, Nat.reduceBeqDiff, List.range, List.range.loop, Zu, Tryd.ntmps89, Tryd.results89]
  refine ⟨fun h => ?_, fun h => ?_⟩
  ·have h := of_decide_eq_true h
   have hk' : k < t.ins.length := by omega
   have g1 := Zfh t.ins k hk'
   have hx := ht.ins _ (ZaI hk')
   have hw : ZgF (ZeK (t.ins.getD k default).wit) := ⟨_, rfl, hx.wit, hx.many⟩
   have hfl := ZiN ZhO t.ins k hk'
   have hsn := Zes ZhO t.ins k hk'
   have hwl : (ZhO (t.ins.getD k default)).length = (Zaf (t.ins.getD k default).wit.length).length + ((t.ins.getD k default).wit.flatMap Zbb).length := by simp only [ZhO, List.length_append]
   have hwe : ZhO (t.ins.getD k default) = Zaf (t.ins.getD k default).wit.length ++ (t.ins.getD k default).wit.flatMap Zbb := rfl
   simp (config := {dsimp := false}) only [↓Zt, vz, vn, nq, Zp, Zh, Zd, Zb, Zg, Za, Zi, Ze, Zj, Zf, if_true, if_false, implies_true, forall_const, ne_eq, reduceIte, reduceCtorEq, Nat.reduceEqDiff, Nat.reduceAdd, Nat.reduceMul, Nat.reduceDiv, Nat.reduceLT, Nat.reduceSub, Nat.reduceLeDiff, Nat.reduceBNe, Nat.reduceBEq, Nat.reduceBeqDiff, List.range, List.range.loop, Zu, Tryd.ntmps89, Tryd.results89, vb, Int.toNat_natCast, g1, inD, Zo7, ZeA, ZuL, ZtY]
   refine ⟨by omega, by omega, by simp only [List.length_append] at hne ⊢; omega, hw, by simp only [List.length_append]; omega, ⟨k + 1, by omega⟩, ⟨⟨Zc ?_, rfl, Zc rfl, rfl, Zc rfl, rfl, Zc ?_, rfl, Zc rfl, rfl, Zc rfl, rfl, trivial⟩, ⟨rfl, Nat.le_of_ble_eq_true rfl, rfl, trivial⟩, ⟨?_, Nat.le_of_ble_eq_true rfl, trivial⟩⟩, by (try simp only); omega⟩
   ·exact Zap (by (try simp only); omega)
   ·exact Zaq (by rw [hsn, hwe])
   ·exact Zab (by rw [hsn, hwe])
  ·have h := of_decide_eq_false h
   obtain rfl : k = t.ins.length := by omega
   simp (config := {dsimp := false}) only [↓Zt, vz, vn, nq, Zp, Zh, Zd, Zb, Zg, Za, Zi, Ze, Zj, Zf, if_true, if_false, implies_true, forall_const, ne_eq, reduceIte, reduceCtorEq, Nat.reduceEqDiff, Nat.reduceAdd, Nat.reduceMul, Nat.reduceDiv, Nat.reduceLT, Nat.reduceSub, Nat.reduceLeDiff, Nat.reduceBNe, Nat.reduceBEq, Nat.reduceBeqDiff, List.range, List.range.loop, Zu, Tryd.ntmps89, Tryd.results89, Za9, vb, u2, List.take_length, ZdH, ZdK, ZiQ, ZjX]
   refine ⟨.inr ⟨rfl, rfl, by simp only [List.length_append, List.length_nil] at hne ⊢; omega⟩, .inl trivial, ht.lock.1, ht.lock.2, by simp only [List.length_append, List.length_nil]; omega, ?_⟩
   exact ⟨[], [136], [], ⟨rfl, rfl⟩, ⟨rfl, rfl⟩, ⟨by simp, by simp⟩, by simp, rfl, (show some [(_, 1)] = some [(_, 1)] from congrArg (fun n => some [(n, 1)]) (by rw [hf]; simp only [List.length_append, List.length_cons, List.length_nil, Zr, t4]; omega)), ⟨_, rfl, rfl⟩, ⟨_, rfl, rfl⟩, by rw [hf]; simp only [List.append_assoc, List.cons_append, List.nil_append]; rfl⟩
end Go.Vi.CO
end

section
namespace Go.Vi.CO
open Go.Proofs
theorem ZxB : Zw E 115 := by
 refine Zy hE hgl (show E.P.funcs[115]? = some Tryd.f115 from Tryd.func115) rfl (p := Zhy) (fun _ _ _ => rfl) ?_
 intro args hv
 unfold Zhy at hv ⊢
 split at hv
 case h_2 => exact hv.elim
 rename_i s
 refine ⟨by simp, Nat.le_of_ble_eq_true rfl, ?_⟩
 simp (config := {dsimp := false}) only [↓Zt, vz, vn, nq, Zp, Zh, Zd, Zb, Zg, Za, Zi, Ze, Zj, Zf, if_true, if_false, implies_true, forall_const, ne_eq, reduceIte, reduceCtorEq, Nat.reduceEqDiff, Nat.reduceAdd, Nat.reduceMul, Nat.reduceDiv, Nat.reduceLT, Nat.reduceSub, Nat.reduceLeDiff, Nat.reduceBNe, Nat.reduceBEq, Nat.reduceBeqDiff, List.range, List.range.loop, Zu, Tryd.ntmps115, Tryd.results115]
 simp only [Zl, ZdY]
 congr 2
 exact propext (by omega)
theorem Zl0 : Zw E 99 := by
 refine Zy hE hgl (show E.P.funcs[99]? = some Tryd.f99 from Tryd.func99) rfl (p := ZdQ) (fun _ _ _ => rfl) ?_
 intro args hv
 unfold ZdQ at hv ⊢
 split at hv
 case h_2 => exact hv.elim
 rename_i n m
 refine ⟨by simp, Nat.le_of_ble_eq_true rfl, ?_⟩
 simp (config := {dsimp := false}) only [↓Zt, vz, vn, nq, Zp, Zh, Zd, Zb, Zg, Za, Zi, Ze, Zj, Zf, if_true, if_false, implies_true, forall_const, ne_eq, reduceIte, reduceCtorEq, Nat.reduceEqDiff, Nat.reduceAdd, Nat.reduceMul, Nat.reduceDiv, Nat.reduceLT, Nat.reduceSub, Nat.reduceLeDiff, Nat.reduceBNe, Nat.reduceBEq, Nat.reduceBeqDiff, List.range, List.range.loop, Zu, Tryd.ntmps99, Tryd.results99]
 simp only [gives, Zb1, decide_eq_true_eq, decide_eq_false_iff_not]
 refine ⟨fun h => by rw [if_pos h], fun h => ⟨fun h2 => by rw [if_neg h, if_pos h2], fun h2 => by rw [if_neg h, if_neg h2]⟩⟩
theorem Ztu : Zw E 101 := by
 refine Zy hE hgl (show E.P.funcs[101]? = some Tryd.f101 from Tryd.func101) rfl (p := ZfL) (fun _ _ _ => rfl) ?_
 intro args hv
 unfold ZfL at hv ⊢
 split at hv
 case h_2 => exact hv.elim
 rename_i v s
 refine ⟨by simp, Nat.le_of_ble_eq_true rfl, ?_⟩
 simp (config := {dsimp := false}) only [↓Zt, vz, vn, nq, Zp, Zh, Zd, Zb, Zg, Za, Zi, Ze, Zj, Zf, if_true, if_false, implies_true, forall_const, ne_eq, reduceIte, reduceCtorEq, Nat.reduceEqDiff, Nat.reduceAdd, Nat.reduceMul, Nat.reduceDiv, Nat.reduceLT, Nat.reduceSub, Nat.reduceLeDiff, Nat.reduceBNe, Nat.reduceBEq, Nat.reduceBeqDiff, List.range, List.range.loop, Zu, Tryd.ntmps101, Tryd.results101]
 simp only [Zl]
 congr 2
 exact propext (by omega)
theorem Zye {α : Type} [Inhabited α] (p : α → Bool) (l : List α) : (∀ k, k < l.length → (∀ j, j < k → p (l.getD j default) = false) → p (l.getD k default) = true → Zkm p l = (k : Int)) ∧ ((∀ j, j < l.length → p (l.getD j default) = false) → Zkm p l = -1) := by
 have hg : ∀ (i : Nat) (h : i < l.length), l.getD i default = l[i] := fun i h => by simp [List.getD, h]
 refine ⟨fun k hk hb hp => ?_, fun hb => ?_⟩
 ·have : l.findIdx? p = some k := by
   rw [List.findIdx?_eq_some_iff_getElem]
   refine ⟨hk, by rw [← hg k hk]; exact hp, fun j hj => ?_⟩
   rw [← hg j (by omega), hb j hj]; decide
  simp only [Zkm, this]
 ·have : l.findIdx? p = none := by
   rw [List.findIdx?_eq_none_iff]
   intro x hx
   obtain ⟨i, h1, rfl⟩ := List.getElem_of_mem hx
   rw [← hg i h1]
   exact hb i h1
  simp only [Zkm, this]
theorem Zwk {α : Type} (p : α → Bool) (l : List α) : decide (0 ≤ Zkm p l) = l.any p := by
 cases h : l.findIdx? p with
 | none =>
  have h2 := List.findIdx?_eq_none_iff.1 h
  simp only [Zkm, h]
  have : l.any p = false := List.any_eq_false.2 fun x hx => by rw [h2 x hx]; decide
  rw [this]; rfl
 | some k =>
  obtain ⟨h1, h2, _⟩ := List.findIdx?_eq_some_iff_getElem.1 h
  simp only [Zkm, h]
  have : l.any p = true := List.any_eq_true.2 ⟨_, List.getElem_mem h1, h2⟩
  rw [this]; simp
theorem Zu5 : Zw E 123 := by
 refine Zy hE hgl (show E.P.funcs[123]? = some Tryd.f123 from Tryd.func123) rfl (p := (Zez 115)) (fun _ _ _ => rfl) ?_
 intro args hv
 unfold Zez at hv ⊢
 split at hv
 case h_2 => exact hv.elim
 rename_i es h
 refine ⟨by simp, Nat.le_of_ble_eq_true rfl, ?_⟩
 simp only [Zl] at hv
 obtain ⟨rfl, l, rfl, hok, hl⟩ := hv
 obtain ⟨hI1, hI2⟩ := Zye ZdY l
 simp (config := {dsimp := false}) only [↓Zt, vz, vn, nq, Zp, Zh, Zd, Zb, Zg, Za, Zi, Ze, Zj, Zf, if_true, if_false, implies_true, forall_const, ne_eq, reduceIte, reduceCtorEq, Nat.reduceEqDiff, Nat.reduceAdd, Nat.reduceMul, Nat.reduceDiv, Nat.reduceLT, Nat.reduceSub, Nat.reduceLeDiff, Nat.reduceBNe, Nat.reduceBEq, Nat.reduceBeqDiff, List.range, List.range.loop, Zu, Tryd.ntmps123, Tryd.results123]
 refine ZbL {k : Nat // k ≤ l.length ∧ ∀ j, j < k → ZdY (l.getD j default) = false} (fun k => [(8, .int .i64 (k.1 : Nat)), (7, .int .i64 (l.length : Nat)), (0, .sl .no 1 (ZeK l)), (1, .fn 115 [])]) (fun _ => ⟨[], [], 16⟩) (fun k => l.length - k.1) ⟨0, by simp⟩ (fun _ => rfl) ?_ ?_
 ·exact ⟨⟨Zc rfl, rfl, Zc rfl, rfl, Zc rfl, rfl, Zc rfl, rfl, trivial⟩, trivial, trivial⟩
 rintro ⟨k, hk, hb⟩
 simp (config := {dsimp := false}) only [↓Zt, vz, vn, nq, Zp, Zh, Zd, Zb, Zg, Za, Zi, Ze, Zj, Zf, if_true, if_false, implies_true, forall_const, ne_eq, reduceIte, reduceCtorEq, Nat.reduceEqDiff, Nat.reduceAdd, Nat.reduceMul, Nat.reduceDiv, Nat.reduceLT, Nat.reduceSub, Nat.reduceLeDiff, Nat.reduceBNe, Nat.reduceBEq, Nat.reduceBeqDiff, List.range, List.range.loop, Zu, Tryd.ntmps123, Tryd.results123]
 refine ⟨fun hh => ?_, fun hh => ?_⟩
 ·have hh := of_decide_eq_true hh
  have hk' : k < l.length := by omega
  have g1 : (ZeK l).getD k .any = .sli .no .u8 (l.getD k default) := Znd l k hk'
  have hx := hok _ (ZaI hk')
  cases hp : ZdY (l.getD k default)
  ·have hq : ZdY (l.getD k default) = false := hp
   simp (config := {dsimp := false}) only [↓Zt, vz, vn, nq, Zp, Zh, Zd, Zb, Zg, Za, Zi, Ze, Zj, Zf, if_true, if_false, implies_true, forall_const, ne_eq, reduceIte, reduceCtorEq, Nat.reduceEqDiff, Nat.reduceAdd, Nat.reduceMul, Nat.reduceDiv, Nat.reduceLT, Nat.reduceSub, Nat.reduceLeDiff, Nat.reduceBNe, Nat.reduceBEq, Nat.reduceBeqDiff, List.range, List.range.loop, Zu, Tryd.ntmps123, Tryd.results123, PF.toR, Zl, Int.toNat_natCast, g1, hq, ZoM, Zhy, ZxB, Zxn]
   refine ⟨by omega, by omega, hx.2, ⟨k + 1, by omega, fun j hj => ?_⟩, ⟨⟨Zc ?_, rfl, Zc rfl, rfl, Zc rfl, rfl, Zc rfl, rfl, trivial⟩, trivial, trivial⟩, by (try simp only); omega⟩
   ·rcases Nat.lt_or_ge j k with h7 | h7
    ·exact hb j h7
    ·obtain rfl : j = k := by omega
     exact hp
   ·exact Zap (by (try simp only); omega)
  ·have hq : ZdY (l.getD k default) = true := hp
   simp (config := {dsimp := false}) only [↓Zt, vz, vn, nq, Zp, Zh, Zd, Zb, Zg, Za, Zi, Ze, Zj, Zf, if_true, if_false, implies_true, forall_const, ne_eq, reduceIte, reduceCtorEq, Nat.reduceEqDiff, Nat.reduceAdd, Nat.reduceMul, Nat.reduceDiv, Nat.reduceLT, Nat.reduceSub, Nat.reduceLeDiff, Nat.reduceBNe, Nat.reduceBEq, Nat.reduceBeqDiff, List.range, List.range.loop, Zu, Tryd.ntmps123, Tryd.results123, PF.toR, Zl, Int.toNat_natCast, g1, hq, ZeV, hI1 k hk' hb hp, ZoM, Zhy, ZxB, Zxn]
   exact ⟨by omega, by omega, hx.2⟩
 ·have hh := of_decide_eq_false hh
  obtain rfl : k = l.length := by omega
  simp (config := {dsimp := false}) only [↓Zt, vz, vn, nq, Zp, Zh, Zd, Zb, Zg, Za, Zi, Ze, Zj, Zf, if_true, if_false, implies_true, forall_const, ne_eq, reduceIte, reduceCtorEq, Nat.reduceEqDiff, Nat.reduceAdd, Nat.reduceMul, Nat.reduceDiv, Nat.reduceLT, Nat.reduceSub, Nat.reduceLeDiff, Nat.reduceBNe, Nat.reduceBEq, Nat.reduceBeqDiff, List.range, List.range.loop, Zu, Tryd.ntmps123, Tryd.results123, Zl, ZeV, hI2 hb]
  all_goals rfl
theorem Znl : Zw E 114 := by
 refine Zy hE hgl (show E.P.funcs[114]? = some Tryd.f114 from Tryd.func114) rfl (p := (ZcI 115)) (fun _ _ _ => rfl) ?_
 intro args hv
 unfold ZcI at hv ⊢
 split at hv
 case h_2 => exact hv.elim
 rename_i es h
 refine ⟨by simp, Nat.le_of_ble_eq_true rfl, ?_⟩
 simp only [Zl] at hv
 obtain ⟨rfl, l, rfl, hok, hl⟩ := hv
 simp (config := {dsimp := false}) only [↓Zt, vz, vn, nq, Zp, Zh, Zd, Zb, Zg, Za, Zi, Ze, Zj, Zf, if_true, if_false, implies_true, forall_const, ne_eq, reduceIte, reduceCtorEq, Nat.reduceEqDiff, Nat.reduceAdd, Nat.reduceMul, Nat.reduceDiv, Nat.reduceLT, Nat.reduceSub, Nat.reduceLeDiff, Nat.reduceBNe, Nat.reduceBEq, Nat.reduceBeqDiff, List.range, List.range.loop, Zu, Tryd.ntmps114, Tryd.results114, PF.toR, Zl, ZeV, Zwk, ZnL, Zez, Zu5, ZuX]
 exact ⟨_, rfl, hok, hl⟩
theorem Zw2 : Zw E 100 := by
 refine Zy hE hgl (show E.P.funcs[100]? = some Tryd.f100 from Tryd.func100) rfl (p := ZhU) (fun _ _ _ => rfl) ?_
 intro args hv
 unfold ZhU at hv ⊢
 split at hv
 case h_2 => exact hv.elim
 rename_i p i s q w
 refine ⟨by simp, Nat.le_of_ble_eq_true rfl, ?_⟩
 simp only [Zl] at hv
 obtain ⟨⟨l, rfl, hok, hl⟩, hs⟩ := hv
 have d1 : decide ((s.length : Int) ≤ 128) = decide (s.length ≤ 128) := by congr 1; exact propext (by omega)
 have d2 : decide ((l.length : Int) ≤ 8) = decide (l.length ≤ 8) := by congr 1; exact propext (by omega)
 have hw : ZgF (ZeK l) := ⟨_, rfl, hok, hl⟩
 cases h1 : decide (s.length ≤ 128) <;> cases h2 : decide (l.length ≤ 8)
 all_goals simp (config := {dsimp := false}) only [↓Zt, vz, vn, nq, Zp, Zh, Zd, Zb, Zg, Za, Zi, Ze, Zj, Zf, if_true, if_false, implies_true, forall_const, ne_eq, reduceIte, reduceCtorEq, Nat.reduceEqDiff, Nat.reduceAdd, Nat.reduceMul, Nat.reduceDiv, Nat.reduceLT, Nat.reduceSub, Nat.reduceLeDiff, Nat.reduceBNe, Nat.reduceBEq, Nat.reduceBeqDiff, List.range, List.range.loop, Zu, Tryd.ntmps100, Tryd.results100, PF.toR, Zl, d1, d2, h1, h2, Zi5, ZcI, Znl, ZmY]
 exact hw
theorem Zwj {t : TxP} (h : ¬ Zb1 t.ins.length 16 = 0) : Za4 t = Zb1 t.ins.length 16 := by unfold Za4; rw [if_pos h]
theorem ZvO {t : TxP} (h : Zb1 t.ins.length 16 = 0) (h2 : ¬ Zb1 t.outs.length 16 = 0) : Za4 t = Zb1 t.outs.length 16 := by unfold Za4; rw [if_neg (by simp [h]), if_pos h2]
theorem Zwm {t : TxP} (h : Zb1 t.ins.length 16 = 0) (h2 : Zb1 t.outs.length 16 = 0) {x : InP} (hx : x ∈ t.ins) (hb : Zhj x = false) : Za4 t = 3 := by
 unfold Za4
 rw [if_neg (by simp [h]), if_neg (by simp [h2]), if_pos (List.all_eq_false.2 ⟨x, hx, by rw [hb]; decide⟩)]
theorem Zv8 {t : TxP} (h : Zb1 t.ins.length 16 = 0) (h2 : Zb1 t.outs.length 16 = 0) (hi : ∀ j, j < t.ins.length → Zhj (t.ins.getD j default) = true) {x : OutP} (hx : x ∈ t.outs) (hb : Zgn x = false) : Za4 t = 3 := by
 unfold Za4
 rw [if_neg (by simp [h]), if_neg (by simp [h2]), if_neg, if_pos (List.all_eq_false.2 ⟨x, hx, by rw [hb]; decide⟩)]
 rw [List.all_eq_true.2 fun x hx => by
  obtain ⟨i, h1, rfl⟩ := List.getElem_of_mem hx
  have := hi i h1
  simpa [List.getD, h1] using this]
 decide
theorem Zwg {t : TxP} (h : Zb1 t.ins.length 16 = 0) (h2 : Zb1 t.outs.length 16 = 0) (hi : ∀ j, j < t.ins.length → Zhj (t.ins.getD j default) = true) (ho : ∀ j, j < t.outs.length → Zgn (t.outs.getD j default) = true) : Za4 t = 0 := by
 unfold Za4
 rw [if_neg (by simp [h]), if_neg (by simp [h2]), if_neg, if_neg]
 ·rw [List.all_eq_true.2 fun x hx => by
   obtain ⟨i, h1, rfl⟩ := List.getElem_of_mem hx
   have := ho i h1
   simpa [List.getD, h1] using this]
  decide
 ·rw [List.all_eq_true.2 fun x hx => by
   obtain ⟨i, h1, rfl⟩ := List.getElem_of_mem hx
   have := hi i h1
   simpa [List.getD, h1] using this]
  decide
theorem ZoZ : Zw E 88 := by
 refine Zy hE hgl (show E.P.funcs[88]? = some Tryd.f88 from Tryd.func88) rfl (p := ZcM) (fun _ _ _ => rfl) ?_
 intro args hv
 unfold ZcM at hv ⊢
 split at hv
 case h_2 => exact hv.elim
 rename_i v is os l
 refine ⟨by simp, Nat.le_of_ble_eq_true rfl, ?_⟩
 simp only [Zl] at hv
 obtain ⟨t, rfl, rfl, rfl, rfl, ht, he⟩ := Zl6 hv
 have hmi := ht.mi
 have hmo := ht.mo
 have eta : (⟨t.ver, t.ins, t.outs, t.lock⟩ : TxP) = t := rfl
 by_cases h1 : Zb1 t.ins.length 16 = 0
 case neg => simp (config := {dsimp := false}) only [↓Zt, vz, vn, nq, Zp, Zh, Zd, Zb, Zg, Za, Zi, Ze, Zj, Zf, if_true, if_false, implies_true, forall_const, ne_eq, reduceIte, reduceCtorEq, Nat.reduceEqDiff, Nat.reduceAdd, Nat.reduceMul, Nat.reduceDiv, Nat.reduceLT, Nat.reduceSub, Nat.reduceLeDiff, Nat.reduceBNe, Nat.reduceBEq, Nat.reduceBeqDiff, List.range, List.range.loop, Zu, Tryd.ntmps88, Tryd.results88, PF.toR, Zl, gives, h1, decide_false, eta, Zwj h1, ZgB, ZdQ, Zl0, ZmM]
 by_cases h2 : Zb1 t.outs.length 16 = 0
 case neg => simp (config := {dsimp := false}) only [↓Zt, vz, vn, nq, Zp, Zh, Zd, Zb, Zg, Za, Zi, Ze, Zj, Zf, if_true, if_false, implies_true, forall_const, ne_eq, reduceIte, reduceCtorEq, Nat.reduceEqDiff, Nat.reduceAdd, Nat.reduceMul, Nat.reduceDiv, Nat.reduceLT, Nat.reduceSub, Nat.reduceLeDiff, Nat.reduceBNe, Nat.reduceBEq, Nat.reduceBeqDiff, List.range, List.range.loop, Zu, Tryd.ntmps88, Tryd.results88, PF.toR, Zl, gives, h1, h2, eq_self, decide_true, decide_false, eta, ZvO h1 h2, ZgB, ZdQ, Zl0, ZmM]
 simp (config := {dsimp := false}) only [↓Zt, vz, vn, nq, Zp, Zh, Zd, Zb, Zg, Za, Zi, Ze, Zj, Zf, if_true, if_false, implies_true, forall_const, ne_eq, reduceIte, reduceCtorEq, Nat.reduceEqDiff, Nat.reduceAdd, Nat.reduceMul, Nat.reduceDiv, Nat.reduceLT, Nat.reduceSub, Nat.reduceLeDiff, Nat.reduceBNe, Nat.reduceBEq, Nat.reduceBeqDiff, List.range, List.range.loop, Zu, Tryd.ntmps88, Tryd.results88, PF.toR, Zl, gives, h1, h2, eq_self, decide_true, eta, ZgB, ZdQ, Zl0, ZmM]
 refine ZbL {k : Nat // k ≤ t.ins.length ∧ ∀ j, j < k → Zhj (t.ins.getD j default) = true} (fun k => [(26, .int .i64 (k.1 : Nat)), (25, .int .i64 (t.ins.length : Nat)), (24, .sl .no 36 (Zct t.ins)), (1, .bp 0 0)]) (fun _ => ⟨[(0, .agg [.int .u32 t.ver, .sl .no 36 (Zct t.ins), .sl .no 2 (Za1 t.outs), .int .u32 t.lock])], [], 80⟩) (fun k => t.ins.length - k.1) ⟨0, by simp⟩ (fun _ => rfl) ?_ ?_
 ·exact ⟨⟨Zc rfl, rfl, Zc rfl, rfl, Zc rfl, rfl, Zc rfl, rfl, trivial⟩, ⟨rfl, Nat.le_of_ble_eq_true rfl, rfl, trivial⟩, trivial⟩
 rintro ⟨k, hk, hb⟩
 simp (config := {dsimp := false}) only [↓Zt, vz, vn, nq, Zp, Zh, Zd, Zb, Zg, Za, Zi, Ze, Zj, Zf, if_true, if_false, implies_true, forall_const, ne_eq, reduceIte, reduceCtorEq, Nat.reduceEqDiff, Nat.reduceAdd, Nat.reduceMul, Nat.reduceDiv, Nat.reduceLT, Nat.reduceSub, Nat.reduceLeDiff, Nat.reduceBNe, Nat.reduceBEq, Nat.reduceBeqDiff, List.range, List.range.loop, Zu, Tryd.ntmps88, Tryd.results88]
 refine ⟨fun hh => ?_, fun hh => ?_⟩
 ·have hh := of_decide_eq_true hh
  have hk' : k < t.ins.length := by omega
  have g1 := Zfh t.ins k hk'
  have hx := ht.ins _ (ZaI hk')
  have hw : ZgF (ZeK (t.ins.getD k default).wit) := ⟨_, rfl, hx.wit, hx.many⟩
  cases hp : Zhj (t.ins.getD k default)
  ·have hq : (decide ((t.ins.getD k default).script.length ≤ 128) && (decide ((t.ins.getD k default).wit.length ≤ 8) && !(t.ins.getD k default).wit.any ZdY)) = false := hp
   simp (config := {dsimp := false}) only [↓Zt, vz, vn, nq, Zp, Zh, Zd, Zb, Zg, Za, Zi, Ze, Zj, Zf, if_true, if_false, implies_true, forall_const, ne_eq, reduceIte, reduceCtorEq, Nat.reduceEqDiff, Nat.reduceAdd, Nat.reduceMul, Nat.reduceDiv, Nat.reduceLT, Nat.reduceSub, Nat.reduceLeDiff, Nat.reduceBNe, Nat.reduceBEq, Nat.reduceBeqDiff, List.range, List.range.loop, Zu, Tryd.ntmps88, Tryd.results88, PF.toR, Zl, Int.toNat_natCast, g1, inD, hq, Zwm h1 h2 (ZaI hk') hp, ZoL, ZhU, Zw2, Zxs]
   exact ⟨by omega, by omega, hw, hx.script.2⟩
  ·have hq : (decide ((t.ins.getD k default).script.length ≤ 128) && (decide ((t.ins.getD k default).wit.length ≤ 8) && !(t.ins.getD k default).wit.any ZdY)) = true := hp
   simp (config := {dsimp := false}) only [↓Zt, vz, vn, nq, Zp, Zh, Zd, Zb, Zg, Za, Zi, Ze, Zj, Zf, if_true, if_false, implies_true, forall_const, ne_eq, reduceIte, reduceCtorEq, Nat.reduceEqDiff, Nat.reduceAdd, Nat.reduceMul, Nat.reduceDiv, Nat.reduceLT, Nat.reduceSub, Nat.reduceLeDiff, Nat.reduceBNe, Nat.reduceBEq, Nat.reduceBeqDiff, List.range, List.range.loop, Zu, Tryd.ntmps88, Tryd.results88, PF.toR, Zl, Int.toNat_natCast, g1, inD, hq, ZoL, ZhU, Zw2, Zxs]
   refine ⟨by omega, by omega, hw, hx.script.2, ⟨k + 1, by omega, fun j hj => ?_⟩, ⟨⟨Zc ?_, rfl, Zc rfl, rfl, Zc rfl, rfl, Zc rfl, rfl, trivial⟩, ⟨rfl, Nat.le_of_ble_eq_true rfl, rfl, trivial⟩, trivial⟩, by (try simp only); omega⟩
   ·rcases Nat.lt_or_ge j k with h7 | h7
    ·exact hb j h7
    ·obtain rfl : j = k := by omega
     exact hp
   ·exact Zap (by (try simp only); omega)
 have hh := of_decide_eq_false hh
 obtain rfl : k = t.ins.length := by omega
 have hbi := hb
 refine ZbL {k : Nat // k ≤ t.outs.length ∧ ∀ j, j < k → Zgn (t.outs.getD j default) = true} (fun k => [(37, .int .i64 (k.1 : Nat)), (36, .int .i64 (t.outs.length : Nat)), (35, .sl .no 2 (Za1 t.outs)), (1, .bp 0 0)]) (fun _ => ⟨[(0, .agg [.int .u32 t.ver, .sl .no 36 (Zct t.ins), .sl .no 2 (Za1 t.outs), .int .u32 t.lock])], [], 100⟩) (fun k => t.outs.length - k.1) ⟨0, by simp⟩ (fun _ => rfl) ?_ ?_
 ·exact ⟨⟨Zc rfl, rfl, Zc rfl, rfl, Zc rfl, rfl, Zc rfl, rfl, trivial⟩, ⟨rfl, Nat.le_of_ble_eq_true rfl, rfl, trivial⟩, trivial⟩
 rintro ⟨k, hk, hb⟩
 simp (config := {dsimp := false}) only [↓Zt, vz, vn, nq, Zp, Zh, Zd, Zb, Zg, Za, Zi, Ze, Zj, Zf, if_true, if_false, implies_true, forall_const, ne_eq, reduceIte, reduceCtorEq, Nat.reduceEqDiff, Nat.reduceAdd, Nat.reduceMul, Nat.reduceDiv, Nat.reduceLT, Nat.reduceSub, Nat.reduceLeDiff, Nat.reduceBNe, Nat.reduceBEq, Nat.reduceBeqDiff, List.range, List.range.loop, Zu, Tryd.ntmps88, Tryd.results88]
 refine ⟨fun hh => ?_, fun hh => ?_⟩
 ·have hh := of_decide_eq_true hh
  have hk' : k < t.outs.length := by omega
  have g1 := ZfK t.outs k hk'
  have hx := ht.outs _ (ZaI hk')
  skip
  cases hp : Zgn (t.outs.getD k default)
  ·have hq : decide ((t.outs.getD k default).script.length ≤ 128) = false := hp
   simp (config := {dsimp := false}) only [↓Zt, vz, vn, nq, Zp, Zh, Zd, Zb, Zg, Za, Zi, Ze, Zj, Zf, if_true, if_false, implies_true, forall_const, ne_eq, reduceIte, reduceCtorEq, Nat.reduceEqDiff, Nat.reduceAdd, Nat.reduceMul, Nat.reduceDiv, Nat.reduceLT, Nat.reduceSub, Nat.reduceLeDiff, Nat.reduceBNe, Nat.reduceBEq, Nat.reduceBeqDiff, List.range, List.range.loop, Zu, Tryd.ntmps88, Tryd.results88, PF.toR, Zl, Int.toNat_natCast, g1, Ze1, hq, Zv8 h1 h2 hbi (ZaI hk') hp, ZkN, ZfL, Ztu, Zus]
   exact ⟨by omega, by omega, hx.script.2⟩
  ·have hq : decide ((t.outs.getD k default).script.length ≤ 128) = true := hp
   simp (config := {dsimp := false}) only [↓Zt, vz, vn, nq, Zp, Zh, Zd, Zb, Zg, Za, Zi, Ze, Zj, Zf, if_true, if_false, implies_true, forall_const, ne_eq, reduceIte, reduceCtorEq, Nat.reduceEqDiff, Nat.reduceAdd, Nat.reduceMul, Nat.reduceDiv, Nat.reduceLT, Nat.reduceSub, Nat.reduceLeDiff, Nat.reduceBNe, Nat.reduceBEq, Nat.reduceBeqDiff, List.range, List.range.loop, Zu, Tryd.ntmps88, Tryd.results88, PF.toR, Zl, Int.toNat_natCast, g1, Ze1, hq, ZkN, ZfL, Ztu, Zus]
   refine ⟨by omega, by omega, hx.script.2, ⟨k + 1, by omega, fun j hj => ?_⟩, ⟨⟨Zc ?_, rfl, Zc rfl, rfl, Zc rfl, rfl, Zc rfl, rfl, trivial⟩, ⟨rfl, Nat.le_of_ble_eq_true rfl, rfl, trivial⟩, trivial⟩, by (try simp only); omega⟩
   ·rcases Nat.lt_or_ge j k with h7 | h7
    ·exact hb j h7
    ·obtain rfl : j = k := by omega
     exact hp
   ·exact Zap (by (try simp only); omega)
 have hh := of_decide_eq_false hh
 obtain rfl : k = t.outs.length := by omega
 simp (config := {dsimp := false}) only [↓Zt, vz, vn, nq, Zp, Zh, Zd, Zb, Zg, Za, Zi, Ze, Zj, Zf, if_true, if_false, implies_true, forall_const, ne_eq, reduceIte, reduceCtorEq, Nat.reduceEqDiff, Nat.reduceAdd, Nat.reduceMul, Nat.reduceDiv, Nat.reduceLT, Nat.reduceSub, Nat.reduceLeDiff, Nat.reduceBNe, Nat.reduceBEq, Nat.reduceBeqDiff, List.range, List.range.loop, Zu, Tryd.ntmps88, Tryd.results88, Zwg h1 h2 hbi hb]
 all_goals rfl
end Go.Vi.CO
end

section
namespace Go.Vi.CO
open Go.Proofs
theorem Zu1 (n : Int) : 0 ≤ IntKind.wrap .u64 n := by rw [IntKind.wrap_u64]; omega
theorem Zl4 (x : Int) (ns : List Int) (i : Nat) (h : i < ns.length) : Zce x (ns.take (i + 1)) = Zgg .u32 (Zce x (ns.take i)) (Zx3 x (IntKind.wrap .i64 (-(ns[i]?.getD 0)))) := by
 unfold Zce
 rw [List.take_add_one, List.foldl_append]
 simp [h]
theorem ZvH : Zw E 112 := by
 refine Zy hE hgl (show E.P.funcs[112]? = some Tryd.f112 from Tryd.func112) rfl (p := Zfw) (fun _ _ _ => rfl) ?_
 intro args hv
 unfold Zfw at hv ⊢
 split at hv
 case h_2 => exact hv.elim
 refine ⟨by simp, by simp, ?_⟩
 simp (config := {dsimp := false}) only [↓Zt, vz, vn, nq, Zp, Zh, Zd, Zb, Zg, Za, Zi, Ze, Zj, Zf, if_true, if_false, implies_true, forall_const, ne_eq, reduceIte, reduceCtorEq, Nat.reduceEqDiff, Nat.reduceAdd, Nat.reduceMul, Nat.reduceDiv, Nat.reduceLT, Nat.reduceSub, Nat.reduceLeDiff, Nat.reduceBNe, Nat.reduceBEq, Nat.reduceBeqDiff, List.range, List.range.loop, Zu, Tryd.ntmps112, Tryd.results112, gives, ZnP, h0]
theorem Zx2 : Zw E 136 := by
 refine Zy hE hgl (show E.P.funcs[136]? = some Tryd.f136 from Tryd.func136) rfl (p := Zg0) (fun _ _ _ => rfl) ?_
 intro args hv
 unfold Zg0 at hv ⊢
 split at hv
 case h_2 => exact hv.elim
 refine ⟨by simp, Nat.le_of_ble_eq_true rfl, ?_⟩
 simp (config := {dsimp := false}) only [↓Zt, vz, vn, nq, Zp, Zh, Zd, Zb, Zg, Za, Zi, Ze, Zj, Zf, if_true, if_false, implies_true, forall_const, ne_eq, reduceIte, reduceCtorEq, Nat.reduceEqDiff, Nat.reduceAdd, Nat.reduceMul, Nat.reduceDiv, Nat.reduceLT, Nat.reduceSub, Nat.reduceLeDiff, Nat.reduceBNe, Nat.reduceBEq, Nat.reduceBeqDiff, List.range, List.range.loop, Zu, Tryd.ntmps136, Tryd.results136]
 rfl
theorem ZxM : Zw E 144 := by
 refine Zy hE hgl (show E.P.funcs[144]? = some Tryd.f144 from Tryd.func144) rfl (p := ZgM) (fun _ _ _ => rfl) ?_
 intro args hv
 unfold ZgM at hv ⊢
 split at hv
 case h_2 => exact hv.elim
 refine ⟨by simp, Nat.le_of_ble_eq_true rfl, ?_⟩
 simp (config := {dsimp := false}) only [↓Zt, vz, vn, nq, Zp, Zh, Zd, Zb, Zg, Za, Zi, Ze, Zj, Zf, if_true, if_false, implies_true, forall_const, ne_eq, reduceIte, reduceCtorEq, Nat.reduceEqDiff, Nat.reduceAdd, Nat.reduceMul, Nat.reduceDiv, Nat.reduceLT, Nat.reduceSub, Nat.reduceLeDiff, Nat.reduceBNe, Nat.reduceBEq, Nat.reduceBeqDiff, List.range, List.range.loop, Zu, Tryd.ntmps144, Tryd.results144]
 exact ⟨Zu1 _, Zu1 _, rfl⟩
theorem ZjN : Zw E 142 := by
 refine Zy hE hgl (show E.P.funcs[142]? = some Tryd.f142 from Tryd.func142) rfl (p := ZcN) (fun _ _ _ => rfl) ?_
 intro args hv
 unfold ZcN at hv ⊢
 split at hv
 case h_2 => exact hv.elim
 rename_i x ns
 refine ⟨by simp, Nat.le_of_ble_eq_true rfl, ?_⟩
 simp (config := {dsimp := false}) only [↓Zt, vz, vn, nq, Zp, Zh, Zd, Zb, Zg, Za, Zi, Ze, Zj, Zf, if_true, if_false, implies_true, forall_const, ne_eq, reduceIte, reduceCtorEq, Nat.reduceEqDiff, Nat.reduceAdd, Nat.reduceMul, Nat.reduceDiv, Nat.reduceLT, Nat.reduceSub, Nat.reduceLeDiff, Nat.reduceBNe, Nat.reduceBEq, Nat.reduceBeqDiff, List.range, List.range.loop, Zu, Tryd.ntmps142, Tryd.results142]
 refine ZbL (Fin (ns.length + 1)) (fun i => [(4, .int .u32 (Zce x (ns.take i))), (0, .int .u32 x), (7, .sli .no .i64 ns), (8, .int .i64 ns.length), (9, .int .i64 (i : Nat))]) (fun _ => ⟨[], [], 16⟩) (fun i => ns.length - i) 0 (fun _ => rfl) ?_ ?_
 ·simp [Wk, Zqf, wkD, ZpO, Zpq, Zm, D.under, ZfG, Zce]
 intro i
 simp (config := {dsimp := false}) only [↓Zt, vz, vn, nq, Zp, Zh, Zd, Zb, Zg, Za, Zi, Ze, Zj, Zf, if_true, if_false, implies_true, forall_const, ne_eq, reduceIte, reduceCtorEq, Nat.reduceEqDiff, Nat.reduceAdd, Nat.reduceMul, Nat.reduceDiv, Nat.reduceLT, Nat.reduceSub, Nat.reduceLeDiff, Nat.reduceBNe, Nat.reduceBEq, Nat.reduceBeqDiff, List.range, List.range.loop, Zu, Tryd.ntmps142, Tryd.results142, PF.toR, gives, Zr8, ZgM, ZxM, ZxS]
 obtain ⟨i, hi⟩ := i
 simp only [Zl] at hv
 refine ⟨fun h => ?_, fun h => ?_⟩
 ·have h := of_decide_eq_true h
  simp only at h
  refine ⟨by simp, h, ⟨i + 1, by omega⟩, ?_, by simp only; omega⟩
  simp [Wk, Zqf, wkD, ZpO, Zpq, Zm, D.under, ZfG, Zl4 x ns i (by omega), IntWalk.i64_in ((i : Int) + 1) (by omega)]
 ·have h := of_decide_eq_false h
  simp only at h
  change D.int .u32 (Zce x (ns.take i)) = D.int .u32 (Zce x ns)
  rw [List.take_of_length_le (by omega)]
theorem Zwp : Zw E 135 := by
 refine Zy hE hgl (show E.P.funcs[135]? = some Tryd.f135 from Tryd.func135) rfl (p := Zfn) (fun _ _ _ => rfl) ?_
 intro args hv
 unfold Zfn at hv ⊢
 split at hv
 case h_2 => exact hv.elim
 refine ⟨by simp, Nat.le_of_ble_eq_true rfl, ?_⟩
 simp (config := {dsimp := false}) only [↓Zt, vz, vn, nq, Zp, Zh, Zd, Zb, Zg, Za, Zi, Ze, Zj, Zf, if_true, if_false, implies_true, forall_const, ne_eq, reduceIte, reduceCtorEq, Nat.reduceEqDiff, Nat.reduceAdd, Nat.reduceMul, Nat.reduceDiv, Nat.reduceLT, Nat.reduceSub, Nat.reduceLeDiff, Nat.reduceBNe, Nat.reduceBEq, Nat.reduceBeqDiff, List.range, List.range.loop, Zu, Tryd.ntmps135, Tryd.results135]
 refine Zb0 [2, 4, 1] (by kernel_rfl) ?_
 simp (config := {dsimp := false}) only [↓Zt, vz, vn, nq, Zp, Zh, Zd, Zb, Zg, Za, Zi, Ze, Zj, Zf, if_true, if_false, implies_true, forall_const, ne_eq, reduceIte, reduceCtorEq, Nat.reduceEqDiff, Nat.reduceAdd, Nat.reduceMul, Nat.reduceDiv, Nat.reduceLT, Nat.reduceSub, Nat.reduceLeDiff, Nat.reduceBNe, Nat.reduceBEq, Nat.reduceBeqDiff, List.range, List.range.loop, Zu, Tryd.ntmps135, Tryd.results135, PF.toR, Zl, Zfl, ZcN, ZjN, Zj2]
 refine Zb0 [2, 4, 5] (by kernel_rfl) ?_
 simp (config := {dsimp := false}) only [↓Zt, vz, vn, nq, Zp, Zh, Zd, Zb, Zg, Za, Zi, Ze, Zj, Zf, if_true, if_false, implies_true, forall_const, ne_eq, reduceIte, reduceCtorEq, Nat.reduceEqDiff, Nat.reduceAdd, Nat.reduceMul, Nat.reduceDiv, Nat.reduceLT, Nat.reduceSub, Nat.reduceLeDiff, Nat.reduceBNe, Nat.reduceBEq, Nat.reduceBeqDiff, List.range, List.range.loop, Zu, Tryd.ntmps135, Tryd.results135, PF.toR, Zl, Zfl, ZcN, ZjN, Zj2]
 rfl
theorem ZvY (n : Int) (i : Nat) (h : i < 8) : (Zdp n).take (i + 1) = (Zdp n).take i ++ [IntKind.wrap .u8 (ZeY .u64 (Zmy .u64 (IntKind.wrap .u64 n) 3) (56 - 8 * (i : Int)))] := by
 match i, h with
 | 0, _ => rfl
 | 1, _ => rfl
 | 2, _ => rfl
 | 3, _ => rfl
 | 4, _ => rfl
 | 5, _ => rfl
 | 6, _ => rfl
 | 7, _ => rfl
theorem Zs7 : Zw E 121 := by
 refine Zy hE hgl (show E.P.funcs[121]? = some Tryd.f121 from Tryd.func121) rfl (p := ZdU) (fun _ _ _ => rfl) ?_
 intro args hv
 unfold ZdU at hv ⊢
 split at hv
 case h_2 => exact hv.elim
 rename_i n
 refine ⟨by simp, Nat.le_of_ble_eq_true rfl, ?_⟩
 simp (config := {dsimp := false}) only [↓Zt, vz, vn, nq, Zp, Zh, Zd, Zb, Zg, Za, Zi, Ze, Zj, Zf, if_true, if_false, implies_true, forall_const, ne_eq, reduceIte, reduceCtorEq, Nat.reduceEqDiff, Nat.reduceAdd, Nat.reduceMul, Nat.reduceDiv, Nat.reduceLT, Nat.reduceSub, Nat.reduceLeDiff, Nat.reduceBNe, Nat.reduceBEq, Nat.reduceBeqDiff, List.range, List.range.loop, Zu, Tryd.ntmps121, Tryd.results121]
 simp only [Zl] at hv
 have hm : n.tmod 64 = n % 64 := Int.tmod_eq_emod_of_nonneg hv.1
 have hp : (IntKind.wrap .i64 (119 - n.tmod 64)).tmod 64 = (119 - n % 64) % 64 := by
  rw [hm, IntWalk.i64_in _ (by omega), Int.tmod_eq_emod_of_nonneg (by omega)]
 have hpad : ((IntKind.wrap .i64 (119 - n.tmod 64)).tmod 64).toNat = pad n := by rw [hp]; rfl
 have hp0 : 0 ≤ (IntKind.wrap .i64 (119 - n.tmod 64)).tmod 64 := by rw [hp]; omega
 have hp1 : pad n < 64 := by unfold pad; omega
 rw [hpad]
 refine ⟨by decide, by decide, by simp; omega, fun kk m e => by cases e; exact hp0, ?_⟩
 refine ZbL (Fin 9) (fun i => [(5, .int .i64 (56 - 8 * (i.1 : Int))), (4, .sli (.tok 32) .u8 (128 :: List.replicate (pad n) 0 ++ (Zdp n).take i.1)), (0, .int .i64 n)]) (fun i => ⟨[], [(32, (1 + pad n + i.1, 1))], 44⟩) (fun i => 8 - i.1) 0 (fun _ => rfl) ?_ ?_
 ·simp [Wk, Zqf, wkD, ZpO, Zpq, Zm, D.under, ZfG, S.tok]
 rintro ⟨i, hi⟩
 simp (config := {dsimp := false}) only [↓Zt, vz, vn, nq, Zp, Zh, Zd, Zb, Zg, Za, Zi, Ze, Zj, Zf, if_true, if_false, implies_true, forall_const, ne_eq, reduceIte, reduceCtorEq, Nat.reduceEqDiff, Nat.reduceAdd, Nat.reduceMul, Nat.reduceDiv, Nat.reduceLT, Nat.reduceSub, Nat.reduceLeDiff, Nat.reduceBNe, Nat.reduceBEq, Nat.reduceBeqDiff, List.range, List.range.loop, Zu, Tryd.ntmps121, Tryd.results121]
 have hbl : (Zdp n).length = 8 := rfl
 refine ⟨fun h => ?_, fun h => ?_⟩
 ·have h := of_decide_eq_true h
  have hi8 : i < 8 := by omega
  have hlen : (List.replicate (pad n) (0 : Int) ++ (Zdp n).take i).length = pad n + i := by simp; omega
  refine ⟨by decide, h, by rw [hlen]; simp; omega, by rw [hlen]; omega, ⟨i + 1, by omega⟩, ?_, by simp only; omega⟩
  have e1 : IntKind.wrap .i64 (56 - 8 * (i : Int) - 8) = 56 - 8 * ((i : Int) + 1) := by rw [IntWalk.i64_in _ (by omega)]; omega
  simp [Wk, Zqf, wkD, ZpO, Zpq, Zm, D.under, ZfG, S.tok, e1, ZvY n i hi8]
  omega
 ·have h := of_decide_eq_false h
  obtain rfl : i = 8 := by omega
  rfl
end Go.Vi.CO
end

section
namespace Go.Vi.CO
open Go.Proofs
theorem ZsC : Zw E 134 := by
 refine ZbC hE hgl (show E.P.funcs[134]? = some Tryd.f134 from Tryd.func134) rfl (p := (ZdP 141)) (fun _ _ _ => rfl) ?_
 intro args ds tv hv hdl htl
 unfold ZdP at hv ⊢
 split at hv
 case h_2 => exact hv.elim
 rename_i b
 refine ⟨by simp, Nat.le_of_ble_eq_true rfl, ?_⟩
 simp (config := {dsimp := false}) only [↓Zt, vz, vn, nq, Zp, Zh, Zd, Zb, Zg, Za, Zi, Ze, Zj, Zf, if_true, if_false, implies_true, forall_const, ne_eq, reduceIte, reduceCtorEq, Nat.reduceEqDiff, Nat.reduceAdd, Nat.reduceMul, Nat.reduceDiv, Nat.reduceLT, Nat.reduceSub, Nat.reduceLeDiff, Nat.reduceBNe, Nat.reduceBEq, Nat.reduceBeqDiff, List.range, List.range.loop, Zu, Tryd.ntmps134, Tryd.results134, Za9, vb]
 exact ⟨[20, 8, 16], [], [], ⟨rfl, rfl⟩, ⟨rfl, rfl⟩, ⟨by decide, by decide⟩, by simp, rfl, rfl, ⟨_, rfl, rfl⟩, ⟨_, rfl, rfl⟩, id rfl⟩
theorem ZxU : Zw E 141 := by
 refine ZbC hE hgl (show E.P.funcs[141]? = some Tryd.f141 from Tryd.func141) rfl (p := Zg3) (fun _ _ _ => rfl) ?_
 intro args ds tv hv hdl htl
 unfold Zg3 at hv ⊢
 split at hv
 case h_2 => exact hv.elim
 rename_i n b ws
 refine ⟨by simp, Nat.le_of_ble_eq_true rfl, ?_⟩
 simp (config := {dsimp := false}) only [↓Zt, vz, vn, nq, Zp, Zh, Zd, Zb, Zg, Za, Zi, Ze, Zj, Zf, if_true, if_false, implies_true, forall_const, ne_eq, reduceIte, reduceCtorEq, Nat.reduceEqDiff, Nat.reduceAdd, Nat.reduceMul, Nat.reduceDiv, Nat.reduceLT, Nat.reduceSub, Nat.reduceLeDiff, Nat.reduceBNe, Nat.reduceBEq, Nat.reduceBeqDiff, List.range, List.range.loop, Zu, Tryd.ntmps141, Tryd.results141, Za9, vb]
 obtain ⟨⟨h0, h64⟩, hb, hw⟩ := hv
 refine ⟨fun h => ?_, fun h => ?_⟩
 ·have h := of_decide_eq_true h
  have e4 : IntKind.wrap .i64 (4 * n) = 4 * n := IntWalk.i64_in _ (by omega)
  have ht : List.take (b.length : Int).toNat b = b := List.take_of_length_le (by omega)
  rw [e4, ht]
  refine ⟨by omega, by omega, Int.le_refl _, ?_⟩
  refine Zb0 [4, 0, 1, 2] (by kernel_rfl) ?_
  simp (config := {dsimp := false}) only [↓Zt, vz, vn, nq, Zp, Zh, Zd, Zb, Zg, Za, Zi, Ze, Zj, Zf, if_true, if_false, implies_true, forall_const, ne_eq, reduceIte, reduceCtorEq, Nat.reduceEqDiff, Nat.reduceAdd, Nat.reduceMul, Nat.reduceDiv, Nat.reduceLT, Nat.reduceSub, Nat.reduceLeDiff, Nat.reduceBNe, Nat.reduceBEq, Nat.reduceBeqDiff, List.range, List.range.loop, Zu, Tryd.ntmps141, Tryd.results141, Za9, vb]
  have hd : ∀ j, (List.drop (4 * n).toNat b).getD j 0 = b.getD (4 * n.toNat + j) 0 := by
   intro j
   rw [show (4 * n).toNat = 4 * n.toNat by omega]
   simp [List.getD]
  have hdl2 : ((List.drop (4 * n).toNat b).length : Int) ≥ 4 := by simp; omega
  have e1 : IntKind.wrap .i64 (n + 1) = n + 1 := IntWalk.i64_in _ (by omega)
  have e2 : IntKind.wrap .i64 (n + 1 - 1) = n := by rw [IntWalk.i64_in _ (by omega)]; omega
  have hgs : ∀ x, (ws.set n.toNat x).getD n.toNat 0 = x := by intro x; simp [List.getD, List.getElem?_set_self (show n.toNat < ws.length by omega)]
  have hn16 : n.toNat < 16 := by omega
  have hnx : Zm5 b ws n.toNat = ZwU b n.toNat := if_pos hn16
  simp only [hd, e1, e2, hgs, hnx, show Int.toNat 3 = 3 from rfl, show Int.toNat 2 = 2 from rfl, show Int.toNat 1 = 1 from rfl, show Int.toNat 0 = 0 from rfl, Nat.add_zero]
  refine ⟨by decide, by omega, by decide, by omega, by decide, by decide, by omega, by decide, by decide, by omega, by decide, by omega, by omega, by kernel_rfl, by omega, by omega, ?_⟩
  exact ⟨[], [], [], ⟨rfl, rfl⟩, ⟨rfl, rfl⟩, ⟨by simp, by simp⟩, by simp, rfl, rfl, ⟨_, rfl, rfl⟩, ⟨_, rfl, rfl⟩, id rfl⟩
 ·have h := of_decide_eq_false h
  refine Zb0 [0, 1, 2] (by kernel_rfl) ?_
  simp (config := {dsimp := false}) only [↓Zt, vz, vn, nq, Zp, Zh, Zd, Zb, Zg, Za, Zi, Ze, Zj, Zf, if_true, if_false, implies_true, forall_const, ne_eq, reduceIte, reduceCtorEq, Nat.reduceEqDiff, Nat.reduceAdd, Nat.reduceMul, Nat.reduceDiv, Nat.reduceLT, Nat.reduceSub, Nat.reduceLeDiff, Nat.reduceBNe, Nat.reduceBEq, Nat.reduceBeqDiff, List.range, List.range.loop, Zu, Tryd.ntmps141, Tryd.results141, Za9, vb]
  have e1 : IntKind.wrap .i64 (n + 1) = n + 1 := IntWalk.i64_in _ (by omega)
  have e2 : IntKind.wrap .i64 (n + 1 - 1) = n := by rw [IntWalk.i64_in _ (by omega)]; omega
  have e15 : IntKind.wrap .i64 (n - 15) = n - 15 := IntWalk.i64_in _ (by omega)
  have e3 : IntKind.wrap .i64 (n - 2) = n - 2 := IntWalk.i64_in _ (by omega)
  have e16 : IntKind.wrap .i64 (n - 16) = n - 16 := IntWalk.i64_in _ (by omega)
  have e7 : IntKind.wrap .i64 (n - 7) = n - 7 := IntWalk.i64_in _ (by omega)
  rw [e15, e3]
  refine ⟨by omega, by omega, by omega, by omega, ?_⟩
  refine Zb0 [0, 1, 2, 5, 6] (by kernel_rfl) ?_
  simp (config := {dsimp := false}) only [↓Zt, vz, vn, nq, Zp, Zh, Zd, Zb, Zg, Za, Zi, Ze, Zj, Zf, if_true, if_false, implies_true, forall_const, ne_eq, reduceIte, reduceCtorEq, Nat.reduceEqDiff, Nat.reduceAdd, Nat.reduceMul, Nat.reduceDiv, Nat.reduceLT, Nat.reduceSub, Nat.reduceLeDiff, Nat.reduceBNe, Nat.reduceBEq, Nat.reduceBeqDiff, List.range, List.range.loop, Zu, Tryd.ntmps141, Tryd.results141, Za9, vb, PF.toR, gives, Zl, e16, e7, Zfl, ZcN, ZjN, Zj2]
  have hgs : ∀ x, (ws.set n.toNat x).getD n.toNat 0 = x := by intro x; simp [List.getD, List.getElem?_set_self (show n.toNat < ws.length by omega)]
  have n15 : (n - 15).toNat = n.toNat - 15 := by omega
  have n2 : (n - 2).toNat = n.toNat - 2 := by omega
  have n16 : (n - 16).toNat = n.toNat - 16 := by omega
  have n7 : (n - 7).toNat = n.toNat - 7 := by omega
  have nn : ¬ n.toNat < 16 := by omega
  have hnx : Zm5 b ws n.toNat = _ := if_neg nn
  simp only [e1, e2, hgs, hnx, n15, n2, n16, n7]
  refine ⟨by omega, by omega, by decide, by omega, by omega, by decide, by omega, by omega, by kernel_rfl, by omega, by omega, ?_⟩
  exact ⟨[], [], [], ⟨rfl, rfl⟩, ⟨rfl, rfl⟩, ⟨by simp, by simp⟩, by simp, rfl, rfl, ⟨_, rfl, rfl⟩, ⟨_, rfl, rfl⟩, id rfl⟩
end Go.Vi.CO
end

section
namespace Go.Vi.CO
open Go.Proofs
theorem ZkT (b s : List Int) : ∀ n, (Zte b s n).1.length = 64
 | 0 => rfl
 | n + 1 => by simp [Zte, ZkT b s n]
theorem Zxl (l : List Int) (h : l.length = 8) : l = [l.getD 0 0, l.getD 1 0, l.getD 2 0, l.getD 3 0, l.getD 4 0, l.getD 5 0, l.getD 6 0, l.getD 7 0] := by
 match l, h with
 | [a, b, c, d, e, f, g, i], _ => rfl
theorem Zvt : Zw E 122 := by
 refine Zy hE hgl (show E.P.funcs[122]? = some Tryd.f122 from Tryd.func122) rfl (p := Zey) (fun _ _ _ => rfl) ?_
 intro args hv
 unfold Zey at hv ⊢
 split at hv
 case h_2 => exact hv.elim
 rename_i a b c d e f g h x
 refine ⟨by simp, Nat.le_of_ble_eq_true rfl, ?_⟩
 simp only [Zl] at hv
 simp (config := {dsimp := false}) only [↓Zt, vz, vn, nq, Zp, Zh, Zd, Zb, Zg, Za, Zi, Ze, Zj, Zf, if_true, if_false, implies_true, forall_const, ne_eq, reduceIte, reduceCtorEq, Nat.reduceEqDiff, Nat.reduceAdd, Nat.reduceMul, Nat.reduceDiv, Nat.reduceLT, Nat.reduceSub, Nat.reduceLeDiff, Nat.reduceBNe, Nat.reduceBEq, Nat.reduceBeqDiff, List.range, List.range.loop, Zu, Tryd.ntmps122, Tryd.results122]
 refine ZjS [1, 2, 4] [(1, [2, 3]), (3, [0, 1, 2])] [] (by kernel_rfl) (Zdw rfl) ?_
 simp (config := {dsimp := false}) only [↓Zt, vz, vn, nq, Zp, Zh, Zd, Zb, Zg, Za, Zi, Ze, Zj, Zf, if_true, if_false, implies_true, forall_const, ne_eq, reduceIte, reduceCtorEq, Nat.reduceEqDiff, Nat.reduceAdd, Nat.reduceMul, Nat.reduceDiv, Nat.reduceLT, Nat.reduceSub, Nat.reduceLeDiff, Nat.reduceBNe, Nat.reduceBEq, Nat.reduceBeqDiff, List.range, List.range.loop, Zu, Tryd.ntmps122, Tryd.results122, vb, ↓vy0, vx0, ZmR, ZdP, ZsC, ZsP]
 refine ⟨ZaY (by kernel_rfl) rfl, ZaY (by kernel_rfl) rfl, ZcO rfl (by kernel_rfl), ?_⟩
 refine ZbL (Fin 65) (fun i => [(13, .int .i64 (i.1 : Int)), (12, .arr .u32 64 Zc3), (5, .fn 141 [.bp 12 0, .bp 13 0, .bp 14 0]), (6, .bp 20 0), (2, .bp 0 0), (4, .bp 4 0)])
  (fun i => ⟨[(0, st8 [a, b, c, d, e, f, g, h]), (4, st8 []), (12, .int .i64 (i.1 : Int)), (13, .sli .no .u8 x), (14, .arr .u32 64 (Zte x [a, b, c, d, e, f, g, h] i.1).1), (20, st8 (Zte x [a, b, c, d, e, f, g, h] i.1).2)], [], 40⟩) (fun i => 64 - i.1) 0 (fun _ => rfl) ?_ ?_
 ·exact ⟨⟨Zc rfl, rfl, Zc rfl, rfl, Zc rfl, rfl, Zc rfl, rfl, Zc rfl, rfl, Zc rfl, rfl, trivial⟩, ⟨rfl, Nat.le_of_ble_eq_true rfl, rfl, rfl, Nat.le_of_ble_eq_true rfl, rfl, rfl, Nat.le_of_ble_eq_true rfl, rfl, rfl, Nat.le_of_ble_eq_true rfl, rfl, rfl, Nat.le_of_ble_eq_true rfl, rfl, rfl, Nat.le_of_ble_eq_true rfl, rfl, trivial⟩, trivial⟩
 rintro ⟨i, hi⟩
 simp (config := {dsimp := false}) only [↓Zt, vz, vn, nq, Zp, Zh, Zd, Zb, Zg, Za, Zi, Ze, Zj, Zf, if_true, if_false, implies_true, forall_const, ne_eq, reduceIte, reduceCtorEq, Nat.reduceEqDiff, Nat.reduceAdd, Nat.reduceMul, Nat.reduceDiv, Nat.reduceLT, Nat.reduceSub, Nat.reduceLeDiff, Nat.reduceBNe, Nat.reduceBEq, Nat.reduceBeqDiff, List.range, List.range.loop, Zu, Tryd.ntmps122, Tryd.results122, st8]
 refine ⟨fun hh => ?_, fun hh => ?_⟩
 ·have hh := of_decide_eq_true hh
  have hw := ZkT x [a, b, c, d, e, f, g, h] i
  refine ⟨by omega, by omega, ?_⟩
  refine ZjS [2, 4, 5, 6, 8, 12, 13] [(3, [0, 1])] [(3, [12, 13, 14])] (by kernel_rfl) (Zdw rfl) ?_
  simp (config := {dsimp := false}) only [↓Zt, vz, vn, nq, Zp, Zh, Zd, Zb, Zg, Za, Zi, Ze, Zj, Zf, if_true, if_false, implies_true, forall_const, ne_eq, reduceIte, reduceCtorEq, Nat.reduceEqDiff, Nat.reduceAdd, Nat.reduceMul, Nat.reduceDiv, Nat.reduceLT, Nat.reduceSub, Nat.reduceLeDiff, Nat.reduceBNe, Nat.reduceBEq, Nat.reduceBeqDiff, List.range, List.range.loop, Zu, Tryd.ntmps122, Tryd.results122, vb, ↓vy0, vx0, PF.toR, gives, ZnP, Zp2, ZsO, Zg3, ZxU, Zyg, Zp7, Zfn, Zwp, ZvP]
  refine ⟨by omega, by omega, hv, hw, ZaY (by kernel_rfl) rfl, ZcO rfl (by kernel_rfl), ⟨i + 1, by omega⟩, ⟨⟨Zc ?_, rfl, Zc rfl, rfl, Zc rfl, rfl, Zc rfl, rfl, Zc rfl, rfl, Zc rfl, rfl, trivial⟩, ⟨rfl, Nat.le_of_ble_eq_true rfl, rfl, rfl, Nat.le_of_ble_eq_true rfl, rfl, rfl, Nat.le_of_ble_eq_true rfl, rfl, rfl, Nat.le_of_ble_eq_true rfl, rfl, rfl, Nat.le_of_ble_eq_true rfl, rfl, rfl, Nat.le_of_ble_eq_true rfl, rfl, trivial⟩, trivial⟩, by (try simp only); omega⟩
  exact Zap (by (try simp only); omega)
 ·have hh := of_decide_eq_false hh
  obtain rfl : i = 64 := by omega
  simp (config := {dsimp := false}) only [↓Zt, vz, vn, nq, Zp, Zh, Zd, Zb, Zg, Za, Zi, Ze, Zj, Zf, if_true, if_false, implies_true, forall_const, ne_eq, reduceIte, reduceCtorEq, Nat.reduceEqDiff, Nat.reduceAdd, Nat.reduceMul, Nat.reduceDiv, Nat.reduceLT, Nat.reduceSub, Nat.reduceLeDiff, Nat.reduceBNe, Nat.reduceBEq, Nat.reduceBeqDiff, List.range, List.range.loop, Zu, Tryd.ntmps122, Tryd.results122, vb, PF.toR, gives, ZnP, ZsX, Zg0, Zx2, ZxV]
  rfl
theorem ZmO (n : Int) : (ZgT n).length = pad n + 9 := by simp [ZgT]; rfl
theorem Zoz (gone : Int) (r : List Int) (h : r.length < 1000000000) (h0 : 0 ≤ gone) (h1 : gone < 1000000000) (h2 : gone % 64 = 0) : ∃ m, (Zbh gone r).length = 64 * m ∧ m < 16000000 := by
 refine ⟨(Zbh gone r).length / 64, ?_, ?_⟩ <;> simp [Zbh, ZmO] <;> unfold pad <;> omega
theorem Zod (s b : List Int) : (Zhc s b).length = 8 := by simp [Zhc, Zxx]
theorem ZnG (all s : List Int) (h : s.length = 8) : ∀ i, (ZgO all s i).length = 8
 | 0 => h
 | i + 1 => Zod _ _
theorem Zji (s : List Int) : (Zkk s).length = 32 := by simp [Zkk]
theorem Zy8 (L : List Int) (j : Nat) (hL : L.length = 32) (hj : j < 8) (a b c d : Int) (ha : L[4 * j]? = some a) (hb : L[4 * j + 1]? = some b) (hc : L[4 * j + 2]? = some c) (hd : L[4 * j + 3]? = some d) :
  ((((L.take (4 * j) ++ List.replicate (32 - 4 * j) 0).set (4 * j) a).set (4 * j + 1) b).set (4 * j + 2) c).set (4 * j + 3) d = L.take (4 * (j + 1)) ++ List.replicate (32 - 4 * (j + 1)) 0 := by
 have hT : (L.take (4 * j)).length = 4 * j := by simp; omega
 have e1 : 4 * (j + 1) = 4 * j + 1 + 1 + 1 + 1 := by omega
 have e2 : 32 - 4 * j = (32 - (4 * j + 1 + 1 + 1 + 1)) + 1 + 1 + 1 + 1 := by omega
 rw [e2, e1]
 simp only [List.replicate_succ]
 rw [List.set_append_right _ _ (by omega), List.set_append_right _ _ (by omega), List.set_append_right _ _ (by omega), List.set_append_right _ _ (by omega), hT]
 simp only [Nat.sub_self, List.set_cons_zero, show 4 * j + 1 - 4 * j = 1 by omega, show 4 * j + 2 - 4 * j = 2 by omega, show 4 * j + 3 - 4 * j = 3 by omega, List.set_cons_succ]
 simp only [List.take_add_one, ha, hb, hc, hd, Option.toList, List.append_assoc, List.cons_append, List.nil_append]
theorem ZiM (s : List Int) (j r : Nat) (hj : j < 8) (hr : r < 4) : (Zkk s)[4 * j + r]? = some (IntKind.wrap .u8 (if r = 3 then s.getD j 0 else ZeY .u32 (s.getD j 0) (24 - 8 * (r : Int)))) := by
 have h1 : (4 * j + r) % 4 = r := by omega
 have h2 : (4 * j + r) / 4 = j := by omega
 simp only [Zkk, List.getElem?_map, List.getElem?_range (show 4 * j + r < 32 by omega), Option.map_some, h1, h2]
theorem ZtB : Zw E 113 := by
 refine Zy hE hgl (show E.P.funcs[113]? = some Tryd.f113 from Tryd.func113) rfl (p := Zet) (fun _ _ _ => rfl) ?_
 intro args hv
 unfold Zet at hv ⊢
 split at hv
 case h_2 => exact hv.elim
 rename_i a b c d e f g h n x
 refine ⟨by simp, Nat.le_of_ble_eq_true rfl, ?_⟩
 simp only [Zl] at hv
 obtain ⟨hx, h0', h1, h2⟩ := hv
 obtain ⟨m, hm, hm2⟩ := Zoz n x hx h0' h1 h2
 have e1 : IntKind.wrap .i64 (n + (x.length : Int)) = n + x.length := IntWalk.i64_in _ (by omega)
 simp (config := {dsimp := false}) only [↓Zt, vz, vn, nq, Zp, Zh, Zd, Zb, Zg, Za, Zi, Ze, Zj, Zf, if_true, if_false, implies_true, forall_const, ne_eq, reduceIte, reduceCtorEq, Nat.reduceEqDiff, Nat.reduceAdd, Nat.reduceMul, Nat.reduceDiv, Nat.reduceLT, Nat.reduceSub, Nat.reduceLeDiff, Nat.reduceBNe, Nat.reduceBEq, Nat.reduceBeqDiff, List.range, List.range.loop, Zu, Tryd.ntmps113, Tryd.results113, PF.toR, gives, Zl, e1, Zmz, ZdU, Zs7, Zsl]
 have hpd : x ++ 128 :: (List.replicate (pad (n + ↑x.length)) 0 ++ Zdp (n + ↑x.length)) = Zbh n x := by simp [Zbh, ZgT]
 have hlen : x.length + ((List.replicate (pad (n + ↑x.length)) (0 : Int) ++ Zdp (n + ↑x.length)).length + 1) = (Zbh n x).length := by rw [← hpd]; simp
 have hlen2 : x.length ≤ (Zbh n x).length := by rw [← hlen]; omega
 rw [hpd, hlen]
 refine ⟨by omega, by omega, by omega, by simp, by omega, ?_⟩
 generalize hst : [a, b, c, d, e, f, g, h] = s0
 have hs0 : s0.length = 8 := by rw [← hst]; rfl
 refine ZbL (Fin (m + 1)) (fun i => [(7, .sli .no .u8 ((Zbh n x).drop (64 * i.1))), (3, .bp 0 0), (6, .bp 4 0)]) (fun i => ⟨[(0, st8 (ZgO (Zbh n x) s0 i.1)), (4, .arr .u8 32 (List.replicate 32 0))], [], 48⟩) (fun i => m - i.1) 0 (fun _ => rfl) ?_ ?_
 ·refine ⟨⟨.inr ⟨_, rfl⟩, rfl, Zc rfl, rfl, Zc rfl, rfl, trivial⟩, ⟨?_, Nat.le_of_ble_eq_true rfl, rfl, rfl, Nat.le_of_ble_eq_true rfl, rfl, trivial⟩, trivial⟩
  subst hst
  rfl
 rintro ⟨i, hi⟩
 simp (config := {dsimp := false}) only [↓Zt, vz, vn, nq, Zp, Zh, Zd, Zb, Zg, Za, Zi, Ze, Zj, Zf, if_true, if_false, implies_true, forall_const, ne_eq, reduceIte, reduceCtorEq, Nat.reduceEqDiff, Nat.reduceAdd, Nat.reduceMul, Nat.reduceDiv, Nat.reduceLT, Nat.reduceSub, Nat.reduceLeDiff, Nat.reduceBNe, Nat.reduceBEq, Nat.reduceBeqDiff, List.range, List.range.loop, Zu, Tryd.ntmps113, Tryd.results113, PF.toR, Zl, st8, ZnP, ZoT, Zey, Zvt, ZuF]
 have hdl : ((Zbh n x).drop (64 * i)).length = 64 * (m - i) := by simp; omega
 rw [hdl]
 have hb8 := ZnG (Zbh n x) s0 hs0 i
 refine ⟨fun hh => ?_, fun hh => ?_⟩
 ·have hh := of_decide_eq_true hh
  have hlt : i < m := by omega
  refine ⟨by omega, by decide, by omega, Int.le_refl _, ⟨i + 1, by omega⟩, ⟨⟨Zc ?_, rfl, Zc rfl, rfl, Zc rfl, rfl, trivial⟩, ⟨?_, Nat.le_of_ble_eq_true rfl, rfl, rfl, Nat.le_of_ble_eq_true rfl, rfl, trivial⟩, trivial⟩, by (try simp only); omega⟩
  ·refine Zaq ?_
   rw [List.take_of_length_le (by omega), List.drop_drop]
   rfl
  ·exact congrArg (fun l => some (st8 (Zhc l ((Zbh n x).drop (64 * i))))) (Zxl _ hb8).symm
 ·have hh := of_decide_eq_false hh
  obtain rfl : i = m := by omega
  generalize hbs : ZgO (Zbh n x) s0 i = st at hb8 ⊢
  refine ZbL (Fin 9) (fun j => [(44, .int .i64 (j.1 : Int)), (43, .arr .u32 8 [st.getD 0 0, st.getD 1 0, st.getD 2 0, st.getD 3 0, st.getD 4 0, st.getD 5 0, st.getD 6 0, st.getD 7 0]), (6, .bp 4 0)]) (fun j => ⟨[(4, .arr .u8 32 ((Zkk st).take (4 * j.1) ++ List.replicate (32 - 4 * j.1) 0))], [], 132⟩) (fun j => 8 - j.1) 0 (fun _ => rfl) ?_ ?_
  ·exact ⟨⟨Zc rfl, rfl, Zc rfl, rfl, Zc rfl, rfl, trivial⟩, ⟨rfl, Nat.le_of_ble_eq_true rfl, rfl, trivial⟩, trivial⟩
  rw [← Zxl _ hb8]
  rintro ⟨j, hj⟩
  simp (config := {dsimp := false}) only [↓Zt, vz, vn, nq, Zp, Zh, Zd, Zb, Zg, Za, Zi, Ze, Zj, Zf, if_true, if_false, implies_true, forall_const, ne_eq, reduceIte, reduceCtorEq, Nat.reduceEqDiff, Nat.reduceAdd, Nat.reduceMul, Nat.reduceDiv, Nat.reduceLT, Nat.reduceSub, Nat.reduceLeDiff, Nat.reduceBNe, Nat.reduceBEq, Nat.reduceBeqDiff, List.range, List.range.loop, Zu, Tryd.ntmps113, Tryd.results113]
  refine ⟨fun hh => ?_, fun hh => ?_⟩
  ·have hh := of_decide_eq_true hh
   have e4 : IntKind.wrap .i64 (4 * (j : Int)) = 4 * j := IntWalk.i64_in _ (by omega)
   rw [e4]
   have e5 : IntKind.wrap .i64 (4 * (j : Int) + 1) = 4 * j + 1 := IntWalk.i64_in _ (by omega)
   have e6 : IntKind.wrap .i64 (4 * (j : Int) + 2) = 4 * j + 2 := IntWalk.i64_in _ (by omega)
   have e7 : IntKind.wrap .i64 (4 * (j : Int) + 3) = 4 * j + 3 := IntWalk.i64_in _ (by omega)
   rw [e5, e6, e7]
   refine ⟨by omega, by omega, by decide, by decide, by decide, by omega, by omega, by omega, by omega, by omega, by omega, by omega, by omega, ⟨j + 1, by omega⟩, ⟨⟨Zc ?_, rfl, Zc rfl, rfl, Zc rfl, rfl, trivial⟩, ⟨?_, Nat.le_of_ble_eq_true rfl, rfl, trivial⟩, trivial⟩, by (try simp only); omega⟩
   ·exact Zap (by (try simp only); omega)
   ·refine Ztm ?_
    rw [show (4 * (j : Int) + 1).toNat = 4 * j + 1 by omega, show (4 * (j : Int) + 2).toNat = 4 * j + 2 by omega, show (4 * (j : Int) + 3).toNat = 4 * j + 3 by omega, show (4 * (j : Int)).toNat = 4 * j by omega]
    exact Zy8 (Zkk st) j (Zji st) (by omega) _ _ _ _ (ZiM st j 0 (by omega) (by omega)) (ZiM st j 1 (by omega) (by omega)) (ZiM st j 2 (by omega) (by omega)) (ZiM st j 3 (by omega) (by omega))
  ·have hh := of_decide_eq_false hh
   obtain rfl : j = 8 := by omega
   subst hbs hst
   have : (Zbh n x).length / 64 = i := by omega
   rw [List.take_of_length_le (by rw [Zji]; decide)]
   simp [ZiI, this, Zl]
theorem ZwD : Zw E 98 := by
 refine Zy hE hgl (show E.P.funcs[98]? = some Tryd.f98 from Tryd.func98) rfl (p := Zhw) (fun _ _ _ => rfl) ?_
 intro args hv
 unfold Zhw at hv ⊢
 split at hv
 case h_2 => exact hv.elim
 rename_i b
 refine ⟨by simp, Nat.le_of_ble_eq_true rfl, ?_⟩
 simp only [Zl] at hv
 simp (config := {dsimp := false}) only [↓Zt, vz, vn, nq, Zp, Zh, Zd, Zb, Zg, Za, Zi, Ze, Zj, Zf, if_true, if_false, implies_true, forall_const, ne_eq, reduceIte, reduceCtorEq, Nat.reduceEqDiff, Nat.reduceAdd, Nat.reduceMul, Nat.reduceDiv, Nat.reduceLT, Nat.reduceSub, Nat.reduceLeDiff, Nat.reduceBNe, Nat.reduceBEq, Nat.reduceBeqDiff, List.range, List.range.loop, Zu, Tryd.ntmps98, Tryd.results98, PF.toR, gives, Zl, ZnP, h0, Zqa, Zfw, ZvH, Zwu, ZnE, Zet, ZtB, Zvq]
 exact ⟨hv, by decide, by decide, by decide, rfl⟩
theorem ZvZ : Zw E 97 := by
 refine Zy hE hgl (show E.P.funcs[97]? = some Tryd.f97 from Tryd.func97) rfl (p := Zfr) (fun _ _ _ => rfl) ?_
 intro args hv
 unfold Zfr at hv ⊢
 split at hv
 case h_2 => exact hv.elim
 rename_i h
 refine ⟨by simp, Nat.le_of_ble_eq_true rfl, ?_⟩
 simp only [Zl] at hv
 simp (config := {dsimp := false}) only [↓Zt, vz, vn, nq, Zp, Zh, Zd, Zb, Zg, Za, Zi, Ze, Zj, Zf, if_true, if_false, implies_true, forall_const, ne_eq, reduceIte, reduceCtorEq, Nat.reduceEqDiff, Nat.reduceAdd, Nat.reduceMul, Nat.reduceDiv, Nat.reduceLT, Nat.reduceSub, Nat.reduceLeDiff, Nat.reduceBNe, Nat.reduceBEq, Nat.reduceBeqDiff, List.range, List.range.loop, Zu, Tryd.ntmps97, Tryd.results97, PF.toR, gives, Zl, ZnY, Zhw, ZwD, ZwH]
 have e : List.take ((32 : Nat) - 0 : Int).toNat (List.drop (Int.toNat 0) h) = h := by
  rw [show Int.toNat 0 = 0 from rfl, List.drop_zero]
  exact List.take_of_length_le (by rw [hv]; decide)
 rw [e]
 exact ⟨by decide, by decide, by decide, by omega, rfl⟩
theorem Zrw : Zw E 87 := by
 refine Zy hE hgl (show E.P.funcs[87]? = some Tryd.f87 from Tryd.func87) rfl (p := Zex) (fun _ _ _ => rfl) ?_
 intro args hv
 unfold Zex at hv ⊢
 split at hv
 case h_2 => exact hv.elim
 rename_i b
 refine ⟨by simp, Nat.le_of_ble_eq_true rfl, ?_⟩
 simp only [Zl] at hv
 simp (config := {dsimp := false}) only [↓Zt, vz, vn, nq, Zp, Zh, Zd, Zb, Zg, Za, Zi, Ze, Zj, Zf, if_true, if_false, implies_true, forall_const, ne_eq, reduceIte, reduceCtorEq, Nat.reduceEqDiff, Nat.reduceAdd, Nat.reduceMul, Nat.reduceDiv, Nat.reduceLT, Nat.reduceSub, Nat.reduceLeDiff, Nat.reduceBNe, Nat.reduceBEq, Nat.reduceBeqDiff, List.range, List.range.loop, Zu, Tryd.ntmps87, Tryd.results87, PF.toR, gives, Zl, ZnY, Zhw, ZwD, ZwH, Zp8, Zfr, ZvZ, ZvQ]
 exact ⟨hv, Zji _⟩
end Go.Vi.CO
end

section
namespace Go.Vi.CO
open Go.Proofs
theorem ZwK {b : List Int} {t : TxP} {f : Bool} (h : Za4 t = 0) : Zwe b t f = .tup [.sli .no .u8 (b ++ Zh6 t f), .int .i64 0] := if_pos h
theorem Zxy {b : List Int} {t : TxP} {f : Bool} (h : ¬ Za4 t = 0) : Zwe b t f = .tup [.sl .full 0 [], .int .i64 (Za4 t)] := if_neg h
theorem ZrV : Zw E 69 := by
 refine Zy hE hgl (show E.P.funcs[69]? = some Tryd.f69 from Tryd.func69) rfl (p := ZeD) (fun _ _ _ => rfl) ?_
 intro args hv
 unfold ZeD at hv ⊢
 split at hv
 case h_2 => exact hv.elim
 rename_i b e
 refine ⟨by simp, Nat.le_of_ble_eq_true rfl, ?_⟩
 simp only [Zl] at hv
 by_cases h : e = 0
 ·subst h
  simp (config := {dsimp := false}) only [↓Zt, vz, vn, nq, Zp, Zh, Zd, Zb, Zg, Za, Zi, Ze, Zj, Zf, if_true, if_false, implies_true, forall_const, ne_eq, reduceIte, reduceCtorEq, Nat.reduceEqDiff, Nat.reduceAdd, Nat.reduceMul, Nat.reduceDiv, Nat.reduceLT, Nat.reduceSub, Nat.reduceLeDiff, Nat.reduceBNe, Nat.reduceBEq, Nat.reduceBeqDiff, List.range, List.range.loop, Zu, Tryd.ntmps69, Tryd.results69, PF.toR, Zl, eq_self, decide_true, ZjK, Zex, Zrw, Zrb]
  exact hv
 ·simp (config := {dsimp := false}) only [↓Zt, vz, vn, nq, Zp, Zh, Zd, Zb, Zg, Za, Zi, Ze, Zj, Zf, if_true, if_false, implies_true, forall_const, ne_eq, reduceIte, reduceCtorEq, Nat.reduceEqDiff, Nat.reduceAdd, Nat.reduceMul, Nat.reduceDiv, Nat.reduceLT, Nat.reduceSub, Nat.reduceLeDiff, Nat.reduceBNe, Nat.reduceBEq, Nat.reduceBeqDiff, List.range, List.range.loop, Zu, Tryd.ntmps69, Tryd.results69, PF.toR, Zl, h, decide_false, ZjK, Zex, Zrw, Zrb]
  all_goals rfl
end Go.Vi.CO
end

section
namespace Go.Vi.CO
open Go.Proofs
end Go.Vi.CO
end

section
namespace Go.Vi.CO
open Go.Proofs
end Go.Vi.CO
end

section
namespace Go.Vi.CO
open Go.Proofs
end Go.Vi.CO
end

section
namespace Go.Vi.CO
open Go.Proofs
end Go.Vi.CO
end

section
namespace Go.Vi.CO
open Go.Proofs
end Go.Vi.CO
end

section
namespace Go.Vi.CO
open Go.Proofs
end Go.Vi.CO
end

section
namespace Go.Vi.CO
open Go.Proofs
end Go.Vi.CO
end

section
namespace Go.Vi.CO
open Go.Proofs
theorem ZqE : Zw E 70 := by
 refine Zy hE hgl (show E.P.funcs[70]? = some Tryd.f70 from Tryd.func70) rfl (p := ZeE) (fun _ _ _ => rfl) ?_
 intro args hv
 unfold ZeE at hv ⊢
 split at hv
 case h_2 => exact hv.elim
 rename_i b v is os l
 refine ⟨by simp, Nat.le_of_ble_eq_true rfl, ?_⟩
 simp only [Zl] at hv
 obtain ⟨hok, hb⟩ := hv
 obtain ⟨t, rfl, rfl, rfl, rfl, ht, -⟩ := Zl6 hok
 have eta : (⟨t.ver, t.ins, t.outs, t.lock⟩ : TxP) = t := rfl
 have hc : okT t.ver (Zct t.ins) (Za1 t.outs) t.lock := hok
 by_cases h : Za4 t = 0
 ·have hlen := Zqx ht h false
  have hd : decide (Za4 t = 0) = true := decide_eq_true h
  simp (config := {dsimp := false}) only [↓Zt, vz, vn, nq, Zp, Zh, Zd, Zb, Zg, Za, Zi, Ze, Zj, Zf, if_true, if_false, implies_true, forall_const, ne_eq, reduceIte, reduceCtorEq, Nat.reduceEqDiff, Nat.reduceAdd, Nat.reduceMul, Nat.reduceDiv, Nat.reduceLT, Nat.reduceSub, Nat.reduceLeDiff, Nat.reduceBNe, Nat.reduceBEq, Nat.reduceBeqDiff, List.range, List.range.loop, Zu, Tryd.ntmps70, Tryd.results70, vb, PF.toR, Zl, eta, hd, ZwK h, Ziq, ZcM, ZoZ, Zpg, ZsE, Zhe, ZxT, Zyn]
  exact ⟨hc, hc, by simp only [List.length_append]; omega⟩
 ·have hd : decide (Za4 t = 0) = false := decide_eq_false h
  simp (config := {dsimp := false}) only [↓Zt, vz, vn, nq, Zp, Zh, Zd, Zb, Zg, Za, Zi, Ze, Zj, Zf, if_true, if_false, implies_true, forall_const, ne_eq, reduceIte, reduceCtorEq, Nat.reduceEqDiff, Nat.reduceAdd, Nat.reduceMul, Nat.reduceDiv, Nat.reduceLT, Nat.reduceSub, Nat.reduceLeDiff, Nat.reduceBNe, Nat.reduceBEq, Nat.reduceBeqDiff, List.range, List.range.loop, Zu, Tryd.ntmps70, Tryd.results70, PF.toR, Zl, eta, hd, Zxy h, Ziq, ZcM, ZoZ, Zpg]
  exact hc
theorem Zxc : Zw E 54 := by
 refine Zy hE hgl (show E.P.funcs[54]? = some Tryd.f54 from Tryd.func54) rfl (p := ZgG) (fun _ _ _ => rfl) ?_
 intro args hv
 unfold ZgG at hv ⊢
 split at hv
 case h_2 => exact hv.elim
 rename_i v is os l
 refine ⟨by simp, Nat.le_of_ble_eq_true rfl, ?_⟩
 simp only [Zl] at hv
 have hok := hv
 obtain ⟨t, rfl, rfl, rfl, rfl, ht, -⟩ := Zl6 hok
 have eta : (⟨t.ver, t.ins, t.outs, t.lock⟩ : TxP) = t := rfl
 by_cases h : Za4 t = 0
 ·have hlen := Zqx ht h false
  have hf : idP t = ZgC (ZgC (Zh6 t false)) := if_pos h
  simp (config := {dsimp := false}) only [↓Zt, vz, vn, nq, Zp, Zh, Zd, Zb, Zg, Za, Zi, Ze, Zj, Zf, if_true, if_false, implies_true, forall_const, ne_eq, reduceIte, reduceCtorEq, Nat.reduceEqDiff, Nat.reduceAdd, Nat.reduceMul, Nat.reduceDiv, Nat.reduceLT, Nat.reduceSub, Nat.reduceLeDiff, Nat.reduceBNe, Nat.reduceBEq, Nat.reduceBeqDiff, List.range, List.range.loop, Zu, Tryd.ntmps54, Tryd.results54, PF.toR, Zl, eta, ZwK h, hf, eq_self, Zj4, ZeE, ZqE, Zqn, ZjP, ZeD, ZrV, ZrE]
  exact ⟨hok, by omega⟩
 ·have hf : idP t = List.replicate 32 0 := if_neg h
  simp (config := {dsimp := false}) only [↓Zt, vz, vn, nq, Zp, Zh, Zd, Zb, Zg, Za, Zi, Ze, Zj, Zf, if_true, if_false, implies_true, forall_const, ne_eq, reduceIte, reduceCtorEq, Nat.reduceEqDiff, Nat.reduceAdd, Nat.reduceMul, Nat.reduceDiv, Nat.reduceLT, Nat.reduceSub, Nat.reduceLeDiff, Nat.reduceBNe, Nat.reduceBEq, Nat.reduceBeqDiff, List.range, List.range.loop, Zu, Tryd.ntmps54, Tryd.results54, PF.toR, Zl, eta, Zxy h, hf, h, Zj4, ZeE, ZqE, Zqn, ZjP, ZeD, ZrV, ZrE]
  exact hok
end Go.Vi.CO
end

section
namespace Go.Vi.CO
open Go.Proofs
end Go.Vi.CO
end

section
namespace Go.Vi.CO
open Go.Proofs
theorem ZaR {n : Int} (h1 : -9223372036854775808 ≤ n) (h2 : n ≤ 9223372036854775807) : IntKind.wrap .i64 n = n := by rw [IntKind.wrap_i64]; omega
theorem Zt8 (p q : List Int) (i j : Int) : ZgK E (eqB E 7) 0 [(0, 40), (32, 41)] [D.arr IntKind.u8 32 p, D.int IntKind.u32 i] [D.arr IntKind.u8 32 q, D.int IntKind.u32 j] = some (decide (p = q) && decide (i = j)) := by
 simp [ZgK, eqB, D.size, Zaj, Za6, ZxW, Zx8, ty5]
theorem Zmt : Zw E 57 := by
 refine Zy hE hgl (show E.P.funcs[57]? = some Tryd.f57 from Tryd.func57) rfl (p := Zd4) (fun _ _ _ => rfl) ?_
 intro args hv
 unfold Zd4 at hv ⊢
 split at hv
 case h_2 => exact hv.elim
 rename_i v is os l
 refine ⟨by simp, Nat.le_of_ble_eq_true rfl, ?_⟩
 simp only [Zl] at hv
 obtain ⟨t, rfl, rfl, rfl, rfl, ht⟩ := hv
 have hmo := ht.mo
 simp only [Zdh]
 simp (config := {dsimp := false}) only [↓Zt, vz, vn, nq, Zp, Zh, Zd, Zb, Zg, Za, Zi, Ze, Zj, Zf, if_true, if_false, implies_true, forall_const, ne_eq, reduceIte, reduceCtorEq, Nat.reduceEqDiff, Nat.reduceAdd, Nat.reduceMul, Nat.reduceDiv, Nat.reduceLT, Nat.reduceSub, Nat.reduceLeDiff, Nat.reduceBNe, Nat.reduceBEq, Nat.reduceBeqDiff, List.range, List.range.loop, Zu, Tryd.ntmps57, Tryd.results57]
 refine ZbL {p : Nat × Int // p.1 ≤ t.outs.length ∧ Zb6 0 (t.outs.take p.1) = some p.2 ∧ 0 ≤ p.2 ∧ p.2 ≤ 2100000000000000} (fun p => [(10, .int .i64 (p.1.1 : Nat)), (9, .int .i64 (t.outs.length : Nat)), (8, .sl .no 2 (Za1 t.outs)), (4, .int .i64 p.1.2), (1, .bp 0 0)]) (fun _ => ⟨[(0, .agg [.int .u32 t.ver, .sl .no 36 (Zct t.ins), .sl .no 2 (Za1 t.outs), .int .u32 t.lock])], [], 32⟩) (fun p => t.outs.length - p.1.1) ⟨(0, 0), by simp [Zb6]⟩ (fun _ => rfl) ?_ ?_
 ·exact ⟨⟨Zc rfl, rfl, Zc rfl, rfl, Zc rfl, rfl, Zc rfl, rfl, Zc rfl, rfl, trivial⟩, ⟨rfl, Nat.le_of_ble_eq_true rfl, rfl, trivial⟩, trivial⟩
 rintro ⟨⟨k, s⟩, hk, hs, hs0, hs1⟩
 simp only at hk hs hs0 hs1
 simp (config := {dsimp := false}) only [↓Zt, vz, vn, nq, Zp, Zh, Zd, Zb, Zg, Za, Zi, Ze, Zj, Zf, if_true, if_false, implies_true, forall_const, ne_eq, reduceIte, reduceCtorEq, Nat.reduceEqDiff, Nat.reduceAdd, Nat.reduceMul, Nat.reduceDiv, Nat.reduceLT, Nat.reduceSub, Nat.reduceLeDiff, Nat.reduceBNe, Nat.reduceBEq, Nat.reduceBeqDiff, List.range, List.range.loop, Zu, Tryd.ntmps57, Tryd.results57]
 refine ⟨fun hh => ?_, fun hh => ?_⟩
 case refine_2 =>
  have hh := of_decide_eq_false hh
  obtain rfl : k = t.outs.length := by omega
  rw [List.take_of_length_le (Nat.le_refl _)] at hs
  simp (config := {dsimp := false}) only [↓Zt, vz, vn, nq, Zp, Zh, Zd, Zb, Zg, Za, Zi, Ze, Zj, Zf, if_true, if_false, implies_true, forall_const, ne_eq, reduceIte, reduceCtorEq, Nat.reduceEqDiff, Nat.reduceAdd, Nat.reduceMul, Nat.reduceDiv, Nat.reduceLT, Nat.reduceSub, Nat.reduceLeDiff, Nat.reduceBNe, Nat.reduceBEq, Nat.reduceBeqDiff, List.range, List.range.loop, Zu, Tryd.ntmps57, Tryd.results57, hs, Zkd, Zl]
  all_goals rfl
 have hh := of_decide_eq_true hh
 have hk' : k < t.outs.length := by omega
 have g0 := ZfK t.outs k hk'
 have hno := Zws hk' hs
 have hyes := Zs4 hk' hs
 have hv64 := (ht.outs _ (ZaI hk')).value
 generalize t.outs.getD k default = x at *
 by_cases c1 : x.value < 0
 ·have d1 : decide (x.value < 0) = true := decide_eq_true c1
  simp (config := {dsimp := false}) only [↓Zt, vz, vn, nq, Zp, Zh, Zd, Zb, Zg, Za, Zi, Ze, Zj, Zf, if_true, if_false, implies_true, forall_const, ne_eq, reduceIte, reduceCtorEq, Nat.reduceEqDiff, Nat.reduceAdd, Nat.reduceMul, Nat.reduceDiv, Nat.reduceLT, Nat.reduceSub, Nat.reduceLeDiff, Nat.reduceBNe, Nat.reduceBEq, Nat.reduceBeqDiff, List.range, List.range.loop, Zu, Tryd.ntmps57, Tryd.results57, Int.toNat_natCast, g0, Ze1, d1, hno (.inl c1), Zkd, Zl]
  exact ⟨by omega, by omega⟩
 have d1 : decide (x.value < 0) = false := decide_eq_false c1
 by_cases c2 : 2100000000000000 < x.value
 ·have d2 : decide (2100000000000000 < x.value) = true := decide_eq_true c2
  simp (config := {dsimp := false}) only [↓Zt, vz, vn, nq, Zp, Zh, Zd, Zb, Zg, Za, Zi, Ze, Zj, Zf, if_true, if_false, implies_true, forall_const, ne_eq, reduceIte, reduceCtorEq, Nat.reduceEqDiff, Nat.reduceAdd, Nat.reduceMul, Nat.reduceDiv, Nat.reduceLT, Nat.reduceSub, Nat.reduceLeDiff, Nat.reduceBNe, Nat.reduceBEq, Nat.reduceBeqDiff, List.range, List.range.loop, Zu, Tryd.ntmps57, Tryd.results57, Int.toNat_natCast, g0, Ze1, d1, d2, hno (.inr (.inl c2)), Zkd, Zl]
  exact ⟨by omega, by omega⟩
 have d2 : decide (2100000000000000 < x.value) = false := decide_eq_false c2
 have hw : IntKind.wrap .i64 (s + x.value) = s + x.value := ZaR (by omega) (by omega)
 by_cases c3 : 2100000000000000 < s + x.value
 ·have d3 : decide (2100000000000000 < s + x.value) = true := decide_eq_true c3
  simp (config := {dsimp := false}) only [↓Zt, vz, vn, nq, Zp, Zh, Zd, Zb, Zg, Za, Zi, Ze, Zj, Zf, if_true, if_false, implies_true, forall_const, ne_eq, reduceIte, reduceCtorEq, Nat.reduceEqDiff, Nat.reduceAdd, Nat.reduceMul, Nat.reduceDiv, Nat.reduceLT, Nat.reduceSub, Nat.reduceLeDiff, Nat.reduceBNe, Nat.reduceBEq, Nat.reduceBeqDiff, List.range, List.range.loop, Zu, Tryd.ntmps57, Tryd.results57, Int.toNat_natCast, g0, Ze1, d1, d2, hw, d3, hno (.inr (.inr c3)), Zkd, Zl]
  exact ⟨by omega, by omega⟩
 have d3 : decide (2100000000000000 < s + x.value) = false := decide_eq_false c3
 simp (config := {dsimp := false}) only [↓Zt, vz, vn, nq, Zp, Zh, Zd, Zb, Zg, Za, Zi, Ze, Zj, Zf, if_true, if_false, implies_true, forall_const, ne_eq, reduceIte, reduceCtorEq, Nat.reduceEqDiff, Nat.reduceAdd, Nat.reduceMul, Nat.reduceDiv, Nat.reduceLT, Nat.reduceSub, Nat.reduceLeDiff, Nat.reduceBNe, Nat.reduceBEq, Nat.reduceBeqDiff, List.range, List.range.loop, Zu, Tryd.ntmps57, Tryd.results57, Int.toNat_natCast, g0, Ze1, d1, d2, d3, hw]
 refine ⟨by omega, by omega, ⟨(k + 1, s + x.value), by simp only; omega, hyes ?_, by simp only; omega, by simp only; omega⟩, ⟨⟨Zc ?_, rfl, Zc rfl, rfl, Zc rfl, rfl, Zc rfl, rfl, Zc rfl, rfl, trivial⟩, ⟨rfl, Nat.le_of_ble_eq_true rfl, rfl, trivial⟩, trivial⟩, by (try simp only); omega⟩
 ·unfold ZuU; omega
 ·exact Zap (by (try simp only); omega)
theorem Zu6 : Zw E 48 := by
 refine Zy hE hgl (show E.P.funcs[48]? = some Tryd.f48 from Tryd.func48) rfl (p := Zgo) (fun _ _ _ => rfl) ?_
 intro args hv
 unfold Zgo at hv ⊢
 split at hv
 case h_2 => exact hv.elim
 rename_i t i b h c v s
 refine ⟨by simp, Nat.le_of_ble_eq_true rfl, ?_⟩
 simp only [Zl] at hv
 have hf := Zrn s
 simp (config := {dsimp := false}) only [↓Zt, vz, vn, nq, Zp, Zh, Zd, Zb, Zg, Za, Zi, Ze, Zj, Zf, if_true, if_false, implies_true, forall_const, ne_eq, reduceIte, reduceCtorEq, Nat.reduceEqDiff, Nat.reduceAdd, Nat.reduceMul, Nat.reduceDiv, Nat.reduceLT, Nat.reduceSub, Nat.reduceLeDiff, Nat.reduceBNe, Nat.reduceBEq, Nat.reduceBeqDiff, List.range, List.range.loop, Zu, Tryd.ntmps48, Tryd.results48, PF.toR, Zl, hf, vb, Zag, ZbQ, Zbx, Zd3, Zd9]
 exact ⟨.inl ⟨rfl, rfl⟩, hv⟩
theorem Zk9 : Zw E 27 := by
 refine Zy hE hgl (show E.P.funcs[27]? = some Tryd.f27 from Tryd.func27) rfl (p := ZdG) (fun _ _ _ => rfl) ?_
 intro args hv
 unfold ZdG at hv ⊢
 split at hv
 case h_2 => exact hv.elim
 rename_i es t i
 refine ⟨by simp, Nat.le_of_ble_eq_true rfl, ?_⟩
 simp only [Zl] at hv
 obtain ⟨l, rfl, hok, hlen⟩ := hv
 rw [ZrS]
 simp (config := {dsimp := false}) only [↓Zt, vz, vn, nq, Zp, Zh, Zd, Zb, Zg, Za, Zi, Ze, Zj, Zf, if_true, if_false, implies_true, forall_const, ne_eq, reduceIte, reduceCtorEq, Nat.reduceEqDiff, Nat.reduceAdd, Nat.reduceMul, Nat.reduceDiv, Nat.reduceLT, Nat.reduceSub, Nat.reduceLeDiff, Nat.reduceBNe, Nat.reduceBEq, Nat.reduceBeqDiff, List.range, List.range.loop, Zu, Tryd.ntmps27, Tryd.results27]
 refine ZbL {k : Nat // k ≤ l.length ∧ Zah (l.take k) (t, i) = none} (fun k => [(6, .int .i64 (k.1 : Nat)), (4, .bp 8 0), (3, .bp 4 0), (2, .bp 0 0)]) (fun _ => ⟨[(0, .agg [.sl .no 69 (ZN l)]), (4, .agg [.arr .u8 32 t, .int .u32 i]), (8, .agg [.agg [.arr .u8 32 (List.replicate 32 0), .int .u32 0], .arr .u8 32 (List.replicate 32 0), .int .i64 0, .bool false, .agg [.int .i64 0, .sl .full 0 []]])], [], 20⟩) (fun k => l.length - k.1) ⟨0, by simp, rfl⟩ (fun _ => rfl) ?_ ?_
 ·exact ⟨⟨Zc rfl, rfl, Zc rfl, rfl, Zc rfl, rfl, Zc rfl, rfl, trivial⟩, ⟨rfl, Nat.le_of_ble_eq_true rfl, rfl, rfl, Nat.le_of_ble_eq_true rfl, rfl, rfl, Nat.le_of_ble_eq_true rfl, rfl, trivial⟩, trivial⟩
 rintro ⟨k, hk, hb⟩
 simp (config := {dsimp := false}) only [↓Zt, vz, vn, nq, Zp, Zh, Zd, Zb, Zg, Za, Zi, Ze, Zj, Zf, if_true, if_false, implies_true, forall_const, ne_eq, reduceIte, reduceCtorEq, Nat.reduceEqDiff, Nat.reduceAdd, Nat.reduceMul, Nat.reduceDiv, Nat.reduceLT, Nat.reduceSub, Nat.reduceLeDiff, Nat.reduceBNe, Nat.reduceBEq, Nat.reduceBeqDiff, List.range, List.range.loop, Zu, Tryd.ntmps27, Tryd.results27, Zad]
 refine ⟨fun hh => ?_, fun hh => ?_⟩
 case refine_2 =>
  have hh := of_decide_eq_false hh
  obtain rfl : k = l.length := by omega
  rw [List.take_of_length_le (Nat.le_refl _)] at hb
  simp (config := {dsimp := false}) only [↓Zt, vz, vn, nq, Zp, Zh, Zd, Zb, Zg, Za, Zi, Ze, Zj, Zf, if_true, if_false, implies_true, forall_const, ne_eq, reduceIte, reduceCtorEq, Nat.reduceEqDiff, Nat.reduceAdd, Nat.reduceMul, Nat.reduceDiv, Nat.reduceLT, Nat.reduceSub, Nat.reduceLeDiff, Nat.reduceBNe, Nat.reduceBEq, Nat.reduceBeqDiff, List.range, List.range.loop, Zu, Tryd.ntmps27, Tryd.results27, ZgZ, hb, Zd2, Zl]
  all_goals rfl
 have hh := of_decide_eq_true hh
 have hk' : k < l.length := by omega
 have g0 := Zgq l k hk'
 have hc : Zah (l.take (k + 1)) (t, i) = if (l.getD k default).pt = (t, i) then some (l.getD k default) else none := by
  rw [ZgA hk']
  unfold Zah at hb ⊢
  rw [List.find?_append, hb]
  simp only [List.find?_cons, List.find?_nil, Option.none_or, decide_eq_true_eq]
  split <;> simp_all
 have hfull : (l.getD k default).pt = (t, i) → Zah l (t, i) = some (l.getD k default) := fun he => by
  rw [if_pos he] at hc
  have h2 : Zah (l.take (k + 1) ++ l.drop (k + 1)) (t, i) = some (l.getD k default) := by
   unfold Zah at hc ⊢
   rw [List.find?_append, hc]
   rfl
  rwa [List.take_append_drop] at h2
 generalize l.getD k default = c at *
 obtain ⟨ct, ci, cb, ch, cs, cv, cx⟩ := c
 have he := Zt8 ct t ci i
 simp only [CoinP.pt, Prod.mk.injEq] at hc hfull
 refine Zb0 [2, 3, 4, 6] (by kernel_rfl) ?_
 by_cases h1 : ct = t ∧ ci = i
 ·have hd : (decide (ct = t) && decide (ci = i)) = true := by simp [h1]
  have hf := hfull h1
  simp (config := {dsimp := false}) only [↓Zt, vz, vn, nq, Zp, Zh, Zd, Zb, Zg, Za, Zi, Ze, Zj, Zf, if_true, if_false, implies_true, forall_const, ne_eq, reduceIte, reduceCtorEq, Nat.reduceEqDiff, Nat.reduceAdd, Nat.reduceMul, Nat.reduceDiv, Nat.reduceLT, Nat.reduceSub, Nat.reduceLeDiff, Nat.reduceBNe, Nat.reduceBEq, Nat.reduceBeqDiff, List.range, List.range.loop, Zu, Tryd.ntmps27, Tryd.results27, Int.toNat_natCast, g0, Zag, he, hd, ZgZ, Zad]
  refine ⟨by omega, by omega, ?_⟩
  simp (config := {dsimp := false}) only [↓Zt, vz, vn, nq, Zp, Zh, Zd, Zb, Zg, Za, Zi, Ze, Zj, Zf, if_true, if_false, implies_true, forall_const, ne_eq, reduceIte, reduceCtorEq, Nat.reduceEqDiff, Nat.reduceAdd, Nat.reduceMul, Nat.reduceDiv, Nat.reduceLT, Nat.reduceSub, Nat.reduceLeDiff, Nat.reduceBNe, Nat.reduceBEq, Nat.reduceBeqDiff, List.range, List.range.loop, Zu, Tryd.ntmps27, Tryd.results27, Int.toNat_natCast, g0, Zag, hf, Zd2, Zl, Zad]
  exact ⟨by omega, by omega⟩
 ·have hd : (decide (ct = t) && decide (ci = i)) = false := by simpa using h1
  rw [if_neg h1] at hc
  simp (config := {dsimp := false}) only [↓Zt, vz, vn, nq, Zp, Zh, Zd, Zb, Zg, Za, Zi, Ze, Zj, Zf, if_true, if_false, implies_true, forall_const, ne_eq, reduceIte, reduceCtorEq, Nat.reduceEqDiff, Nat.reduceAdd, Nat.reduceMul, Nat.reduceDiv, Nat.reduceLT, Nat.reduceSub, Nat.reduceLeDiff, Nat.reduceBNe, Nat.reduceBEq, Nat.reduceBeqDiff, List.range, List.range.loop, Zu, Tryd.ntmps27, Tryd.results27, Int.toNat_natCast, g0, Zag, he, hd, ZgZ, Zad]
  refine ⟨by omega, by omega, ⟨k + 1, by omega, hc⟩, ⟨⟨Zc ?_, rfl, Zc rfl, rfl, Zc rfl, rfl, Zc rfl, rfl, trivial⟩, ⟨rfl, Nat.le_of_ble_eq_true rfl, rfl, rfl, Nat.le_of_ble_eq_true rfl, rfl, rfl, Nat.le_of_ble_eq_true rfl, rfl, trivial⟩, trivial⟩, by (try simp only); omega⟩
  exact Zap (by (try simp only); omega)
theorem ZaB : Zw E 25 := by
 refine Zy hE hgl (show E.P.funcs[25]? = some Tryd.f25 from Tryd.func25) rfl (p := Z4) (fun _ _ _ => rfl) ?_
 intro args hv
 unfold Z4 at hv ⊢
 split at hv
 case h_2 => exact hv.elim
 rename_i a0 a1 a2 a3 a4 a5 b0 b1 b2 b3 halv sub b4 b5 b6 b7 h
 refine ⟨by simp, Nat.le_of_ble_eq_true rfl, ?_⟩
 simp only [Zl] at hv
 by_cases c1 : h < 0
 ·have d1 : decide (h < 0) = true := decide_eq_true c1
  have e : ZL sub halv h = 0 := if_pos (.inl c1)
  simp (config := {dsimp := false}) only [↓Zt, vz, vn, nq, Zp, Zh, Zd, Zb, Zg, Za, Zi, Ze, Zj, Zf, if_true, if_false, implies_true, forall_const, ne_eq, reduceIte, reduceCtorEq, Nat.reduceEqDiff, Nat.reduceAdd, Nat.reduceMul, Nat.reduceDiv, Nat.reduceLT, Nat.reduceSub, Nat.reduceLeDiff, Nat.reduceBNe, Nat.reduceBEq, Nat.reduceBeqDiff, List.range, List.range.loop, Zu, Tryd.ntmps25, Tryd.results25, d1, e, Zl]
  all_goals rfl
 have d1 : decide (h < 0) = false := decide_eq_false c1
 by_cases c2 : halv < 1
 ·have d2 : decide (halv < 1) = true := decide_eq_true c2
  have e : ZL sub halv h = 0 := if_pos (.inr (.inl c2))
  simp (config := {dsimp := false}) only [↓Zt, vz, vn, nq, Zp, Zh, Zd, Zb, Zg, Za, Zi, Ze, Zj, Zf, if_true, if_false, implies_true, forall_const, ne_eq, reduceIte, reduceCtorEq, Nat.reduceEqDiff, Nat.reduceAdd, Nat.reduceMul, Nat.reduceDiv, Nat.reduceLT, Nat.reduceSub, Nat.reduceLeDiff, Nat.reduceBNe, Nat.reduceBEq, Nat.reduceBeqDiff, List.range, List.range.loop, Zu, Tryd.ntmps25, Tryd.results25, d1, d2, e, Zl]
  all_goals rfl
 have d2 : decide (halv < 1) = false := decide_eq_false c2
 by_cases c3 : sub < 1
 ·have d3 : decide (sub < 1) = true := decide_eq_true c3
  have e : ZL sub halv h = 0 := if_pos (.inr (.inr (.inl c3)))
  simp (config := {dsimp := false}) only [↓Zt, vz, vn, nq, Zp, Zh, Zd, Zb, Zg, Za, Zi, Ze, Zj, Zf, if_true, if_false, implies_true, forall_const, ne_eq, reduceIte, reduceCtorEq, Nat.reduceEqDiff, Nat.reduceAdd, Nat.reduceMul, Nat.reduceDiv, Nat.reduceLT, Nat.reduceSub, Nat.reduceLeDiff, Nat.reduceBNe, Nat.reduceBEq, Nat.reduceBeqDiff, List.range, List.range.loop, Zu, Tryd.ntmps25, Tryd.results25, d1, d2, d3, e, Zl]
  all_goals rfl
 have d3 : decide (sub < 1) = false := decide_eq_false c3
 simp (config := {dsimp := false}) only [↓Zt, vz, vn, nq, Zp, Zh, Zd, Zb, Zg, Za, Zi, Ze, Zj, Zf, if_true, if_false, implies_true, forall_const, ne_eq, reduceIte, reduceCtorEq, Nat.reduceEqDiff, Nat.reduceAdd, Nat.reduceMul, Nat.reduceDiv, Nat.reduceLT, Nat.reduceSub, Nat.reduceLeDiff, Nat.reduceBNe, Nat.reduceBEq, Nat.reduceBeqDiff, List.range, List.range.loop, Zu, Tryd.ntmps25, Tryd.results25, d1, d2, d3]
 have h0 : 0 ≤ h := by omega
 have hq : h.tdiv halv = h / halv := Int.tdiv_eq_ediv_of_nonneg h0
 have hn : 0 ≤ h / halv := Int.ediv_nonneg h0 (by omega)
 have hle : h / halv ≤ h := Int.ediv_le_self _ h0
 have hw : IntKind.wrap .i64 (h.tdiv halv) = h / halv := by
  rw [hq]
  have := hv.2.2
  exact ZaR (by omega) (by omega)
 refine ⟨by omega, fun c4 => ?_, fun c4 => ?_⟩
 ·have c4 := of_decide_eq_true c4
  rw [hw] at c4
  have e : ZL sub halv h = 0 := if_pos (.inr (.inr (.inr c4)))
  simp only [e, Zl]
 have c4 := of_decide_eq_false c4
 rw [hw] at c4
 have e : ZL sub halv h = sub / 2 ^ (h / halv).toNat := if_neg (by omega)
 have e2 : ZeY .i64 sub (h / halv) = sub / 2 ^ (h / halv).toNat := by
  unfold ZeY
  have hm : min (h / halv).toNat (IntKind.bits .i64) = (h / halv).toNat := Nat.min_eq_left (by show _ ≤ 64; omega)
  rw [hm]
  exact Int.fdiv_eq_ediv_of_nonneg _ (Int.le_of_lt (Int.pow_pos (by decide)))
 refine Zb0 [1, 2] (by kernel_rfl) ?_
 simp (config := {dsimp := false}) only [↓Zt, vz, vn, nq, Zp, Zh, Zd, Zb, Zg, Za, Zi, Ze, Zj, Zf, if_true, if_false, implies_true, forall_const, ne_eq, reduceIte, reduceCtorEq, Nat.reduceEqDiff, Nat.reduceAdd, Nat.reduceMul, Nat.reduceDiv, Nat.reduceLT, Nat.reduceSub, Nat.reduceLeDiff, Nat.reduceBNe, Nat.reduceBEq, Nat.reduceBeqDiff, List.range, List.range.loop, Zu, Tryd.ntmps25, Tryd.results25, hw, e, e2, Zl]
 exact ⟨by omega, hn⟩
end Go.Vi.CO
end

section
namespace Go.Vi
open Go.RowKit
def HV (B0 : Nat) (k : IntKind) (v : Value) (xs : List Int) (g : Gh) (w : World) : Prop :=
 (xs = [] ∧ ∃ a, v = .slice a 0 0) ∨ ∃ b ty zs, v = .slice (some ⟨b, 0, none⟩) xs.length (xs ++ zs).length ∧ B0 ≤ b ∧ g.own b = none ∧ g.lim b = 0 ∧ w.heap[b]? = some (.cells (ints k (xs ++ zs)).toArray ty (0, 0))
def Zen (H : Gh → World → Prop) : Prop := ∀ g w g' w', Keeps g w g' w' → H g w → H g' w'
theorem ZvI (B0 : Nat) (k : IntKind) (v : Value) (xs : List Int) : Zen (HV B0 k v xs) := by
 rintro g w g' w' hk (h | ⟨b, ty, zs, h1, h2, h3, h4, h5⟩)
 ·exact .inl h
 ·have hb := Zv h5
  exact .inr ⟨b, ty, zs, h1, h2, by rw [hk.own b hb]; exact h3, by rw [hk.limo b hb h3]; exact h4, by rw [hk.block b hb h3]; exact h5⟩
structure Hush (B0 : Nat) (g : Gh) (w w' : World) : Prop where
 ext : Ext g w g w'
 size : w.heap.size ≤ w'.heap.size
 os : w'.os = w.os
 tape : w'.tape = w.tape
 output : w'.output = w.output
 low : ∀ b, b < B0 → w'.heap[b]? = w.heap[b]?
 oth : ∀ (k : Nat) (o : Obj), w.heap[k]? = some o → o.isCells = false → w'.heap[k]? = some o
theorem Zt1 {B0 : Nat} {g : Gh} {s : S} {w : World} {F : Nat → Prop} (hi : Inv g s w F) {b : Nat} {cs : Array Value} {ty : TypeId} (hB : B0 ≤ b) (hh : w.heap[b]? = some (.cells cs ty (0, 0))) (ho : g.own b = none) (hl : g.lim b = 0) (new : Array Value) :
  Hush B0 g w (w.setRow b new) ∧ Inv g s (w.setRow b new) F := by
 have hbl := Zv hh
 have hx : Ext g w g (w.setRow b new) := {
  lim := fun _ => Nat.le_refl _
  cell := fun b' off h' => cell_setRow_other w b new ⟨b', off, none⟩ (fun e => by simp at e; subst e; omega)
  box := fun _ _ h => h
  tok := fun t a m c h => ⟨a, m, c, h, Nat.le_refl _, fun _ => ⟨rfl, rfl⟩⟩
  own := fun _ _ h => h }
 refine ⟨⟨hx, by simp, rfl, rfl, rfl, fun b' hb' => setRow_other w b b' new (by omega), Zmo (fun b' _ hb' => setRow_other w b b' new hb') (fun o ho => by rw [hh] at ho; cases ho; rfl)⟩, ⟨fun id d h => ?_, fun t n sz h => ?_, hi.fresh, fun b' h' => hi.lim b' (by simpa using h'), fun b' h' => hi.own b' (by simpa using h')⟩⟩
 ·obtain ⟨b', cs', ty', h1, h2, h3, h4, h5⟩ := hi.box id d h
  have hbb : b' ≠ b := fun e => by subst e; rw [ho] at h2; cases h2
  exact ⟨b', cs', ty', h1, h2, h3, by rw [setRow_other w b b' new hbb]; exact h4, h5.ext hx⟩
 ·obtain ⟨a, c, h1, h2, h3⟩ := hi.tok t n sz h
  refine ⟨a, c, h1, h2, h3.imp id ?_⟩
  rintro ⟨b', off, cs', ty', e1, e2, e3, e4, e5⟩
  have hbb : b' ≠ b := fun e => by subst e; rw [ho] at e2; cases e2
  exact ⟨b', off, cs', ty', e1, e2, e3, by rw [setRow_other w b b' new hbb]; exact e4, e5⟩
theorem ZpT {B0 : Nat} {g : Gh} {s : S} {w : World} {F : Nat → Prop} (hi : Inv g s w F) (hB : B0 ≤ w.heap.size) (o : Obj) : Hush B0 g w (w.drew.alloc o) ∧ Inv g s (w.drew.alloc o) F := by
 have hid := hi.drew
 have hkd := ZcW g w
 have hk := Zcl (g' := g) hid o (fun _ _ h => h) (fun _ _ h => h) (fun _ _ => rfl) (fun _ _ => rfl)
 have hx := hkd.trans hk
 have hs : w.drew.heap.size = w.heap.size := rfl
 exact ⟨⟨hx.ext, hx.size, hx.os, hx.tape, hx.output, fun b hb => by rw [ZbW (by rw [hs]; omega)]; rfl, hx.oth⟩, ZdE hid o hk hi.fresh (fun _ _ => rfl) (fun _ _ => rfl) (fun _ _ h => h)⟩
theorem Zeu (k : IntKind) (a b : List Int) : ints k (a ++ b) = ints k a ++ ints k b := by simp [ints]
theorem Zsw {P : Program} {B0 : Nat} {k : IntKind} {v y : Value} {xs ys : List Int} {g : Gh} {s : S} {w : World} {F : Nat → Prop} {t t2 e ty : TypeId} {inf : TypeInfo} (hi : Inv g s w F) (hB : B0 ≤ w.heap.size) (h : HV B0 k v xs g w)
  (ht : P.underlying t = some (.slice e)) (hinf : P.info? e = some inf) (hsz : inf.size = 1) (hz : inf.zero = some (.int k 0)) (hs : Src P w t2 1 y ys.length (ints k ys))
  (hb : (xs.length + ys.length) * inf.bytes ≤ 140737488355328) (hn : xs.length + ys.length ≤ 140737488355328) :
  ∃ v' w', (Builtin.append_ #[t, t2] ty #[v, y]).run P w = .ok v' w' ∧ HV B0 k v' (xs ++ ys) g w' ∧ Hush B0 g w w' ∧ Inv g s w' F := by
 have hrefl : Hush B0 g w w := ⟨Ext.refl g w, Nat.le_refl _, rfl, rfl, rfl, fun _ _ => rfl, fun _ _ h _ => h⟩
 have hz1 : ∀ n, (Builtin.zeroCells #[Value.int k 0] n).toList = ints k (List.replicate n 0) := ZlT k
 have out : ∀ (a : Option Addr) (c : Nat), v = .slice a xs.length c → c < xs.length + ys.length → (∀ w1, (∀ ad, w1.cell? ad = w.cell? ad) → (Builtin.firstCells 1 xs.length (.slice a xs.length c)).run P w1 = .ok (ints k xs).toArray w1) →
   ∃ v' w', (Builtin.append_ #[t, t2] ty #[v, y]).run P w = .ok v' w' ∧ HV B0 k v' (xs ++ ys) g w' ∧ Hush B0 g w w' ∧ Inv g s w' F := by
  intro a c hv hroom hold
  have hrun := ZbN (P := P) (t := t) (ty := ty) ht hinf hsz hz hs hold hroom hb hn
  rw [← hv] at hrun
  obtain ⟨h1, h2⟩ := ZpT (B0 := B0) hi hB (.cells (ints k xs ++ ints k ys ++ (Builtin.zeroCells (Value.int k 0).cells (grownCap w (xs.length + ys.length) c e - (xs.length + ys.length))).toList).toArray e)
  have hg := grownCap_ge w (xs.length + ys.length) c e
  refine ⟨_, _, hrun, .inr ⟨w.heap.size, e, List.replicate (grownCap w (xs.length + ys.length) c e - (xs.length + ys.length)) 0, ?_, hB, hi.own _ (Nat.le_refl _), hi.lim _ (Nat.le_refl _), ?_⟩, h1, h2⟩
  ·congr 1
   ·simp
   ·simp; omega
  ·rw [show (Value.int k 0).cells = #[Value.int k 0] from rfl, hz1, Zeu, Zeu]
   exact heap_alloc_new w.drew _
 rcases h with ⟨rfl, a, rfl⟩ | ⟨b, tyb, zs, rfl, h2, h3, h4, h5⟩
 ·by_cases hy : ys = []
  ·subst hy
   have hrun := ZbB (P := P) (t := t) (ty := ty) (a := a) (n := 0) (c := 0) ht hinf hsz hs (Nat.le_refl _)
   refine ⟨.slice a 0 0, w, ?_, .inl ⟨rfl, a, rfl⟩, hrefl, hi⟩
   rw [hrun]
   unfold ZcA
   cases a <;> simp [ints, storeCells, Result.andThen]
  ·exact out a 0 rfl (by have := List.length_pos_iff.2 hy; simpa using this) (fun w1 _ => by cases a <;> simp [Builtin.firstCells, ints, loadCells, loadCellsFrom])
 ·have hat : At w b 0 (ints k xs) := by
   have := Zcj (pre := []) (mid := ints k xs) (post := ints k zs) h5 (by simp [Zeu])
   simpa using this
  by_cases hroom : xs.length + ys.length ≤ (xs ++ zs).length
  ·have hrun := ZbB (P := P) (t := t) (ty := ty) (a := some ⟨b, 0, none⟩) ht hinf hsz hs hroom
   have hst := run_storeCells_at (P := P) b (xs.length) tyb (ints k ys) 0 (ints k (xs ++ zs)).toArray w h5 (by simp [ints] at hroom ⊢; omega) (Zcf _ _)
   obtain ⟨h6, h7⟩ := Zt1 (B0 := B0) hi h2 h5 h3 h4 (ints k (xs ++ ys ++ zs.drop ys.length)).toArray
   have e1 : (ints k (xs ++ zs)).take xs.length ++ ints k ys ++ (ints k (xs ++ zs)).drop (xs.length + ys.length) = ints k (xs ++ ys ++ zs.drop ys.length) := by
    rw [Zeu, Zeu, Zeu, List.take_append_of_le_length (by simp [ints]), List.take_of_length_le (by simp [ints]), List.drop_append, List.drop_of_length_le (by simp [ints])]
    simp [ints, List.map_drop]
   refine ⟨.slice (some ⟨b, 0, none⟩) (xs.length + ys.length) (xs ++ zs).length, _, ?_, .inr ⟨b, tyb, zs.drop ys.length, ?_, h2, h3, h4, ?_⟩, h6, h7⟩
   ·rw [hrun]
    unfold ZcA
    simp only [ZaS, Nat.zero_add, Nat.mul_one]
    simp only [Nat.add_zero] at hst
    have e2 : (ints k ys).length = ys.length := by simp [ints]
    rw [e2] at hst
    rw [hst, e1]
    rfl
   ·simp at hroom
    congr 1
    ·simp
    ·simp; omega
   ·exact setRow_heap w b _ _ tyb _ h5
  ·exact out (some ⟨b, 0, none⟩) _ rfl (by omega) (fun w1 hw => by
    have := run_loadCells_list (P := P) w1 ⟨b, 0, none⟩ (ints k xs) (fun j v hj => by
     rw [ZaS, hw]
     exact hat j v hj)
    have e2 : (ints k xs).length = xs.length := by simp [ints]
    rw [e2] at this
    simp only [Builtin.firstCells, Nat.mul_one, this])
theorem Zuo {E : Env} (hE : EnvOk E) {N : Nat} {ops : Array Oper} {K : List (Nat × D) → S → Prop} {Q : Exit → Act → World → Prop} {r : Option Nat} {m : Nat} {l2 : List Oper} :
  ∀ (rest : List Oper) (i nm : Nat) (sl : List (Nat × D)) (s : S) (g : Gh) (w : World) (a : Act), ops.toList.drop i = rest ++ l2 → Zer E N ops.toList K rest nm sl s → a.tmps.size = N → ZJ g w sl a → ZO E g w → Inv g s w (after nm) →
   (∀ sl' s' g' w' a', K sl' s' → a'.tmps.size = N → ZJ g' w' sl' a' → Inv g' s' w' (after (nm + 4 * rest.length)) → Keeps g w g' w' → a'.defers = a.defers → wpOpsIn (FR r) m E.P ops Q (List.range' (i + rest.length) (ops.size - (i + rest.length))) a' w') → wpOpsIn (FR r) m E.P ops Q (List.range' i (ops.size - i)) a w := by
 intro rest
 induction rest with
 | nil =>
  intro i nm sl s g w a hd h hN hs hg hi hQ
  exact hQ sl s g w a h hN hs (by simpa using hi) (Keeps.refl g w) rfl
 | cons o rest ih =>
  intro i nm sl s g w a hd h hN hs hg hi hQ
  have hlt : i < ops.size := by
   have := congrArg List.length hd
   simp at this; omega
  have ho : ops[i]? = some o := by
   have := congrArg (·[0]?) hd
   simpa [List.getElem?_drop] using this
  have hd' : ops.toList.drop (i + 1) = rest ++ l2 := by
   have := congrArg (List.drop 1) hd
   simpa [List.drop_drop, Nat.add_comm] using this
  have er : ops.size - i = (ops.size - (i + 1)) + 1 := by omega
  have hQ' : ∀ sl' s' g' w' a', K sl' s' → a'.tmps.size = N → ZJ g' w' sl' a' → Inv g' s' w' (after (nm + 4 + 4 * rest.length)) → Keeps g w g' w' → a'.defers = a.defers → wpOpsIn (FR r) m E.P ops Q (List.range' (i + 1 + rest.length) (ops.size - (i + 1 + rest.length))) a' w' := fun sl' s' g' w' a' h1 h2 h3 h4 h5 h6 => by
   have := hQ sl' s' g' w' a' h1 h2 h3 (by simp only [List.length_cons]; rw [show nm + 4 * (rest.length + 1) = nm + 4 + 4 * rest.length by omega]; exact h4) h5 h6
   simp only [List.length_cons] at this
   rw [show i + 1 + rest.length = i + (rest.length + 1) by omega]
   exact this
  rw [er, List.range'_succ]
  simp only [wpOpsIn, ho]
  obtain ⟨hdst, h⟩ := h
  have run : ∀ sl1, ZJ g w sl1 a → (opR E s nm sl1 o.op).then (fun v u t => Zer E N ops.toList K rest (nm + 4) (ZaQ o.dst v sl1) (ZbF s u t)) → o.wpIn (FR r) m E.P a w (wpOpsIn (FR r) m E.P ops Q (List.range' (i + 1) (ops.size - (i + 1)))) Q := by
   intro sl1 hs1 hr
   obtain ⟨hvc, hk⟩ := hr
   refine Zb7 (ZfS hvc) (Zhn hE hs1 hg hvc hi (ZcZ nm) _ _ fun v g' w' hrep hi' hkp => ?_)
   refine ih (i + 1) (nm + 4) _ _ g' w' _ hd' hk (by rw [Za2]; exact hN) (Zbo (hs1.ext hkp.ext) (by rw [hN]; exact hdst) hrep) (hg.ext hkp.ext) (hi'.less fun j hj => ⟨by unfold after at *; omega, by unfold after at hj; omega⟩) ?_
   intro sl' s' g2 w2 a' hK hN' hs' hi2 hk2 hdf
   exact hQ' sl' s' g2 w2 a' hK hN' hs' hi2 (hkp.trans hk2) (hdf.trans (Zbe a o.dst v))
  cases hgd : o.guard with
  | none =>
   simp only [hgd] at h
   simp only [Region.wanted, hgd, if_true]
   exact run sl hs h
  | some jw =>
   obtain ⟨j, want⟩ := jw
   simp only [hgd] at h
   unfold Zm8 at h
   cases hy : ZeQ ops.toList sl j with
   | none => simp [hy] at h
   | some r =>
    simp only [hy] at h
    cases r with
    | none =>
     simp only at h
     have hw : (none == some want) = false := rfl
     simp only [Region.wanted, hgd, Ziw hs hy, hw, Bool.false_eq_true, if_false]
     refine ⟨fun _ _ => trivial, ?_⟩
     refine ih (i + 1) (nm + 4) _ _ g w _ hd' h (by rw [Za2]; exact hN) (Zbo hs (by rw [hN]; exact hdst) (Zhl _ _)) hg (hi.less fun j hj => by unfold after at *; omega) ?_
     intro sl' s' g2 w2 a' hK hN' hs' hi2 hk2 hdf
     exact hQ' sl' s' g2 w2 a' hK hN' hs' hi2 hk2 (hdf.trans (Zbe a o.dst undef))
    | some db =>
    obtain ⟨d, b⟩ := db
    simp only at h
    obtain ⟨hyl, hs1⟩ := Zfg hs (Zio hy)
    by_cases hb : b = want
    ·subst hb
     simp only [Region.wanted, hgd, hyl, beq_self_eq_true, if_true]
     exact run _ hs1 (h.1 rfl)
    ·have hb' : b = !want := by cases b <;> cases want <;> simp_all
     have hw : (some b == some want) = false := by subst hb'; cases want <;> rfl
     simp only [Region.wanted, hgd, hyl, hw, Bool.false_eq_true, if_false]
     subst hb'
     refine ⟨fun _ _ => trivial, ?_⟩
     refine ih (i + 1) (nm + 4) _ _ g w _ hd' (h.2 rfl) (by rw [Za2]; exact hN) (Zbo hs1 (by rw [hN]; exact hdst) (Zhl _ _)) hg (hi.less fun j hj => by unfold after at *; omega) ?_
     intro sl' s' g2 w2 a' hK hN' hs' hi2 hk2 hdf
     exact hQ' sl' s' g2 w2 a' hK hN' hs' hi2 hk2 (hdf.trans (Zbe a o.dst undef))
theorem Zy7 {E : Env} {N B0 : Nat} {k : IntKind} {v : Value} {xs : List Int} {sl : List (Nat × D)} {s : S} {g : Gh} {a : Act} {w : World} {t : Nat} (hk : Know E N sl s g a w) (hh : HV B0 k v xs g w) (hne : xs ≠ []) (ht : Zm sl t = some (.raw v)) {g0 : Gh} {w0 : World} (hp : Keeps g0 w0 g w) (h0 : w0.heap.size ≤ B0) :
  ∃ g' zs, Know E N ((t, .bsl s.next 0 (xs ++ zs).length 0 xs.length) :: sl) { s with bs := ZaW s.bs s.next (.arr k (xs ++ zs).length (xs ++ zs)), next := s.next + 4 } g' a w ∧ Keeps g0 w0 g' w := by
 rcases hh with ⟨e, _⟩ | ⟨b, ty, zs, rfl, h2, h3, h4, h5⟩
 ·exact absurd e hne
 have hb := Zv h5
 have hfr := hk.inv.fresh s.next (Nat.le_refl _)
 let g' : Gh := { g with box := Zej g.box s.next (some b), own := Zej g.own b (some (.inl s.next)) }
 have hbox : ∀ id x, g.box id = some x → g'.box id = some x := fun id x h => by
  have : id ≠ s.next := fun e => by subst e; rw [hfr.1] at h; cases h
  simp [g', ZQ _ _ this, h]
 have hown : ∀ x, x ≠ b → g'.own x = g.own x := fun x h => ZQ _ _ h
 have hx : Ext g w g' w := ⟨fun _ => Nat.le_refl _, fun _ _ _ => rfl, hbox, fun t a m c h => ⟨a, m, c, h, Nat.le_refl _, fun _ => ⟨rfl, rfl⟩⟩, fun x y h => by
  have : x ≠ b := fun e => by subst e; rw [h3] at h; cases h
  rw [hown x this]; exact h⟩
 refine ⟨g', zs, ⟨hk.size, ⟨trivial, fun t' d h => ?_⟩, hk.globs.ext hx, ⟨fun id d h => ?_, fun t n sz h => ?_, fun i hi => ?_, hk.inv.lim, fun x h => ?_⟩⟩, ?_⟩
 ·simp only [Zm] at h
  split at h
  ·rename_i e
   subst e
   cases h
   obtain ⟨q1, q2⟩ := hk.slots.2 _ _ ht
   refine ⟨q1, ?_⟩
   have q2 : a.tmps.getD t' undef = .slice (some ⟨b, 0, none⟩) xs.length (xs ++ zs).length := q2
   rw [q2]
   simp only [Zq, Zn, Zk]
   refine ⟨b, (xs ++ zs).length, some ⟨b, 0, none⟩, by simp [g'], Int.le_refl _, by omega, by simp; omega, ⟨by simp, by simp⟩, by simp, fun _ => by simp⟩
  ·obtain ⟨q1, q2⟩ := hk.slots.2 _ _ h
   exact ⟨q1, q2.ext hx⟩
 ·simp only [S.box, ZbA] at h
  split at h
  ·rename_i e
   subst e
   cases h
   exact ⟨b, _, ty, by simp [g'], by simp [g'], h4, h5, by simp [Zk]⟩
  ·obtain ⟨b', cs', ty', q1, q2, q3, q4, q5⟩ := hk.inv.box id d h
   have hbb : b' ≠ b := fun e => by subst e; rw [h3] at q2; cases q2
   exact ⟨b', cs', ty', hbox _ _ q1, by rw [hown _ hbb]; exact q2, q3, q4, q5.ext hx⟩
 ·obtain ⟨a', c, q1, q2, q3⟩ := hk.inv.tok t n sz h
  refine ⟨a', c, q1, q2, q3.imp id ?_⟩
  rintro ⟨b', off, cs', ty', e1, e2, e3, e4, e5⟩
  have hbb : b' ≠ b := fun e => by subst e; rw [h3] at e2; cases e2
  exact ⟨b', off, cs', ty', e1, by rw [hown _ hbb]; exact e2, e3, e4, e5⟩
 ·have hi' : s.next + 4 ≤ i := hi
  have : i ≠ s.next := by omega
  have hf := hk.inv.fresh i (show s.next ≤ i by omega)
  exact ⟨by simp only [g', ZQ _ _ this]; exact hf.1, hf.2⟩
 ·have : x ≠ b := by omega
  rw [hown _ this]
  exact hk.inv.own x h
 ·exact ⟨hp.ext.trans hx, hp.size, hp.os, hp.tape, hp.output, fun x hx' => by rw [hown x (by omega)]; exact hp.own x hx', fun x hx' ho => hp.block x hx' ho, fun x hx' ho => hp.limo x hx' ho, hp.oth⟩
end Go.Vi
end

section
namespace Go.Vi
open Go.RowKit
theorem Zj9 {E : Env} (hE : EnvOk E) (hgl : ZhH E) {f : FuncId} {fn : Func} {c : Code} (hf : E.P.funcs[f]? = some fn) (hb : fn.body = some c) {p p0 : List D → List D → List (Nat × Nat) → BF}
  (N : List D → List D) (hN : ∀ (g : Gh) (w : World) (ds : List D) (vs : List Value), Zaa g w ds vs → ∃ ds', Zaa g w ds' vs ∧ ∀ s nm, ZaV p0 (N ds) s nm = ZaV p ds' s nm)
  (hT : ∀ args s nm, E.T f args s nm = ZaV p0 (N args) s nm)
  (QE : BF → Nat → Nat → AQ)
  (hadj : ∀ (b : BF) (m k : Nat) (g1 : Gh) (w0 : World) (e : Exit) (sl : List (Nat × D)) (s : S) (g : Gh) (a : Act) (w : World), QE b m k e sl s → Know E fn.ntmps sl s g a w → Keeps g1 w0 g w → (∀ bl i, g1.own bl = some (.inr i) → i < 8) → (∀ i, 8 ≤ i → g1.tok i = none) →
   ∃ sl' s' g', Za9 E fn m k b e sl' s' ∧ Know E fn.ntmps sl' s' g' a w ∧ Keeps g1 w0 g' w)
  (hrun : ∀ args ds tv, (p args ds tv).vc → ds.length ≤ 8 → tv.length ≤ 8 → (∀ d ∈ args, ∀ l, d ≠ .tup l) ∧ args.length ≤ fn.ntmps ∧ ∀ (g1 : Gh) (w0 : World) (a0 : Act), a0.defers = [] → Know E fn.ntmps (Zak 0 args) ⟨ZaN 0 ds, ZaN 0 tv, 8⟩ g1 a0 w0 → c.wp E.P (Zl2 E fn.ntmps g1 w0 (QE (p args ds tv) ds.length tv.length)) a0 w0) : Zw E f := by
 refine ⟨fun args s s' nm h => by simp only [hT]; exact Zoo h (N args) nm, fun args s nm g w F vs hv hg hi hF hr => ?_⟩
 simp only [hT] at hv ⊢
 obtain ⟨ds', hr, he'⟩ := hN _ _ _ _ hr
 rw [he'] at hv ⊢
 clear he'
 generalize ds' = args at hv hr ⊢
 unfold ZaV at hv ⊢
 cases hre : Zdb s 4 (D.idsL [] args) with
 | none => simp [hre, ZY] at hv
 | some ids =>
 simp only [hre] at hv ⊢
 cases hds : ZB s.box ids with
 | none => simp [hds, ZY] at hv
 | some ds =>
 simp only [hds] at hv ⊢
 generalize htk : D.tksL (D.tksL [] args) ds = tks at hv ⊢
 cases htv : ZB s.tok tks with
 | none => simp [htv, ZY] at hv
 | some tv =>
 simp only [htv] at hv ⊢
 generalize hargs : args.map (D.ren false (Zan ids 0) (Zan tks 0)) = args' at hv ⊢
 generalize hds' : ds.map (D.ren true (Zan ids 0) (Zan tks 0)) = ds' at hv ⊢
 obtain ⟨hvc, ⟨hnI, hnT⟩, ⟨hlI, hlT⟩, ⟨hlc, hlt⟩, hlnb, hlnt⟩ := hv
 obtain ⟨hdl, hdg⟩ := Zae hds
 obtain ⟨htl, htg⟩ := Zae htv
 have hdl' : ds'.length = ids.length := by rw [← hds']; simpa using hdl
 obtain ⟨hnt, hlen, ha⟩ := hrun _ _ _ hvc (by omega) (by omega)
 generalize hbf : p args' ds' tv = b at hvc hlc hlt hlnb hlnt ha ⊢
 let g1 : Gh := { box := fun j => (ids[j]?).bind g.box, tok := fun j => (tks[j]?).bind g.tok, own := fun bl => Zs (Zan ids 0) (Zan tks 0) (g.own bl), lim := g.lim }
 have hbx : ∀ i j bl, Zan ids 0 i = some j → g.box i = some bl → g1.box j = some bl := fun i j bl h h' => by
  have := (Z0 h).2
  simp only [Nat.sub_zero] at this
  simp [g1, Zs, this, h']
 have htx : ∀ i j v, Zan tks 0 i = some j → g.tok i = some v → g1.tok j = some v := fun i j bl h h' => by
  have := (Z0 h).2
  simp only [Nat.sub_zero] at this
  simp [g1, Zs, this, h']
 have hr1 : Zaa g1 w args' vs := by rw [← hargs]; exact Zaa.ren (gA := g) (gB := g1) (fun _ => Nat.le_refl _) hbx htx hr
 obtain ⟨hl, hget⟩ := Zg6 hr1
 have hsz : vs.toArray.size ≤ fn.ntmps := by rw [List.size_toArray, ← hl]; exact hlen
 have hboxOf : ∀ (j id : Nat), ids[j]? = some id → ∃ d bl cs ty, ds[j]? = some d ∧ s.box id = some d ∧ g.box id = some bl ∧ g.own bl = some (.inl id) ∧ g.lim bl = 0 ∧ w.heap[bl]? = some (.cells cs ty (0, 0)) ∧ Zk g w d cs.toList := by
  intro j id hj
  obtain ⟨d, h1, h2⟩ := hdg j id hj
  obtain ⟨bl, cs, ty, q⟩ := hi.box id d h2
  exact ⟨d, bl, cs, ty, h1, h2, q⟩
 have htokOf : ∀ (j t : Nat), tks[j]? = some t → ∃ x, tv[j]? = some x ∧ s.tok t = some x := fun j t hj => htg j t hj
 have hfrB : ∀ i, F i → i ∉ ids := fun i hFi hm => by
  obtain ⟨j, hj⟩ := List.getElem?_of_mem hm
  obtain ⟨d, bl, cs, ty, h1, h2, h3, _⟩ := hboxOf j i hj
  rw [(hi.fresh i hFi).1] at h3
  cases h3
 have hfrT : ∀ i, F i → i ∉ tks := fun i hFi hm => by
  obtain ⟨j, hj⟩ := List.getElem?_of_mem hm
  obtain ⟨x, h1, h2⟩ := htokOf j i hj
  obtain ⟨a, c', h3, _⟩ := hi.tok i x.1 x.2 h2
  rw [(hi.fresh i hFi).2] at h3
  cases h3
 have hk : Know E fn.ntmps (Zak 0 args') ⟨ZaN 0 ds', ZaN 0 tv, 8⟩ g1 { tmps := vs.toArray ++ Array.replicate (fn.ntmps - vs.toArray.size) undef, defers := [] } w := by
  refine ⟨?_, ⟨trivial, fun t d ht => ?_⟩, ZO.strip (g := g) (g1 := g1) hgl (fun _ => Nat.le_refl _) hg, ⟨fun j d h => ?_, fun j n sz h => ?_, fun i h => ⟨?_, ?_⟩, hi.lim, fun bl h => by simp [g1, Zs, hi.own bl h]⟩⟩
  ·simp only [Array.size_append, Array.size_replicate]; omega
  ·obtain ⟨_, h2⟩ := Zb9 _ _ _ _ ht
   simp only [Nat.sub_zero] at h2
   obtain ⟨v, h3, h4⟩ := hget t d h2
   have hm := List.mem_of_getElem? h2
   have htl : t < vs.length := (List.getElem?_eq_some_iff.1 h3).1
   refine ⟨by simp only [Array.size_append, Array.size_replicate, List.size_toArray]; omega, ?_⟩
   have : (vs.toArray ++ Array.replicate (fn.ntmps - vs.toArray.size) undef).getD t undef = v := by
    rw [Array.getD_eq_getD_getElem?, Array.getElem?_append_left (by simpa using htl)]
    simp [h3]
   rw [this]
   exact ZbT h4 (hnt _ hm)
  ·obtain ⟨_, h2⟩ := Zch h
   simp only [Nat.sub_zero] at h2
   rw [← hds', List.getElem?_map] at h2
   obtain ⟨d0, h3, h4⟩ := Option.map_eq_some_iff.1 h2
   have hjl : j < ids.length := by have := (List.getElem?_eq_some_iff.1 h3).1; omega
   obtain ⟨d1, bl, cs, ty, q1, q2, q3, q4, q5, q6, q7⟩ := hboxOf j _ (List.getElem?_eq_getElem hjl)
   rw [q1] at h3
   simp only [Option.some.injEq] at h3
   subst h3 h4
   have hp := Zam 0 hnI (List.getElem?_eq_getElem hjl)
   rw [Nat.zero_add] at hp
   exact ⟨bl, cs, ty, by simp [g1, Zs, List.getElem?_eq_getElem hjl, q3], by simp [g1, Zs, q4, hp], q5, q6, Zk.ren (gA := g) (gB := g1) (fun _ => Nat.le_refl _) hbx htx _ q7⟩
  ·obtain ⟨_, h2⟩ := Zch h
   simp only [Nat.sub_zero] at h2
   have hjl : j < tks.length := by have := (List.getElem?_eq_some_iff.1 h2).1; omega
   obtain ⟨x, q1, q2⟩ := htokOf j _ (List.getElem?_eq_getElem hjl)
   rw [h2] at q1
   simp only [Option.some.injEq] at q1
   subst q1
   obtain ⟨a, c', q3, q4, q5⟩ := hi.tok _ _ _ q2
   have hp := Zam 0 hnT (List.getElem?_eq_getElem hjl)
   rw [Nat.zero_add] at hp
   refine ⟨a, c', by simp [g1, Zs, List.getElem?_eq_getElem hjl, q3], q4, q5.imp id ?_⟩
   rintro ⟨bl, off, cs, ty, r1, r2, r3, r4, r5⟩
   exact ⟨bl, off, cs, ty, r1, by simp [g1, Zs, r2, hp], r3, r4, r5⟩
  ·have : ids[i]? = none := List.getElem?_eq_none (by have : 8 ≤ i := h; omega)
   simp [g1, Zs, this]
  ·have : tks[i]? = none := List.getElem?_eq_none (by have : 8 ≤ i := h; omega)
   simp [g1, Zs, this]
 refine Zeg hf hb (ha g1 w _ rfl hk) ?_
 rintro e a' w' g2 sl s2 hq hk2 hkp
 obtain ⟨sl, s2, g2, hq, hk2, hkp⟩ := hadj _ _ _ g1 w e sl s2 g2 a' w' hq hk2 hkp (fun bl i h => by
  simp only [g1] at h
  cases ho : g.own bl with
  | none => simp [ho, Zs] at h
  | some y =>
   cases y with
   | inl j => simp only [ho, Zs, Option.map_eq_some_iff] at h; obtain ⟨k, k1, k2⟩ := h; simp at k2
   | inr j =>
    simp only [ho, Zs, Option.map_eq_some_iff] at h
    obtain ⟨k, k1, k2⟩ := h
    simp at k2
    have := (Z0 k1).2
    simp only [Nat.sub_zero] at this
    have := (List.getElem?_eq_some_iff.1 this).1
    omega) (fun i h => by
  have h2 : tks[i]? = none := List.getElem?_eq_none (by omega)
  simp [g1, h2])
 have main : (∃ nb nt fz, EndB E fn ds'.length tv.length b nb nt fz sl s2) → ∃ v, (results fn a'.tmps).run E.P w' = .ok v w' ∧
   ∃ v' g', Ending.returned v = .returned v' ∧ Zq g' w' (b.toR ids tks nm).val v' ∧ Inv g' (s.upd (b.toR ids tks nm)) w' (fun i => F i ∧ ¬ (nm ≤ i ∧ i < nm + 4)) ∧ Keeps g w g' w' := by
  rintro ⟨nb, nt, fz, hend⟩
  rw [hdl', htl] at hend
  obtain ⟨dsr, v, h1, h2, h3⟩ := Zd1 hE hk2.slots hk2.inv hend.res
  have hinv := hk2.inv
  have hfzs : ∀ i ∈ fz, (s2.box i).isSome = true := fun i hm => (hend.frz i hm).2.2
  obtain ⟨cs0, hc1, hc2⟩ := hend.cont
  obtain ⟨ns0, hn1, hn2⟩ := hend.news
  obtain ⟨hcl, hcg⟩ := ZbY hc1
  obtain ⟨hnl, hng⟩ := Zae hn1
  obtain ⟨hktl, hktg⟩ := ZbY hend.toks
  obtain ⟨hntl, hntg⟩ := Zae hend.newt
  let gf : Gh := g2.froze w' fz
  have hfzlim := ZfX hinv hfzs
  let gc : Gh := { box := fun j => if j < 8 then (if j < ids.length then g2.box j else none) else (nb[j - 8]?).bind g2.box, tok := fun j => if j < 8 then (if j < tks.length then g2.tok j else none) else (nt[j - 8]?).bind g2.tok, own := fun _ => none, lim := gf.lim }
  have hb1 : ∀ i j bl, Za7 ids.length nb i = some j → gf.box i = some bl → gc.box j = some bl := fun i j bl h h' => by
   have h' : g2.box i = some bl := h'
   rcases ZfR h with ⟨q1, q2, rfl⟩ | ⟨q1, q2, q3⟩
   ·simp [gc, q1, q2, h']
   ·have : ¬ j < 8 := by omega
    simp [gc, this, q3, h']
  have ht1 : ∀ i j v, Za7 tks.length nt i = some j → gf.tok i = some v → gc.tok j = some v := fun i j bl h h' => by
   have h' : g2.tok i = some bl := h'
   rcases ZfR h with ⟨q1, q2, rfl⟩ | ⟨q1, q2, q3⟩
   ·simp [gc, q1, q2, h']
   ·have : ¬ j < 8 := by omega
    simp [gc, this, q3, h']
  let bI := Zbc ids b.news.length nm
  let bT := Zbc tks b.newt.length nm
  let g' : Gh := {
   box := fun i => ZaT (Zan ids 0 i) gc.box (if nm ≤ i ∧ i < nm + b.news.length then gc.box (8 + (i - nm)) else g.box i)
   tok := fun i => ZaT (Zan tks 0 i) gc.tok (if nm ≤ i ∧ i < nm + b.newt.length then gc.tok (8 + (i - nm)) else g.tok i)
   own := fun bl => if bl < w.heap.size then g.own bl else Zs (fun i => (Za7 ids.length nb i).bind bI) (fun t => (Za7 tks.length nt t).bind bT) (g2.own bl)
   lim := gf.lim }
  have hb2 : ∀ i j bl, bI i = some j → gc.box i = some bl → g'.box j = some bl := fun i j bl h h' => by
   simp only [bI, Zbc] at h
   split at h
   ·have := Zam 0 hnI h
    rw [Nat.zero_add] at this
    simp [g', ZaT, this, h']
   ·split at h
    ·simp at h
     have hj : Zan ids 0 j = none := ZM (hfrB j (hF j (by omega) (by omega)))
     have e1 : 8 + (j - nm) = i := by omega
     simp only [g', ZaT, hj]
     rw [if_pos ⟨by omega, by omega⟩, e1]
     exact h'
    ·cases h
  have ht2 : ∀ i j v, bT i = some j → gc.tok i = some v → g'.tok j = some v := fun i j bl h h' => by
   simp only [bT, Zbc] at h
   split at h
   ·have := Zam 0 hnT h
    rw [Nat.zero_add] at this
    simp [g', ZaT, this, h']
   ·split at h
    ·simp at h
     have hj : Zan tks 0 j = none := ZM (hfrT j (hF j (by omega) (by omega)))
     have e1 : 8 + (j - nm) = i := by omega
     simp only [g', ZaT, hj]
     rw [if_pos ⟨by omega, by omega⟩, e1]
     exact h'
    ·cases h
  have repC : ∀ {d : D} {cs : List Value}, Zk g2 w' d cs → Zk g' w' (D.ren true bI bT (ZgX s2 ids.length tks.length nb nt fz d)) cs := fun h =>
   Zk.ren (gA := gc) (gB := g') (fun _ => Nat.le_refl _) hb2 ht2 _ (Zk.ren (gA := gf) (gB := gc) (fun _ => Nat.le_refl _) hb1 ht1 _ (Zk.frz hinv hfzs _ h))
  have hnf : ∀ (i bl : Nat) d, s2.box i = some d → i ∉ fz → g2.box i = some bl → gf.lim bl = g2.lim bl := fun i bl d hd hn hbl => by
   show (if ∃ i, i ∈ fz ∧ g2.box i = some bl then Zat w' bl else g2.lim bl) = g2.lim bl
   rw [if_neg]
   rintro ⟨k, hk1, hk2'⟩
   obtain ⟨dk, hdk⟩ := Option.isSome_iff_exists.1 (hfzs k hk1)
   obtain ⟨b1, _, _, q1, q2, _⟩ := hinv.box k dk hdk
   obtain ⟨b2, _, _, q3, q4, _⟩ := hinv.box i d hd
   rw [hk2'] at q1
   rw [hbl] at q3
   simp at q1 q3
   subst q1 q3
   rw [q2] at q4
   simp at q4
   subst q4
   exact hn hk1
  have hnfo : ∀ (bl : Nat), (∀ i ∈ fz, g2.own bl ≠ some (.inl i)) → gf.lim bl = g2.lim bl := fun bl hn => by
   show (if ∃ i, i ∈ fz ∧ g2.box i = some bl then Zat w' bl else g2.lim bl) = g2.lim bl
   rw [if_neg]
   rintro ⟨k, hk1, hk2'⟩
   obtain ⟨dk, hdk⟩ := Option.isSome_iff_exists.1 (hfzs k hk1)
   obtain ⟨b1, _, _, q1, q2, _⟩ := hinv.box k dk hdk
   rw [hk2'] at q1
   simp at q1
   subst q1
   exact hn k hk1 q2
  have hext : Ext g w g' w' := {
   lim := fun bl => Nat.le_trans (hkp.ext.lim bl) (hfzlim bl)
   cell := hkp.ext.cell
   box := fun id bl h => by
    simp only [g', ZaT]
    cases hp : Zan ids 0 id with
    | some j =>
     have := hkp.ext.box j bl (hbx id j bl hp h)
     have hj : j < ids.length := by have := (Z0 hp).2; simp only [Nat.sub_zero] at this; exact (List.getElem?_eq_some_iff.1 this).1
     simp only [gc]
     rw [if_pos (by omega), if_pos hj]
     exact this
    | none =>
     simp only
     rw [if_neg]
     ·exact h
     ·rintro ⟨q1, q2⟩
      rw [(hi.fresh id (hF id q1 (by omega))).1] at h
      cases h
   tok := fun t a m c' h => by
    simp only [g', ZaT]
    cases hp : Zan tks 0 t with
    | some j =>
     obtain ⟨a2, m2, c2, q1, q2⟩ := hkp.ext.tok j a m c' (htx t j _ hp h)
     have hj : j < tks.length := by have := (Z0 hp).2; simp only [Nat.sub_zero] at this; exact (List.getElem?_eq_some_iff.1 this).1
     refine ⟨a2, m2, c2, ?_, q2⟩
     simp only [gc]
     rw [if_pos (by omega), if_pos hj]
     exact q1
    | none =>
     simp only
     rw [if_neg]
     ·exact ⟨a, m, c', h, Nat.le_refl _, fun _ => ⟨rfl, rfl⟩⟩
     ·rintro ⟨q1, q2⟩
      rw [(hi.fresh t (hF t q1 (by omega))).2] at h
      cases h
   own := fun bl x hx => by
    have : bl < w.heap.size := by
     rcases Nat.lt_or_ge bl w.heap.size with h | h
     ·exact h
     ·rw [hi.own bl h] at hx; cases hx
    simp only [g', this, if_true]; exact hx }
  have hnone : ∀ bl, g.own bl = none → g1.own bl = none := fun bl h => by simp [g1, Zs, h]
  have hown2 : ∀ bl, bl < w.heap.size → g2.own bl = g1.own bl := hkp.own
  have hlimo : ∀ bl, bl < w.heap.size → g.own bl = none → gf.lim bl = g.lim bl := fun bl hbl ho => by
   rw [hnfo bl fun i hm => by rw [hown2 bl hbl, hnone bl ho]; simp]
   exact hkp.limo bl hbl (hnone bl ho)
  have hkeeps : Keeps g w g' w' := ⟨hext, hkp.size, hkp.os, hkp.tape, hkp.output, fun bl hbl => by simp only [g', hbl, if_true], fun bl hbl ho => hkp.block bl hbl (hnone bl ho), hlimo, hkp.oth⟩
  have argBox : ∀ (j id : Nat) (d : D), ids[j]? = some id → b.cont[j]? = some d → ∃ bl cs ty, g'.box id = some bl ∧ g'.own bl = some (.inl id) ∧ g'.lim bl = 0 ∧ w'.heap[bl]? = some (.cells cs ty (0, 0)) ∧ Zk g' w' (D.ren true bI bT d) cs.toList := by
   intro j id d hj hd
   have hjl : j < ids.length := (List.getElem?_eq_some_iff.1 hj).1
   obtain ⟨x, hx1, hx2⟩ := hcg j hjl
   rw [← hc2, List.getElem?_map, hx1] at hd
   simp only [Option.map_some, Option.some.injEq] at hd
   obtain ⟨d0, bl, cs, ty, q1, q2, q3, q4, q5, q6, q7⟩ := hboxOf j id hj
   have hp := Zam 0 hnI hj
   rw [Nat.zero_add] at hp
   have hg2 := hkp.ext.box j bl (hbx id j bl hp q3)
   obtain ⟨b2, cs2, ty2, r1, r2, r3, r4, r5⟩ := hinv.box j x hx2
   rw [hg2] at r1
   simp only [Option.some.injEq] at r1
   subst r1
   have hbl := Zv q6
   have hnfz : j ∉ fz := fun hm => by have := (hend.frz j hm).1; omega
   refine ⟨bl, cs2, ty2, ?_, ?_, ?_, r4, ?_⟩
   ·simp only [g', ZaT, hp, gc]
    rw [if_pos (by omega), if_pos hjl]
    exact hg2
   ·simp only [g', hbl, if_true]; exact q4
   ·show gf.lim bl = 0
    rw [hnf j bl x hx2 hnfz hg2]
    exact r3
   ·rw [← hd]; exact repC r5
  have newBox : ∀ (j : Nat) (d : D), b.news[j]? = some d → ∃ bl cs ty, g'.box (nm + j) = some bl ∧ g'.own bl = some (.inl (nm + j)) ∧ g'.lim bl = 0 ∧ w'.heap[bl]? = some (.cells cs ty (0, 0)) ∧ Zk g' w' (D.ren true bI bT d) cs.toList := by
   intro j d hd
   have hjl : j < b.news.length := (List.getElem?_eq_some_iff.1 hd).1
   have hjn : j < nb.length := by rw [hend.len.1]; exact hjl
   obtain ⟨x, hx1, hx2⟩ := hng j _ (List.getElem?_eq_getElem hjn)
   rw [← hn2, List.getElem?_map, hx1] at hd
   simp only [Option.map_some, Option.some.injEq] at hd
   obtain ⟨bl, cs2, ty2, r1, r2, r3, r4, r5⟩ := hinv.box _ x hx2
   have h8 : 8 ≤ nb[j] := hend.hi.1 _ (List.getElem_mem hjn)
   have hnfz : nb[j] ∉ fz := fun hm => (hend.frz _ hm).2.1 (List.getElem_mem hjn)
   have hge : ¬ bl < w.heap.size := fun hlt => by
    rw [hown2 bl hlt] at r2
    simp only [g1] at r2
    cases ho : g.own bl with
    | none => simp [ho, Zs] at r2
    | some y =>
     cases y with
     | inl i =>
      simp only [ho, Zs, Option.map_eq_some_iff] at r2
      obtain ⟨k, k1, k2⟩ := r2
      simp at k2
      have := (Z0 k1).2
      simp only [Nat.sub_zero] at this
      have := (List.getElem?_eq_some_iff.1 this).1
      omega
     | inr i =>
      simp only [ho, Zs, Option.map_eq_some_iff] at r2
      obtain ⟨k, k1, k2⟩ := r2
      simp at k2
   have hp : Zan ids 0 (nm + j) = none := ZM (hfrB _ (hF _ (by omega) (by omega)))
   have hpe : Za7 ids.length nb nb[j] = some (8 + j) := by
    unfold Za7
    rw [if_neg (by omega)]
    exact Zam 8 hend.nod.1 (List.getElem?_eq_getElem hjn)
   have hbk : bI (8 + j) = some (nm + j) := by
    simp only [bI, Zbc]
    rw [if_neg (by omega), if_pos (by omega)]
    congr 1
    omega
   refine ⟨bl, cs2, ty2, ?_, ?_, ?_, r4, ?_⟩
   ·simp only [g', ZaT, hp]
    rw [if_pos ⟨by omega, by omega⟩]
    simp only [gc]
    rw [if_neg (by omega)]
    have e1 : 8 + (nm + j - nm) - 8 = j := by omega
    rw [e1, List.getElem?_eq_getElem hjn]
    exact r1
   ·simp only [g', Zs, hge, if_false, r2, hpe, Option.bind_some, hbk, Option.map_some]
   ·show gf.lim bl = 0
    rw [hnf _ bl x hx2 hnfz r1]
    exact r3
   ·rw [← hd]; exact repC r5
  have tokRow : ∀ (i t : Nat) (x : Nat × Nat), s2.tok i = some x → (Za7 tks.length nt i).bind bT = some t → (∀ bl, bl < w.heap.size → g2.own bl = some (.inr i) → g.own bl = some (.inr t)) → (∀ v, g2.tok i = some v → g'.tok t = some v) →
    ∃ a c', g'.tok t = some (.slice a x.1 c') ∧ x.1 ≤ c' ∧ (c' = x.1 ∨ ∃ bl off cs ty, a = some ⟨bl, off, none⟩ ∧ g'.own bl = some (.inr t) ∧ g'.lim bl = off + x.1 * x.2 ∧ w'.heap[bl]? = some (.cells cs ty (0, 0)) ∧ off + c' * x.2 ≤ cs.size) := by
   intro i t x hx he ho hg
   obtain ⟨a, c', q1, q2, q3⟩ := hinv.tok i x.1 x.2 hx
   refine ⟨a, c', hg _ q1, q2, q3.imp id ?_⟩
   rintro ⟨bl, off, cs, ty, r1, r2, r3, r4, r5⟩
   refine ⟨bl, off, cs, ty, r1, ?_, ?_, r4, r5⟩
   ·simp only [g', ZaT]
    split
    ·rename_i h; exact ho bl h r2
    ·simp only [r2, Zs, he, Option.map_some]
   ·show gf.lim bl = _
    rw [hnfo bl fun k hm => by rw [r2]; simp]
    exact r3
  refine ⟨v, h3, v, g', rfl, ?_, ⟨fun id d hd => ?_, fun t n sz ht => ?_, fun i h => ?_, fun bl h => ?_, fun bl h => ?_⟩, hkeeps⟩
  ·have := Zq.ren (gA := gc) (gB := g') (keep := true) (fun _ => Nat.le_refl _) hb2 ht2 (Zq.ren (gA := gf) (gB := gc) (keep := true) (fun _ => Nat.le_refl _) hb1 ht1 (Zq.frz (fz := fz) hinv hfzs h2))
   have e1 : D.ren true (Za7 ids.length nb) (Za7 tks.length nt) (D.frz s2 fz (Zgl dsr)) = b.val := h1
   rw [e1] at this
   exact this
  ·rw [Zc4, Zbu] at hd
   cases hlk : Zm (b.toR ids tks nm).ups.reverse id with
   | some x =>
    rw [hlk] at hd
    simp only [Option.some.injEq] at hd
    subst hd
    have hm := List.mem_reverse.1 (ZbD hlk)
    simp only [BF.toR, List.mem_append] at hm
    rcases hm with hm | hm
    ·obtain ⟨j, k1, k2⟩ := ZdS hm
     rw [List.getElem?_map] at k2
     obtain ⟨d0, k3, rfl⟩ := Option.map_eq_some_iff.1 k2
     exact argBox j id d0 k1 k3
    ·obtain ⟨k1, k2⟩ := ZcR hm
     rw [List.getElem?_map] at k2
     obtain ⟨d0, k3, rfl⟩ := Option.map_eq_some_iff.1 k2
     have := newBox (id - nm) d0 k3
     rw [show nm + (id - nm) = id by omega] at this
     exact this
   | none =>
    rw [hlk] at hd
    simp only at hd
    have hid : id ∉ ids := fun hm => by
     have hk' : id ∈ (b.toR ids tks nm).ups.reverse.map (·.1) := by
      rw [List.map_reverse, List.mem_reverse]
      simp only [BF.toR, List.map_append, List.mem_append]
      exact .inl (by rw [ZcQ (by simpa using hlc)]; exact hm)
     obtain ⟨y, hy⟩ : ∃ y, (id, y) ∈ (b.toR ids tks nm).ups.reverse := by
      obtain ⟨p', p1, p2⟩ := List.mem_map.1 hk'
      exact ⟨p'.2, by rw [← p2]; exact p1⟩
     have key : ∀ (l : List (Nat × D)), Zm l id = none → ∀ y, (id, y) ∉ l := by
      intro l
      induction l with
      | nil => simp
      | cons q r ih =>
       obtain ⟨q1, q2⟩ := q
       intro hl' y hy'
       simp only [Zm] at hl'
       split at hl'
       ·cases hl'
       ·rename_i hne
        rcases List.mem_cons.1 hy' with e | e
        ·simp at e; exact hne e.1
        ·exact ih hl' y e
     exact key _ hlk y hy
    obtain ⟨bl, cs, ty, q1, q2, q3, q4, q5⟩ := hi.box id d hd
    have hbl := Zv q4
    have hg1n : g1.own bl = none := by simp [g1, Zs, q2, ZM hid]
    have hne : ¬ (nm ≤ id ∧ id < nm + b.news.length) := by
     rintro ⟨k1, k2⟩
     rw [(hi.fresh id (hF id k1 (by omega))).1] at q1
     cases q1
    refine ⟨bl, cs, ty, ?_, ?_, ?_, ?_, q5.ext hext⟩
    ·simp only [g', ZaT, ZM hid]; rw [if_neg hne]; exact q1
    ·simp only [g', hbl, if_true]; exact q2
    ·show gf.lim bl = 0
     rw [hnfo bl fun i hm => by rw [hown2 bl hbl, hg1n]; simp]
     rw [hkp.limo bl hbl hg1n]
     exact q3
    ·rw [hkp.block bl hbl hg1n]; exact q4
  ·rw [Zc4, Zbw] at ht
   cases hlk : Zm (b.toR ids tks nm).tups.reverse t with
   | some x =>
    rw [hlk] at ht
    simp only [Option.some.injEq] at ht
    subst ht
    have hm := List.mem_reverse.1 (ZbD hlk)
    simp only [BF.toR, List.mem_append] at hm
    rcases hm with hm | hm
    ·obtain ⟨j, k1, k2⟩ := ZdS hm
     have hjl : j < tks.length := (List.getElem?_eq_some_iff.1 k1).1
     obtain ⟨x, x1, x2⟩ := hktg j (by omega)
     rw [k2] at x1
     simp only [Option.some.injEq] at x1
     subst x1
     have hp := Zam 0 hnT k1
     rw [Nat.zero_add] at hp
     have hpe : (Za7 tks.length nt j).bind bT = some t := by
      unfold Za7
      rw [if_pos (by omega), if_pos hjl]
      simp only [Option.bind_some, bT, Zbc]
      rw [if_pos (by omega)]
      exact k1
     refine tokRow j t (n, sz) x2 hpe (fun bl hbl ho => ?_) (fun v hv' => ?_)
     ·rw [hown2 bl hbl] at ho
      simp only [g1] at ho
      cases hgo : g.own bl with
      | none => simp [hgo, Zs] at ho
      | some y =>
       cases y with
       | inl i =>
        simp only [hgo, Zs, Option.map_eq_some_iff] at ho
        obtain ⟨k, _, k2'⟩ := ho
        cases k2'
       | inr i =>
        simp only [hgo, Zs, Option.map_eq_some_iff] at ho
        obtain ⟨k, k1', k2'⟩ := ho
        simp at k2'
        subst k2'
        have := (Z0 k1').2
        simp only [Nat.sub_zero] at this
        rw [k1] at this
        simp at this
        subst this
        rfl
     ·simp only [g', ZaT, hp, gc]
      rw [if_pos (by omega), if_pos hjl]
      exact hv'
    ·obtain ⟨k1, k2⟩ := ZcR hm
     have hjl : t - nm < b.newt.length := (List.getElem?_eq_some_iff.1 k2).1
     have hjn : t - nm < nt.length := by rw [hend.len.2]; exact hjl
     obtain ⟨x, x1, x2⟩ := hntg (t - nm) _ (List.getElem?_eq_getElem hjn)
     rw [k2] at x1
     simp only [Option.some.injEq] at x1
     subst x1
     have h8 : 8 ≤ nt[t - nm] := hend.hi.2 _ (List.getElem_mem hjn)
     have hpe : (Za7 tks.length nt nt[t - nm]).bind bT = some t := by
      unfold Za7
      rw [if_neg (by omega), Zam 8 hend.nod.2 (List.getElem?_eq_getElem hjn)]
      simp only [Option.bind_some, bT, Zbc]
      rw [if_neg (by omega), if_pos (by omega)]
      congr 1
      omega
     have hpn : Zan tks 0 t = none := ZM (hfrT t (hF t k1 (by omega)))
     refine tokRow _ t (n, sz) x2 hpe (fun bl hbl ho => ?_) (fun v hv' => ?_)
     ·exfalso
      rw [hown2 bl hbl] at ho
      simp only [g1] at ho
      cases hgo : g.own bl with
      | none => simp [hgo, Zs] at ho
      | some y =>
       cases y with
       | inl i =>
        simp only [hgo, Zs, Option.map_eq_some_iff] at ho
        obtain ⟨k, _, k2'⟩ := ho
        cases k2'
       | inr i =>
        simp only [hgo, Zs, Option.map_eq_some_iff] at ho
        obtain ⟨k, k1', k2'⟩ := ho
        simp at k2'
        have := (Z0 k1').2
        simp only [Nat.sub_zero] at this
        have := (List.getElem?_eq_some_iff.1 this).1
        omega
     ·simp only [g', ZaT, hpn]
      rw [if_pos ⟨k1, by omega⟩]
      simp only [gc]
      rw [if_neg (by omega)]
      have e1 : 8 + (t - nm) - 8 = t - nm := by omega
      rw [e1, List.getElem?_eq_getElem hjn]
      exact hv'
   | none =>
    rw [hlk] at ht
    simp only at ht
    have htn : t ∉ tks := fun hm => by
     have hk' : t ∈ (b.toR ids tks nm).tups.reverse.map (·.1) := by
      rw [List.map_reverse, List.mem_reverse]
      simp only [BF.toR, List.map_append, List.mem_append]
      exact .inl (by rw [ZcQ (by simpa using hlt)]; exact hm)
     obtain ⟨y, hy⟩ : ∃ y, (t, y) ∈ (b.toR ids tks nm).tups.reverse := by
      obtain ⟨p', p1, p2⟩ := List.mem_map.1 hk'
      exact ⟨p'.2, by rw [← p2]; exact p1⟩
     have key : ∀ (l : List (Nat × (Nat × Nat))), Zm l t = none → ∀ y, (t, y) ∉ l := by
      intro l
      induction l with
      | nil => simp
      | cons q r ih =>
       obtain ⟨q1, q2⟩ := q
       intro hl' y hy'
       simp only [Zm] at hl'
       split at hl'
       ·cases hl'
       ·rename_i hne
        rcases List.mem_cons.1 hy' with e | e
        ·simp at e; exact hne e.1
        ·exact ih hl' y e
     exact key _ hlk y hy
    obtain ⟨a, c', q1, q2, q3⟩ := hi.tok t n sz ht
    have hne : ¬ (nm ≤ t ∧ t < nm + b.newt.length) := by
     rintro ⟨k1, k2⟩
     rw [(hi.fresh t (hF t k1 (by omega))).2] at q1
     cases q1
    refine ⟨a, c', ?_, q2, q3.imp id ?_⟩
    ·simp only [g', ZaT, ZM htn]; rw [if_neg hne]; exact q1
    ·rintro ⟨bl, off, cs, ty, r1, r2, r3, r4, r5⟩
     have hbl := Zv r4
     have hg1n : g1.own bl = none := by simp [g1, Zs, r2, ZM htn]
     refine ⟨bl, off, cs, ty, r1, ?_, ?_, ?_, r5⟩
     ·simp only [g', hbl, if_true]; exact r2
     ·show gf.lim bl = _
      rw [hnfo bl fun i hm => by rw [hown2 bl hbl, hg1n]; simp]
      rw [hkp.limo bl hbl hg1n]
      exact r3
     ·rw [hkp.block bl hbl hg1n]; exact r4
  ·obtain ⟨h1', h2'⟩ := h
   have q1 := hi.fresh i h1'
   constructor
   ·simp only [g', ZaT, ZM (hfrB i h1')]
    rw [if_neg (by omega)]
    exact q1.1
   ·simp only [g', ZaT, ZM (hfrT i h1')]
    rw [if_neg (by omega)]
    exact q1.2
  ·show gf.lim bl = 0
   show (if ∃ i, i ∈ fz ∧ g2.box i = some bl then Zat w' bl else g2.lim bl) = 0
   have := hinv.lim bl h
   split
   ·simp [Zat, Array.getElem?_eq_none h]
   ·exact this
  ·have hge : ¬ bl < w.heap.size := by have := hkp.size; omega
   simp only [g', Zs, hge, if_false, hinv.own bl h]
 cases e with
 | normal => exact ⟨.inl rfl, main hq⟩
 | ret => exact ⟨.inr rfl, main hq⟩
 | «exit» id => exact hq.elim
 | goto l => exact hq.elim
 | panic c => exact hq.elim
 | outgrown => exact hq.elim
def Gh.two (g : Gh) (i1 i2 : Nat) (lim : Nat → Nat) : Gh := { box := fun i => if i = i1 ∨ i = i2 then g.box i else none, tok := fun _ => none, own := fun b => if g.own b = some (.inl i1) ∨ g.own b = some (.inl i2) then g.own b else none, lim := lim }
end Go.Vi
end

section
namespace Go.Vi
open Go.RowKit
theorem HV.taken {B0 : Nat} {k : IntKind} {v : Value} {xs : List Int} {g : Gh} {B : Nat} {w w2 : World} (h : HV B0 k v xs g w) (ht : Taken B w w2) : HV B0 k v xs g w2 := by
 rcases h with h | ⟨b, ty, zs, h1, h2, h3, h4, h5⟩
 ·exact .inl h
 ·exact .inr ⟨b, ty, zs, h1, h2, h3, h4, ht.row b _ h5 rfl⟩
end Go.Vi
end

section
namespace Go.Vi
open Go.RowKit
end Go.Vi
namespace Go.Vi
open Go.RowKit
end Go.Vi
end

section
namespace Go.Vi
open Go.RowKit
structure KeepsM (M : Nat → Prop) (g : Gh) (w : World) (g' : Gh) (w' : World) : Prop where
  ext : Ext g w g' w'
  size : w.heap.size ≤ w'.heap.size
  os : w'.os = w.os
  tape : w'.tape = w.tape
  output : w'.output = w.output
  own : ∀ b, b < w.heap.size → g'.own b = g.own b
  block : ∀ b, b < w.heap.size → g.own b = none → ¬ M b → w'.heap[b]? = w.heap[b]?
  limo : ∀ b, b < w.heap.size → g.own b = none → g'.lim b = g.lim b
  oth : ∀ (k : Nat) (o : Obj), w.heap[k]? = some o → o.isCells = false → ¬ M k → w'.heap[k]? = some o
theorem Keeps.m {M : Nat → Prop} {g g' : Gh} {w w' : World} (h : Keeps g w g' w') : KeepsM M g w g' w' :=
  ⟨h.ext, h.size, h.os, h.tape, h.output, h.own, fun b h1 h2 _ => h.block b h1 h2, h.limo, fun k o h1 h2 _ => h.oth k o h1 h2⟩
theorem KeepsM.trans {M M' : Nat → Prop} {g g1 g2 : Gh} {w w1 w2 : World} (h : KeepsM M g w g1 w1) (h' : KeepsM M' g1 w1 g2 w2) (hm : ∀ b, b < w.heap.size → M' b → M b) : KeepsM M g w g2 w2 :=
  ⟨h.ext.trans h'.ext, Nat.le_trans h.size h'.size, h'.os.trans h.os, h'.tape.trans h.tape, h'.output.trans h.output,
   fun b hb => (h'.own b (Nat.lt_of_lt_of_le hb h.size)).trans (h.own b hb),
   fun b hb ho hn => (h'.block b (Nat.lt_of_lt_of_le hb h.size) ((h.own b hb).trans ho) (fun q => hn (hm b hb q))).trans (h.block b hb ho hn),
   fun b hb ho => (h'.limo b (Nat.lt_of_lt_of_le hb h.size) ((h.own b hb).trans ho)).trans (h.limo b hb ho),
   fun k o hk ho hn => h'.oth k o (h.oth k o hk ho hn) ho (fun q => hn (hm k (Array.getElem?_eq_some_iff.1 hk).1 q))⟩
theorem KeepsM.step {M : Nat → Prop} {g g1 g2 : Gh} {w w1 w2 : World} (h : KeepsM M g w g1 w1) (h' : Keeps g1 w1 g2 w2) : KeepsM M g w g2 w2 := h.trans h'.m (fun _ _ h => h)
abbrev Zcs := Op → (Operand → D) → Option R
def opH (E : Env) (hk : Zcs) (s : S) (nm : Nat) (sl : List (Nat × D)) (op : Op) : R :=
  match hk op (ev E sl) with
  | some r => r
  | none => opR E s nm sl op
def ZdJ (l : Nat → Bool) (i : Nat) : Nat → Bool := fun k => if k = i then true else l k
def ZuE (ops : Array Oper) (l : Nat → Bool) (i : Nat) : Prop := l i = false ∧ ∀ j o, ops[j]? = some o → l j = true → ∀ e ∈ (Zcu ops.toList []).getD j [], l e = true
structure HookOk (E : Env) (hk : Zcs) (effs : List Nat) (ops : Array Oper) (HL : (Nat → Bool) → Gh → World → Prop) (M : Nat → Prop) : Prop where
  loc : ∀ op (ρ ρ' : Operand → D), (∀ x ∈ op.operands.toList, ρ x = ρ' x) → hk op ρ = hk op ρ'
  still : ∀ op ρ r, hk op ρ = some r → r.ups = [] ∧ r.tups = [] ∧ ∀ c, op ≠ .defer c
  stab : ∀ l, Zen (HL l)
  only : ∀ l i {g : Gh} {w : World}, i ∉ effs → HL l g w → HL (ZdJ l i) g w
  ung : ∀ i ∈ effs, ∀ o, ops[i]? = some o → o.guard = none
  hit : ∀ i ∈ effs, ∀ o, ops[i]? = some o → ∀ ρ, ∃ r, hk o.op ρ = some r
  gives : ∀ i o, ops[i]? = some o → i ∉ effs → ∀ (l : Nat → Bool) (a : Act) (g : Gh) (s : S) (w : World) (F : Nat → Prop) (nm : Nat) (sl : List (Nat × D)) (r : R), ZuE ops l i → ZJ g w sl a → ZO E g w → HL l g w → hk o.op (ev E sl) = some r → r.vc → Inv g s w F → Zas nm F → Zac E.P o a g s w F nm r
  eff : ∀ i o, ops[i]? = some o → i ∈ effs → ∀ (l : Nat → Bool) (a : Act) (g : Gh) (s : S) (w : World) (F : Nat → Prop) (sl : List (Nat × D)) (r : R), ZuE ops l i → (∀ j ∈ (Zcu ops.toList []).getD i [], l j = true) → l i = false → ZJ g w sl a → ZO E g w → HL l g w → hk o.op (ev E sl) = some r → r.vc → Inv g s w F →
    ∃ v w', ((execOp a.eval o).run E.P w = .ok (.value v) w' ∨ ((execOp a.eval o).run E.P w = .ok .skip w' ∧ v = undef)) ∧ Zq g w' r.val v ∧ KeepsM M g w g w' ∧ Inv g s w' F ∧ HL (ZdJ l i) g w'
theorem Zr3 {E : Env} {hk : Zcs} (hl : ∀ op (ρ ρ' : Operand → D), (∀ x ∈ op.operands.toList, ρ x = ρ' x) → hk op ρ = hk op ρ') {s : S} {nm : Nat} {sl sl' : List (Nat × D)} {op : Op} (h : ∀ t, t ∈ ZvB op → Zm sl t = Zm sl' t) : opH E hk s nm sl op = opH E hk s nm sl' op := by
  unfold opH
  rw [hl op (ev E sl) (ev E sl') fun x hx => Zxe h hx, Zlm h]
theorem Zuq {E : Env} {hk : Zcs} {s s' : S} (h : Sub s s') (nm : Nat) (sl : List (Nat × D)) (op : Op) : ZaZ (opH E hk s nm sl op) (opH E hk s' nm sl op) := by
  unfold opH
  cases hk op (ev E sl) with
  | some r => exact ZaZ.refl _
  | none => exact ZrW h nm sl op
theorem Zsc {E : Env} (hE : EnvOk E) {hk : Zcs} {effs : List Nat} {ops : Array Oper} {HL : (Nat → Bool) → Gh → World → Prop} {M : Nat → Prop} (HK : HookOk E hk effs ops HL M) {i : Nat} {o : Oper} (ho : ops[i]? = some o) {l : Nat → Bool} (hb : ∀ j ∈ (Zcu ops.toList []).getD i [], l j = true) (hdn : ZuE ops l i)
    {a : Act} {g : Gh} {s : S} {w : World} {F : Nat → Prop} {nm : Nat} {sl : List (Nat × D)} (hs : ZJ g w sl a) (hg : ZO E g w) (hh : HL l g w) (hv : (opH E hk s nm sl o.op).vc) (hi : Inv g s w F) (hF : Zas nm F) {fr : Option Nat} {fm : Nat}
    (K : Act → World → Prop) (Q : Exit → Act → World → Prop) (hK : ∀ v g' w', Zq g' w' (opH E hk s nm sl o.op).val v → Inv g' (s.upd (opH E hk s nm sl o.op)) w' (fun i => F i ∧ ¬ (nm ≤ i ∧ i < nm + 4)) → KeepsM M g w g' w' → HL (ZdJ l i) g' w' → K (a.put o.dst v) w') : o.wpIn (FR fr) fm E.P a w K Q := by
  cases hq : hk o.op (ev E sl) with
  | none =>
    have hni : i ∉ effs := fun hm => by obtain ⟨r, hr⟩ := HK.hit i hm o ho (ev E sl); rw [hq] at hr; cases hr
    have he : opH E hk s nm sl o.op = opR E s nm sl o.op := by unfold opH; rw [hq]
    rw [he] at hv hK
    exact Zb7 (ZfS hv) (Zhn hE hs hg hv hi hF K Q fun v g' w' h1 h2 h3 => hK v g' w' h1 h2 h3.m (HK.only _ _ hni (HK.stab l _ _ _ _ h3 hh)))
  | some r =>
    have he : opH E hk s nm sl o.op = r := by unfold opH; rw [hq]
    rw [he] at hv hK
    obtain ⟨hu, ht, hd⟩ := HK.still _ _ _ hq
    by_cases hm : i ∈ effs
    · obtain ⟨v, w', hrun, h1, h2, h3, h4⟩ := HK.eff i o ho hm l a g s w F sl r hdn hb hdn.1 hs hg hh hq hv hi
      have hupd : s.upd r = s := by simp [S.upd, hu, ht]
      have hK' := hK v g w' h1 (by rw [hupd]; exact h3.less fun _ h => h.1) h2 h4
      refine Zb7 hd ?_
      unfold Oper.wp
      rcases hrun with hrun | ⟨hrun, rfl⟩
      · rw [hrun]; exact hK'
      · rw [hrun]; exact hK'
    · exact Zb7 hd (HK.gives i o ho hm l a g s w F nm sl r hdn hs hg hh hq hv hi hF K Q fun v g' w' h1 h2 h3 => hK v g' w' h1 h2 h3.m (HK.only _ _ hm (HK.stab l _ _ _ _ h3 hh)))
def Zgh (E : Env) (hk : Zcs) (N : Nat) (ops : List Oper) (X W : List (Nat × List Nat)) (sl : List (Nat × D)) (s : S) (i : Nat) (pre : List Ent) (o : Oper) (e : Ent) : Prop :=
  ZbJ N o.dst ∧
  (let sl1 := ZD sl ops pre
   let s1 := (ZU X i s 0 pre).drop (Z9 s.next X W i)
   let r := opH E hk s1 (s.next + 4 * i) sl1 o.op
   let good := r.vc ∧ e = ⟨r.val, r.ups, r.tups⟩ ∧ Zc5 ops X W s.next i r.ups r.tups
   match o.guard with
   | none => good
   | some (j, want) => ∃ d b, ZaE ops sl1 j = some (d, b) ∧ (b = want → good) ∧ (b = !want → e = ⟨.any, [], []⟩))
def Zek (E : Env) (hk : Zcs) (N : Nat) (ops : List Oper) (X W : List (Nat × List Nat)) (sl : List (Nat × D)) (s : S) (K : List (Nat × D) → S → Prop) : List Oper → Nat → List Ent → Prop
  | [], _, pre => K (ZD sl ops pre) (ZaO s pre)
  | o :: rest, i, pre =>
    ZbJ N o.dst ∧
    match o.guard with
    | none => (opH E hk ((ZU X i s 0 pre).drop (Z9 s.next X W i)) (s.next + 4 * i) (ZD sl ops pre) o.op).then fun v u t => Zc5 ops X W s.next i u t ∧ Zek E hk N ops X W sl s K rest (i + 1) (pre ++ [⟨v, u, t⟩])
    | some (j, want) => Zea (ZaE ops (ZD sl ops pre) j) fun d b =>
        (b = want → (opH E hk ((ZU X i s 0 (Zf2 pre j want)).drop (Z9 s.next X W i)) (s.next + 4 * i) (ZD sl ops (Zf2 pre j want)) o.op).then fun v u t => Zc5 ops X W s.next i u t ∧ Zek E hk N ops X W sl s K rest (i + 1) (Zf2 pre j want ++ [⟨v, u, t⟩])) ∧
        (b = !want → Zek E hk N ops X W sl s K rest (i + 1) (Zf2 pre j (!want) ++ [⟨.any, [], []⟩]))
theorem Zkb {E : Env} {hk : Zcs} {N : Nat} {ops : List Oper} {X W : List (Nat × List Nat)} {sl : List (Nat × D)} {s : S} {K : List (Nat × D) → S → Prop} (hn : ZaK (ops.filterMap (·.dst)) = true) :
    ∀ (rest : List Oper) (i : Nat) (pre : List Ent), ops.drop i = rest → i ≤ ops.length → pre.length = i → Zek E hk N ops X W sl s K rest i pre →
      (∀ k o e, k < i → ops[k]? = some o → pre[k]? = some e → Zgh E hk N ops X W sl s k (pre.take k) o e) →
      ∃ T : List Ent, T.length = ops.length ∧ K (ZD sl ops T) (ZaO s T) ∧ ∀ k o e, ops[k]? = some o → T[k]? = some e → Zgh E hk N ops X W sl s k (T.take k) o e := by
  intro rest
  induction rest with
  | nil =>
    intro i pre hd hil hl h hall
    have hge : ops.length ≤ i := by have := congrArg List.length hd; simp at this; omega
    exact ⟨pre, by omega, h, fun k o e ho he => hall k o e (by have := (List.getElem?_eq_some_iff.1 ho).1; omega) ho he⟩
  | cons o rest ih =>
    intro i pre hd hil hl h hall
    have hlt : i < ops.length := by have := congrArg List.length hd; simp at this; omega
    have ho : ops[i]? = some o := by have := congrArg (·[0]?) hd; simpa [List.getElem?_drop] using this
    have hd' : ops.drop (i + 1) = rest := by
      have := congrArg (List.drop 1) hd
      simpa [List.drop_drop, Nat.add_comm] using this
    obtain ⟨hdst, h⟩ := h
    have step : ∀ e : Ent, Zgh E hk N ops X W sl s i pre o e → Zek E hk N ops X W sl s K rest (i + 1) (pre ++ [e]) → ∃ T : List Ent, T.length = ops.length ∧ K (ZD sl ops T) (ZaO s T) ∧ ∀ k o e, ops[k]? = some o → T[k]? = some e → Zgh E hk N ops X W sl s k (T.take k) o e := by
      intro e he hr
      refine ih (i + 1) (pre ++ [e]) hd' (by omega) (by simp [hl]) hr fun k o' e' hk ho' he' => ?_
      by_cases hki : k = i
      · subst hki
        rw [ho] at ho'
        simp at ho'
        subst ho'
        rw [List.getElem?_append_right (by omega), hl] at he'
        simp at he'
        subst he'
        rw [List.take_append_of_le_length (by omega), List.take_of_length_le (by omega)]
        exact he
      · rw [List.getElem?_append_left (by omega)] at he'
        rw [List.take_append_of_le_length (by omega)]
        exact hall k o' e' (by omega) ho' he'
    cases hg : o.guard with
    | none =>
      simp only [hg] at h
      obtain ⟨hvc, hok, hr⟩ := h
      exact step _ ⟨hdst, by simp only [hg]; exact ⟨hvc, by simp, hok⟩⟩ hr
    | some jw =>
      obtain ⟨j, want⟩ := jw
      simp only [hg] at h
      unfold Zea at h
      cases hy : ZaE ops (ZD sl ops pre) j with
      | none => simp [hy] at h
      | some db =>
        obtain ⟨d, b⟩ := db
        simp only [hy] at h
        have hset : ∀ c, b = c → Zf2 pre j c = pre := by
          rintro c rfl
          refine ZbU sl ops pre fun e he => ?_
          unfold ZaE at hy
          have hjl : j < pre.length := (List.getElem?_eq_some_iff.1 he).1
          cases hdj : (ops[j]?).bind (·.dst) with
          | none => rw [hdj] at hy; cases hy
          | some t =>
            rw [hdj] at hy
            simp only at hy
            rw [(Zay sl ops pre t hn (by omega)).1 j hjl hdj, he] at hy
            simp only [Option.map_some] at hy
            cases hv : e.v <;> simp only [hv, reduceCtorEq] at hy
            simp at hy
            rw [hy.2]
        by_cases hb : b = want
        · have h1 := h.1 hb
          rw [hset want hb] at h1
          obtain ⟨hvc, hok, hr⟩ := h1
          exact step _ ⟨hdst, by simp only [hg]; exact ⟨d, b, hy, fun _ => ⟨hvc, by simp, hok⟩, fun hb' => by subst hb; cases b <;> simp at hb'⟩⟩ hr
        · have hb' : b = !want := by
            cases b <;> cases want
            · exact absurd rfl hb
            · rfl
            · rfl
            · exact absurd rfl hb
          have h1 := h.2 hb'
          rw [hset (!want) hb'] at h1
          exact step _ ⟨hdst, by simp only [hg]; exact ⟨d, b, hy, fun h => absurd h hb, fun _ => by simp⟩⟩ h1
structure JH (E : Env) (M : Nat → Prop) (HL : (Nat → Bool) → Gh → World → Prop) (N : Nat) (L : List Oper) (sl : List (Nat × D)) (s : S) (T : List Ent) (g0 : Gh) (w0 : World) (D0 : List Deferred) (listed : Array Bool) (a : Act) (w : World) (g : Gh) : Prop where
  keeps : KeepsM M g0 w0 g w
  size : a.tmps.size = N
  defers : a.defers = D0
  down : Down L listed
  done : ∀ k o e t, onB listed k = true → L[k]? = some o → T[k]? = some e → o.dst = some t → Zq g w e.v (a.tmps.getD t undef)
  rest : ∀ t d, Zm sl t = some d → (∀ k o, onB listed k = true → L[k]? = some o → o.dst ≠ some t) → t < N ∧ Zq g w d (a.tmps.getD t undef)
  inv : Inv g (stL (onB listed) s 0 T) w (fun x => s.next ≤ x ∧ ∀ k, onB listed k = true → ¬ (s.next + 4 * k ≤ x ∧ x < s.next + 4 * k + 4))
  globs : ZO E g w
  hid : HL (onB listed) g w
theorem Zjb {E : Env} {hk : Zcs} {N : Nat} {L : List Oper} {X W : List (Nat × List Nat)} {sl : List (Nat × D)} {s : S} {k : Nat} {pre : List Ent} {o : Oper} {e : Ent} (h : Zgh E hk N L X W sl s k pre o e) :
    e.ids = [] ∨ (ZdI L k ((Zm X k).getD []) = true ∧ ((Zm X k).getD [] = [] ∨ ∀ id ∈ e.ids, (s.next + 4 * k ≤ id ∧ id < s.next + 4 * k + 4) ∨ id ∈ (Zm W k).getD [])) := by
  obtain ⟨_, h⟩ := h
  have good : ∀ r : R, e = ⟨r.val, r.ups, r.tups⟩ → Zc5 L X W s.next k r.ups r.tups → e.ids = [] ∨ (ZdI L k ((Zm X k).getD []) = true ∧ ((Zm X k).getD [] = [] ∨ ∀ id ∈ e.ids, (s.next + 4 * k ≤ id ∧ id < s.next + 4 * k + 4) ∨ id ∈ (Zm W k).getD [])) := by
    intro r he hu
    subst he
    rcases hu with ⟨h1, h2⟩ | ⟨h1, h2⟩
    · exact .inl (by simp [Ent.ids, h1, h2])
    · exact .inr ⟨h1, h2⟩
  cases hg : o.guard with
  | none => simp only [hg] at h; exact good _ h.2.1 h.2.2
  | some jw =>
    obtain ⟨j, want⟩ := jw
    simp only [hg] at h
    obtain ⟨d, b, _, h1, h2⟩ := h
    by_cases hb : b = want
    · exact good _ (h1 hb).2.1 (h1 hb).2.2
    · have := h2 (by cases b <;> cases want <;> simp_all)
      subst this
      exact .inl rfl
theorem ZwA {E : Env} (hE : EnvOk E) {hk : Zcs} {M : Nat → Prop} {HL : (Nat → Bool) → Gh → World → Prop} {effs : List Nat} {N : Nat} {ops : Array Oper} {X W : List (Nat × List Nat)} {sl : List (Nat × D)} {s : S} {T : List Ent} {g0 : Gh} {w0 : World} {D0 : List Deferred} (HK : HookOk E hk effs ops HL M) (hreg : Zb2 ops.toList = true) (hW : Zdc X W s.next) (hT : T.length = ops.toList.length)
    (hent : ∀ k o e, ops.toList[k]? = some o → T[k]? = some e → Zgh E hk N ops.toList X W sl s k (T.take k) o e) {listed : Array Bool} {a : Act} {w : World} {g : Gh} (hJ : JH E M HL N ops.toList sl s T g0 w0 D0 listed a w g) {i : Nat} {o : Oper} (ho : ops[i]? = some o)
    (hun : onB listed i = false) (hall : ∀ e ∈ o.after.toList, Region.binds .any e = true → onB listed e.on = true) {K : Act → World → Prop} {Q : Exit → Act → World → Prop} {fr : Option Nat} {fm : Nat}
    (hK : ∀ a' w' g', JH E M HL N ops.toList sl s T g0 w0 D0 (listed.setIfInBounds i true) a' w' g' → K a' w') : wpOpIn (FR fr) fm E.P ops Q i K a w := by
  have hoL : ops.toList[i]? = some o := by simpa using ho
  have hil : i < ops.toList.length := (List.getElem?_eq_some_iff.1 hoL).1
  have hisz : i < listed.size := by rw [hJ.down.size]; exact hil
  obtain ⟨e, he⟩ : ∃ e, T[i]? = some e := ⟨T[i]'(by omega), List.getElem?_eq_getElem (by omega)⟩
  obtain ⟨hnd, hrd⟩ := Zd6 hreg
  have hentI := hent i o e hoL he
  have hset := Zhp hisz
  have hsetF : onB (listed.setIfInBounds i true) = ZdJ (onB listed) i := funext fun k => hset k
  have hslots : ∀ t ∈ Zb3 ops.toList o, ∀ d, Zm (ZD sl ops.toList (T.take i)) t = some d → t < N ∧ Zq g w d (a.tmps.getD t undef) := by
    intro t ht d hd
    obtain ⟨q1, q2⟩ := Zay sl ops.toList (T.take i) t hnd (by rw [List.length_take]; omega)
    by_cases hex : ∃ j, j < (T.take i).length ∧ (ops.toList[j]?).bind (·.dst) = some t
    · obtain ⟨j, hj, hjd⟩ := hex
      have hji : j < i := by rw [List.length_take] at hj; omega
      rw [q1 j hj hjd] at hd
      cases hq : ops.toList[j]? with
      | none => simp [hq] at hjd
      | some q =>
        have hqd : q.dst = some t := by simpa [hq] using hjd
        have hTj : T[j]? = some (T[j]'(by omega)) := List.getElem?_eq_getElem (by omega)
        rw [List.getElem?_take, if_pos hji, hTj] at hd
        simp at hd
        subst hd
        rcases ZfD hreg hJ.down hoL hq hun hall (hrd i o hoL t ht j q hq hqd) with ⟨_, hon⟩ | ⟨hlt, _⟩
        · refine ⟨?_, hJ.done j q _ t hon hq hTj hqd⟩
          have := (hent j q _ hq hTj).1
          rw [hqd] at this
          exact this
        · omega
    · rw [q2 (fun j hj hjd => hex ⟨j, hj, hjd⟩)] at hd
      refine hJ.rest t d hd fun k q hon hq hqd => ?_
      rcases ZfD hreg hJ.down hoL hq hun hall (hrd i o hoL t ht k q hq hqd) with ⟨hlt, _⟩ | ⟨_, hoff⟩
      · exact hex ⟨k, by rw [List.length_take]; omega, by simp [hq, hqd]⟩
      · rw [hon] at hoff; cases hoff
  have finish : ∀ (v : Value) (g' : Gh) (w' : World), KeepsM M g w g' w' → HL (onB (listed.setIfInBounds i true)) g' w' → Zq g' w' e.v v → Inv g' (ZbF (stL (onB listed) s 0 T) e.u e.t) w' (fun x => s.next ≤ x ∧ ∀ k, onB (listed.setIfInBounds i true) k = true → ¬ (s.next + 4 * k ≤ x ∧ x < s.next + 4 * k + 4)) →
      K (a.put o.dst v) w' := by
    intro v g' w' hk hhid hrep hinv
    refine hK _ _ g' ⟨hJ.keeps.trans hk (fun _ _ h => h), by rw [Za2]; exact hJ.size, by cases o.dst <;> exact hJ.defers, ⟨by simpa using hJ.down.size, fun j q hq hon e' he' hb => ?_⟩, fun k q f t hon hq hf hqd => ?_, fun t d hd hno => ?_, ?_, hJ.globs.ext hk.ext, hhid⟩
    · rw [hset] at hon ⊢
      split at hon
      · rename_i hji
        subst hji
        rw [hoL] at hq
        simp at hq
        subst hq
        split
        · rfl
        · exact hall e' he' hb
      · split
        · rfl
        · exact hJ.down.closed j q hq hon e' he' hb
    · rw [hset] at hon
      split at hon
      · rename_i hki
        subst hki
        rw [hoL] at hq
        simp at hq
        subst hq
        rw [he] at hf
        simp at hf
        subst hf
        have htN : t < a.tmps.size := by
          have := hentI.1
          rw [hqd] at this
          rw [hJ.size]
          exact this
        simp only [hqd, Act.put]
        simpa [htN] using hrep
      · rename_i hki
        have := (hJ.done k q f t hon hq hf hqd).ext hk.ext
        cases hod : o.dst with
        | none => simpa [Act.put] using this
        | some t' =>
          have hne : t' ≠ t := fun e => by subst e; exact hki (ZhT hnd hq hoL hqd hod)
          simpa [Act.put, Array.getElem?_setIfInBounds_ne hne] using this
    · have hoi : o.dst ≠ some t := hno i o (by rw [hset]; simp) hoL
      obtain ⟨h1, h2⟩ := hJ.rest t d hd fun k q hon hq => hno k q (by rw [hset]; exact ifT hon) hq
      refine ⟨h1, ?_⟩
      cases hod : o.dst with
      | none => simpa [Act.put] using h2.ext hk.ext
      | some t' =>
        have hne : t' ≠ t := fun e => hoi (by rw [hod, e])
        simpa [Act.put, Array.getElem?_setIfInBounds_ne hne] using h2.ext hk.ext
    · refine hinv.peq (Peq.symm (Zjh T 0 i s he (by simpa using hun) (by simp [hset]) (fun k hk' => by rw [hset, if_neg (by omega)]) fun k f hik hf hon x hx hxf => ?_))
      rw [Nat.zero_add] at hon
      have hkl : k < ops.toList.length := by have := (List.getElem?_eq_some_iff.1 hf).1; omega
      have hqk : ops.toList[k]? = some ops.toList[k] := List.getElem?_eq_getElem hkl
      have hnc : Zhd (Zcu ops.toList []) i k = false := by
        cases hc : Zhd (Zcu ops.toList []) i k with
        | false => rfl
        | true =>
          rcases ZfD hreg hJ.down hoL hqk hun hall hc with ⟨h1, _⟩ | ⟨_, h1⟩
          · omega
          · rw [hon] at h1; cases h1
      have hnc' : Zhd (Zcu ops.toList []) k i = false := by
        unfold Zhd at hnc ⊢
        rw [Bool.or_comm]
        exact hnc
      have hentK := hent k _ f hqk hf
      rcases Zjb hentI with h1 | ⟨h1, h2⟩
      · rw [h1] at hx; simp at hx
      rcases Zjb hentK with k1 | ⟨k1, k2⟩
      · rw [k1] at hxf; simp at hxf
      have m1 : ((Zm X i).getD []).contains k = true := by
        cases hc : ((Zm X i).getD []).contains k with
        | true => rfl
        | false => rw [Zel h1 hkl (by omega) hc] at hnc'; cases hnc'
      have m2 : ((Zm X k).getD []).contains i = true := by
        cases hc : ((Zm X k).getD []).contains i with
        | true => rfl
        | false => rw [Zel k1 hil (by omega) hc] at hnc; cases hnc
      have pair : ∀ {a b : Nat}, ((Zm X a).getD []).contains b = true → (a, (Zm X a).getD []) ∈ X ∧ b ∈ (Zm X a).getD [] := by
        intro a b h
        cases hl : Zm X a with
        | none => rw [hl] at h; simp at h
        | some xs => rw [hl] at h; exact ⟨ZbD hl, by simpa using h⟩
      obtain ⟨p1, p2⟩ := pair m1
      obtain ⟨p3, p4⟩ := pair m2
      have e1 := h2.resolve_left (by intro e; rw [e] at p2; simp at p2) x hx
      have e2 := k2.resolve_left (by intro e; rw [e] at p4; simp at p4) x hxf
      rcases e1 with e1 | e1 <;> rcases e2 with e2 | e2
      · omega
      · exact (hW _ p3 x e2 i p4).1 e1
      · exact (hW _ p1 x e1 k p2).1 e2
      · exact (hW _ p1 x e1 k p2).2 e2
  have hFr : ∀ x, (s.next ≤ x ∧ ∀ k, onB listed k = true → ¬ (s.next + 4 * k ≤ x ∧ x < s.next + 4 * k + 4)) → ¬ (s.next + 4 * i ≤ x ∧ x < s.next + 4 * i + 4) → (s.next ≤ x ∧ ∀ k, onB (listed.setIfInBounds i true) k = true → ¬ (s.next + 4 * k ≤ x ∧ x < s.next + 4 * k + 4)) := by
    intro x h1 h2
    refine ⟨h1.1, fun k hk => ?_⟩
    rw [hset] at hk
    split at hk
    · rename_i e; subst e; exact h2
    · exact h1.2 k hk
  have run : ∀ r : R, r = opH E hk ((ZU X i s 0 (T.take i)).drop (Z9 s.next X W i)) (s.next + 4 * i) (ZD sl ops.toList (T.take i)) o.op → r.vc → e = ⟨r.val, r.ups, r.tups⟩ → o.wpIn (FR fr) fm E.P a w K Q := by
    intro r hr hvc hre
    let sl2 := (ZD sl ops.toList (T.take i)).filter fun p => (Zb3 ops.toList o).contains p.1
    have hl2 : ∀ t, Zm sl2 t = if (Zb3 ops.toList o).contains t = true then Zm (ZD sl ops.toList (T.take i)) t else none := ZbR (Zb3 ops.toList o).contains _
    have hs2 : ZJ g w sl2 a := ⟨trivial, fun t d hd => by
      rw [hl2] at hd
      split at hd
      · rename_i hc
        have := hslots t (by simpa using hc) d hd
        rw [hJ.size]
        exact this
      · cases hd⟩
    have heq : opH E hk ((ZU X i s 0 (T.take i)).drop (Z9 s.next X W i)) (s.next + 4 * i) sl2 o.op = r := by
      rw [hr]
      refine Zr3 HK.loc fun t ht => ?_
      rw [hl2, if_pos]
      have : t ∈ Zb3 ops.toList o := List.mem_append.2 (.inl ht)
      simpa using this
    have hknown : ∀ x, x ∉ Z9 s.next X W i → (ZU X i s 0 (T.take i)).box x = (stL (onB listed) s 0 T).box x ∧ (ZU X i s 0 (T.take i)).tok x = (stL (onB listed) s 0 T).tok x := by
      intro x hx
      refine Zky T 0 i s fun k f hf => ?_
      rw [Nat.zero_add]
      have hkl : k < ops.toList.length := by have := (List.getElem?_eq_some_iff.1 hf).1; omega
      have hqk : ops.toList[k]? = some ops.toList[k] := List.getElem?_eq_getElem hkl
      by_cases hki : k = i
      · subst hki; exact .inr (.inr ⟨Nat.le_refl _, hun⟩)
      rcases Zjb (hent k _ f hqk hf) with h1 | ⟨h1, h2⟩
      · exact .inr (.inl (by rw [h1]; simp))
      by_cases hc : ((Zm X k).getD []).contains i = true
      · refine .inr (.inl fun hxf => hx ?_)
        cases hl : Zm X k with
        | none => rw [hl] at hc; simp at hc
        | some xs =>
          rw [hl] at hc h2
          have hne : (some xs).getD [] ≠ [] := by intro e; rw [e] at hc; simp at hc
          unfold Z9
          refine List.mem_flatMap.2 ⟨(k, xs), List.mem_filter.2 ⟨ZbD hl, by simpa using hc⟩, ?_⟩
          rcases h2.resolve_left hne x hxf with h3 | h3
          · refine List.mem_append.2 (.inl ?_)
            have : x = s.next + 4 * k ∨ x = s.next + 4 * k + 1 ∨ x = s.next + 4 * k + 2 ∨ x = s.next + 4 * k + 3 := by omega
            simpa using this
          · exact List.mem_append.2 (.inr h3)
      · have hc' : ((Zm X k).getD []).contains i = false := by simpa using hc
        rcases ZfD hreg hJ.down hoL hqk hun hall (Zel h1 hil (by omega) hc') with ⟨a1, a2⟩ | ⟨a1, a2⟩
        · exact .inl ⟨a1, hc', a2⟩
        · exact .inr (.inr ⟨by omega, a2⟩)
    have hsub : Sub ((ZU X i s 0 (T.take i)).drop (Z9 s.next X W i)) (stL (onB listed) s 0 T) := by
      constructor
      · intro id d hd
        have hd' : Zm ((ZU X i s 0 (T.take i)).bs.filter fun p => !(Z9 s.next X W i).contains p.1) id = some d := hd
        rw [ZbR (fun k => !(Z9 s.next X W i).contains k)] at hd'
        split at hd'
        · rename_i hc
          rw [← (hknown id (by simpa using hc)).1]
          exact hd'
        · cases hd'
      · intro id d hd
        have hd' : Zm ((ZU X i s 0 (T.take i)).ts.filter fun p => !(Z9 s.next X W i).contains p.1) id = some d := hd
        rw [ZbR (fun k => !(Z9 s.next X W i).contains k)] at hd'
        split at hd'
        · rename_i hc
          rw [← (hknown id (by simpa using hc)).2]
          exact hd'
        · cases hd'
    have hlike := Zuq (E := E) (hk := hk) hsub (s.next + 4 * i) sl2 o.op
    rw [heq] at hlike
    obtain ⟨l1, l2, l3, l4⟩ := hlike hvc
    have hnames : Zas (s.next + 4 * i) (fun x => s.next ≤ x ∧ ∀ k, onB listed k = true → ¬ (s.next + 4 * k ≤ x ∧ x < s.next + 4 * k + 4)) := by
      intro x h1 h2
      refine ⟨by omega, fun k hk hk2 => ?_⟩
      have : k = i := by omega
      subst this
      rw [hun] at hk
      cases hk
    refine Zsc hE HK ho (fun j hj => ZmP hreg hJ.down i j hoL hall hj) ⟨hun, fun j o' hj hl e he => ZmP hreg hJ.down j e (by simpa using hj) (fun e' h1 h2 => hJ.down.closed j o' (by simpa using hj) hl e' h1 h2) he⟩ hs2 hJ.globs hJ.hid l1 hJ.inv hnames K Q fun v g' w' hrep hinv hkp hhid => ?_
    have ev' : e.v = (opH E hk (stL (onB listed) s 0 T) (s.next + 4 * i) sl2 o.op).val := by rw [hre, l2]
    refine finish v g' w' hkp (by rw [hsetF]; exact hhid) (by rw [ev']; exact hrep) ?_
    have : ZbF (stL (onB listed) s 0 T) e.u e.t = (stL (onB listed) s 0 T).upd (opH E hk (stL (onB listed) s 0 T) (s.next + 4 * i) sl2 o.op) := by
      rw [Zc4, l3, l4, hre]
    rw [this]
    refine hinv.less fun x hx => ⟨⟨hx.1, fun k hk => hx.2 k (by rw [hset]; exact ifT hk)⟩, hx.2 i (by rw [hset]; simp)⟩
  unfold wpOpIn
  rw [ho]
  obtain ⟨hdst, hg⟩ := hentI
  cases hgd : o.guard with
  | none =>
    simp only [hgd] at hg
    simp only [Region.wanted, hgd, if_true]
    exact (run _ rfl hg.1 hg.2.1)
  | some jw =>
    obtain ⟨j, want⟩ := jw
    simp only [hgd] at hg
    obtain ⟨d, b, hy, h1, h2⟩ := hg
    have hyl : yielded ops a.tmps j = some b := by
      unfold ZaE at hy
      cases hdj : (ops.toList[j]?).bind (·.dst) with
      | none => rw [hdj] at hy; cases hy
      | some d' =>
        rw [hdj] at hy
        simp only at hy
        cases hl : Zm (ZD sl ops.toList (T.take i)) d' with
        | none => simp [hl] at hy
        | some x =>
          cases x <;> simp only [hl, reduceCtorEq] at hy
          rename_i b'
          simp at hy
          obtain ⟨rfl, rfl⟩ := hy
          have hmem : d' ∈ Zb3 ops.toList o := by
            unfold Zb3
            rw [hgd]
            exact List.mem_append.2 (.inr (by simp only [hdj]; simp))
          obtain ⟨q1, q2⟩ := hslots d' hmem _ hl
          simp only [Zq, Zn, Zk] at q2
          simp at q2
          have hd' : (ops[j]?).bind (·.dst) = some d' := by simpa using hdj
          have h3 : a.tmps[d']? = some (.bool b') := by
            have : d' < a.tmps.size := by rw [hJ.size]; exact q1
            rw [Array.getElem?_eq_getElem this] at q2 ⊢
            simpa using q2
          simp [yielded, hd', h3]
    by_cases hb : b = want
    · subst hb
      simp only [Region.wanted, hgd, hyl, beq_self_eq_true, if_true]
      exact (run _ rfl (h1 rfl).1 (h1 rfl).2.1)
    · have hb' : b = !want := by
        cases b <;> cases want
        · exact absurd rfl hb
        · rfl
        · rfl
        · exact absurd rfl hb
      have hw : (some b == some want) = false := by subst hb'; cases want <;> rfl
      simp only [Region.wanted, hgd, hyl, hw, Bool.false_eq_true, if_false]
      have he2 := h2 hb'
      refine ⟨fun _ _ => trivial, finish undef g w (Keeps.refl g w).m (by rw [hsetF]; exact HK.only _ _ (fun hm => by rw [HK.ung i hm o ho] at hgd; cases hgd) hJ.hid) (by rw [he2]; exact Zc1 _ _ _) ?_⟩
      rw [he2]
      exact hJ.inv.less fun x hx => ⟨hx.1, fun k hk => hx.2 k (by rw [hset]; exact ifT hk)⟩
theorem ZsL {E : Env} (hE : EnvOk E) {hk : Zcs} {M : Nat → Prop} {HL : (Nat → Bool) → Gh → World → Prop} {effs : List Nat} {N : Nat} {ops : Array Oper} {X W : List (Nat × List Nat)} {sl : List (Nat × D)} {s : S} {T : List Ent} {g0 : Gh} {w0 : World} {D0 : List Deferred} (HK : HookOk E hk effs ops HL M) (hreg : Zb2 ops.toList = true) (hW : Zdc X W s.next) (hT : T.length = ops.toList.length)
    (hent : ∀ k o e, ops.toList[k]? = some o → T[k]? = some e → Zgh E hk N ops.toList X W sl s k (T.take k) o e) {Q : Exit → Act → World → Prop} {fr : Option Nat} {fm : Nat}
    (hQ : ∀ listed a w g, JH E M HL N ops.toList sl s T g0 w0 D0 listed a w g → (∀ i, i < ops.size → onB listed i = true) → Q .normal a w) :
    ∀ (fuel : Nat) (listed : Array Bool) (a : Act) (w : World) (g : Gh), JH E M HL N ops.toList sl s T g0 w0 D0 listed a w g → ZmB listed ops.size = fuel → wpAnyIn (FR fr) fm E.P .any ops Q fuel listed a w := by
  intro fuel
  induction fuel with
  | zero =>
    intro listed a w g hJ hc
    have hall : ∀ i, i < ops.size → onB listed i = true := by
      intro i hi
      unfold ZmB at hc
      have := List.countP_eq_zero.1 hc i (List.mem_range.2 hi)
      simpa using this
    refine ⟨?_, hQ listed a w g hJ hall⟩
    cases hr : Region.ready .any ops listed with
    | nil => rfl
    | cons i r =>
      exfalso
      have hm : i ∈ Region.ready .any ops listed := by rw [hr]; exact List.mem_cons_self
      obtain ⟨h1, o, h2, _⟩ := mem_ready.1 hm
      have hi := (Array.getElem?_eq_some_iff.1 h2).1
      have hls : i < listed.size := by rw [hJ.down.size]; simpa using hi
      have := hall i hi
      unfold onB at this
      simp [hls] at h1 this
      rw [h1] at this
      cases this
  | succ fuel ih =>
    intro listed a w g hJ hc
    refine ⟨fun hr => hQ listed a w g hJ (ZtA hreg hJ.down hr), fun i hm => ?_⟩
    obtain ⟨h1, o, h2, h3⟩ := mem_ready.1 hm
    have hi := (Array.getElem?_eq_some_iff.1 h2).1
    have hls : i < listed.size := by rw [hJ.down.size]; simpa using hi
    have hun : onB listed i = false := by
      unfold onB
      simp [hls] at h1 ⊢
      exact h1
    refine ZwA hE HK hreg hW hT hent hJ h2 hun (fun e he hb => h3 e (Array.mem_toList_iff.1 he) hb) fun a' w' g' hJ' => ih _ a' w' g' hJ' ?_
    have := Zqv hi hls hun
    omega
theorem Zib {E : Env} (hE : EnvOk E) {hk : Zcs} {M : Nat → Prop} {HL : (Nat → Bool) → Gh → World → Prop} {effs : List Nat} {N id : Nat} {ops : Array Oper} {X W : List (Nat × List Nat)} {sl : List (Nat × D)} {s : S} {K : List (Nat × D) → S → Prop} {Q : Exit → Act → World → Prop} {fr : Option Nat} {fm : Nat} (HK : HookOk E hk effs ops HL M) (hreg : Zb2 ops.toList = true) (hW : Zdc X W s.next)
    (h : Zek E hk N ops.toList X W sl s K ops.toList 0 []) {g : Gh} {w : World} {a : Act} (hN : a.tmps.size = N) (hs : ZJ g w sl a) (hg : ZO E g w) (hi : Inv g s w (after s.next)) (hh : HL (fun _ => false) g w)
    (hQ : ∀ sl' s' g' w' a', K sl' s' → a'.tmps.size = N → ZJ g' w' sl' a' → Inv g' s' w' (after (s.next + 4 * ops.size)) → KeepsM M g w g' w' → a'.defers = a.defers → (∃ l, (∀ i, i < ops.size → l i = true) ∧ HL l g' w') → Q .normal a' w') : (Code.region id ops true).wpIn (FR fr) fm E.P Q a w := by
  obtain ⟨hnd, _⟩ := Zd6 hreg
  obtain ⟨T, hT, hK, hent⟩ := Zkb hnd ops.toList 0 [] (by simp) (Nat.zero_le _) rfl h (fun k o e hk => by omega)
  have hk0 := ZcW g w
  refine wpIn_region_any hE.mixed ?_
  have hnone : ∀ k, onB (Array.replicate ops.size false) k = false := fun k => by
    unfold onB
    by_cases hk : k < ops.size <;> simp [hk]
  have hst : stL (onB (Array.replicate ops.size false)) s 0 T = s := by
    have : ∀ (es : List Ent) (j : Nat) (s : S), stL (onB (Array.replicate ops.size false)) s j es = s := by
      intro es
      induction es with
      | nil => intros; rfl
      | cons e es ih => intro j s; simp only [stL, hnone, Bool.false_eq_true, if_false]; exact ih _ _
    exact this T 0 s
  have hJ0 : JH E M HL N ops.toList sl s T g w a.defers (Array.replicate ops.size false) a w.drew g := by
    refine ⟨hk0.m, hN, rfl, ⟨by simp, fun j o _ h => ?_⟩, fun k o e t h => ?_, fun t d hd _ => ?_, ?_, ?_, ?_⟩
    · rw [hnone] at h; cases h
    · rw [hnone] at h; cases h
    · obtain ⟨h1, h2⟩ := hs.2 t d hd
      exact ⟨hN ▸ h1, h2.ext hk0.ext⟩
    · rw [hst]; exact hi.drew.less fun x hx => hx.1
    · exact hg.ext hk0.ext
    · have e : onB (Array.replicate ops.size false) = fun _ => false := funext hnone
      rw [e]
      exact HK.stab _ g w g w.drew hk0 hh
  refine ZsL hE (g0 := g) (w0 := w) (D0 := a.defers) HK hreg hW hT hent ?_ ops.size _ a w.drew g hJ0 (Zos _)
  intro listed a' w' g' hJ hall
  have hfin : stL (onB listed) s 0 T = ZaO s T := Zmi T 0 s fun k hk => by rw [Nat.zero_add]; exact hall k (by rw [hT] at hk; simpa using hk)
  refine hQ _ _ g' w' a' hK hJ.size ⟨trivial, fun t d hd => ?_⟩ (by rw [← hfin]; exact hJ.inv.less fun x hx => ⟨by unfold after at hx; omega, fun k hk => by
    have : k < ops.size := by
      rcases Nat.lt_or_ge k ops.size with h1 | h1
      · exact h1
      · exfalso
        have hls : listed.size = ops.size := by rw [hJ.down.size]; simp
        unfold onB at hk
        simp [Array.getElem?_eq_none (show listed.size ≤ k by omega)] at hk
    unfold after at hx
    omega⟩) hJ.keeps hJ.defers ⟨_, hall, hJ.hid⟩
  obtain ⟨q1, q2⟩ := Zay sl ops.toList T t hnd (by omega)
  by_cases hex : ∃ j, j < T.length ∧ (ops.toList[j]?).bind (·.dst) = some t
  · obtain ⟨j, hj, hjd⟩ := hex
    rw [q1 j hj hjd, List.getElem?_eq_getElem hj] at hd
    simp at hd
    subst hd
    cases hq : ops.toList[j]? with
    | none => simp [hq] at hjd
    | some q =>
      have hqd : q.dst = some t := by simpa [hq] using hjd
      have hTj := List.getElem?_eq_getElem hj
      have := (hent j q _ hq hTj).1
      rw [hqd] at this
      exact ⟨by rw [hJ.size]; exact this, hJ.done j q _ t (hall j (by have := (List.getElem?_eq_some_iff.1 hq).1; simpa using this)) hq hTj hqd⟩
  · rw [q2 fun j hj hjd => hex ⟨j, hj, hjd⟩] at hd
    obtain ⟨h1, h2⟩ := hJ.rest t d hd fun k q hon hq hqd => hex ⟨k, by have := (List.getElem?_eq_some_iff.1 hq).1; omega, by simp [hq, hqd]⟩
    exact ⟨by rw [hJ.size]; exact h1, h2⟩
def ZdL (E : Env) (hk : Zcs) (N : Nat) (all : List Oper) (X W : List (Nat × List Nat)) (s : S) (K : List (Nat × D) → S → Prop) : List Oper → Nat → List (Nat × D) → List Ent → Prop
  | [], _, sl, pre => K sl (ZaO s pre)
  | o :: rest, i, sl, pre =>
    ZbJ N o.dst ∧
    match o.guard with
    | none => (opH E hk ((ZU X i s 0 pre).drop (Z9 s.next X W i)) (s.next + 4 * i) sl o.op).then fun v u t => okX all X W s.next i u t ∧ ZdL E hk N all X W s K rest (i + 1) (ZaQ o.dst v sl) (pre ++ [⟨v, u, t⟩])
    | some (j, want) => Zea (ZaE all sl j) fun d b =>
        (b = want → (opH E hk ((ZU X i s 0 pre).drop (Z9 s.next X W i)) (s.next + 4 * i) (ZaW sl d (.bool want)) o.op).then fun v u t => okX all X W s.next i u t ∧ ZdL E hk N all X W s K rest (i + 1) (ZaQ o.dst v (ZaW sl d (.bool want))) (pre ++ [⟨v, u, t⟩])) ∧
        (b = !want → ZdL E hk N all X W s K rest (i + 1) (ZaQ o.dst .any (ZaW sl d (.bool (!want)))) (pre ++ [⟨.any, [], []⟩]))
theorem Zr7 {E : Env} {hk : Zcs} {N : Nat} {ops : List Oper} {X W : List (Nat × List Nat)} {sl : List (Nat × D)} {s : S} {K : List (Nat × D) → S → Prop} (hn : ZaK (ops.filterMap (·.dst)) = true) :
    ∀ (rest : List Oper) (i : Nat) (pre : List Ent), ops.drop i = rest → i ≤ ops.length → pre.length = i → ZdL E hk N ops X W s K rest i (ZD sl ops pre) pre → Zek E hk N ops X W sl s K rest i pre := by
  intro rest
  induction rest with
  | nil => intro i pre _ _ _ h; exact h
  | cons o rest ih =>
    intro i pre hd hil hl h
    have hlt : i < ops.length := by have := congrArg List.length hd; simp at this; omega
    have ho : ops[i]? = some o := by have := congrArg (·[0]?) hd; simpa [List.getElem?_drop] using this
    have hd' : ops.drop (i + 1) = rest := by
      have := congrArg (List.drop 1) hd
      simpa [List.drop_drop, Nat.add_comm] using this
    obtain ⟨h1, h⟩ := h
    have next : ∀ e : Ent, ZdL E hk N ops X W s K rest (i + 1) (ZaQ o.dst e.v (ZD sl ops pre)) (pre ++ [e]) → Zek E hk N ops X W sl s K rest (i + 1) (pre ++ [e]) := by
      intro e he
      refine ih (i + 1) (pre ++ [e]) hd' hlt (by simp [hl]) ?_
      rw [Zcv ops pre sl o e (by rw [hl]; exact ho)]
      exact he
    have okk : ∀ u t, okX ops X W s.next i u t → Zc5 ops X W s.next i u t := by
      intro u t hk
      unfold okX at hk
      split at hk
      · exact .inl ⟨rfl, rfl⟩
      · exact hk
    refine ⟨h1, ?_⟩
    cases hg : o.guard with
    | none =>
      simp only [hg] at h ⊢
      obtain ⟨h2, h3, h4⟩ := h
      exact ⟨h2, okk _ _ h3, next ⟨_, _, _⟩ h4⟩
    | some jw =>
      obtain ⟨j, want⟩ := jw
      simp only [hg] at h ⊢
      unfold Zea at h ⊢
      cases hy : ZaE ops (ZD sl ops pre) j with
      | none => simp [hy] at h
      | some db =>
        obtain ⟨d, b⟩ := db
        simp only [hy] at h ⊢
        obtain ⟨q1, q2⟩ := ZeS hy
        have hset : ∀ c, b = c → Zf2 pre j c = pre := by
          rintro c rfl
          refine ZbU sl ops pre fun e he => ?_
          have hjl : j < pre.length := (List.getElem?_eq_some_iff.1 he).1
          rw [(Zay sl ops pre d hn (by omega)).1 j hjl q2, he] at q1
          simpa using q1
        refine ⟨fun e => ?_, fun e => ?_⟩
        · have h2 := h.1 e
          rw [ZbX (e ▸ q1)] at h2
          rw [hset want e]
          obtain ⟨h2, h3, h4⟩ := h2
          exact ⟨h2, okk _ _ h3, next ⟨_, _, _⟩ h4⟩
        · have h2 := h.2 e
          rw [ZbX (e ▸ q1)] at h2
          rw [hset (!want) e]
          exact next ⟨.any, [], []⟩ h2
end Go.Vi
end

section
namespace Go.Vi
open Go.RowKit
def ZrP (E : Env) (N : Nat) (PW : Gh → World → Act → Prop) (Q : AQ) : Exit → Act → World → Prop := fun e a w => ∃ g sl s, Q e sl s ∧ Know E N sl s g a w ∧ PW g w a
theorem Zgt {E : Env} {N : Nat} {PW : Gh → World → Act → Prop} {K : List (Nat × D) → S → Prop} {Q : AQ} {e : Exit} {a : Act} {w : World} (h : ZrP E N PW (Ze7 K Q) e a w) {K' : Act → World → Prop} {Q' : Exit → Act → World → Prop}
  (hk : ∀ g sl s a w, K sl s → Know E N sl s g a w → PW g w a → K' a w) (hq : ∀ e a w, ZrP E N PW Q e a w → Q' e a w) : Exit.then K' Q' e a w := by
 obtain ⟨g, sl, s, h1, h2, h3⟩ := h
 cases e with
 | normal => exact hk g sl s a w h1 h2 h3
 | exit id => exact hq _ _ _ ⟨g, sl, s, h1, h2, h3⟩
 | goto l => exact hq _ _ _ ⟨g, sl, s, h1, h2, h3⟩
 | ret => exact hq _ _ _ ⟨g, sl, s, h1, h2, h3⟩
 | panic c => exact hq _ _ _ ⟨g, sl, s, h1, h2, h3⟩
 | outgrown => exact hq _ _ _ ⟨g, sl, s, h1, h2, h3⟩
theorem Zjm {E : Env} (hE : EnvOk E) {N : Nat} {PW : Gh → World → Act → Prop} {nx0 : Nat} (ZfH : ∀ g w a g' w' a', PW g w a → Keeps g w g' w' → a'.defers = a.defers → PW g' w' a') (hcut : ∀ g w a n, nx0 ≤ n → PW g w a → PW (g.cut n) w a) : ∀ (c : Code) (fr : Option Nat) (fm : Nat) (Q : AQ) (sl : List (Nat × D)) (s : S) (g : Gh) (w : World) (a : Act),
  awp E N c Q sl s → Know E N sl s g a w → PW g w a → nx0 ≤ s.next → Z1 c = true → c.wpIn (FR fr) fm E.P (ZrP E N PW fun e sl' s' => Q e sl' s' ∧ s.next ≤ s'.next) a w := by
 intro c
 induction c with
 | skip => intro fr fm Q sl s g w a h hk hp _ _; exact wpIn_skip ⟨g, sl, s, ⟨h, Nat.le_refl _⟩, hk, hp⟩
 | label l => intro fr fm Q sl s g w a h hk hp _ _; exact wpIn_label ⟨g, sl, s, ⟨h, Nat.le_refl _⟩, hk, hp⟩
 | «exit» id => intro fr fm Q sl s g w a h hk hp _ _; exact wpIn_exit ⟨g, sl, s, ⟨h, Nat.le_refl _⟩, hk, hp⟩
 | goto l => intro fr fm Q sl s g w a h hk hp _ _; exact wpIn_goto ⟨g, sl, s, ⟨h, Nat.le_refl _⟩, hk, hp⟩
 | ret => intro fr fm Q sl s g w a h hk hp _ _; exact wpIn_ret ⟨g, sl, s, ⟨h, Nat.le_refl _⟩, hk, hp⟩
 | seq x y ihx ihy =>
  intro fr fm Q sl s g w a h hk hp hf hm
  have hmx : Z1 x = true := by simp [Z1] at hm; exact hm.1
  have hmy : Z1 y = true := by simp [Z1] at hm; exact hm.2
  refine wpIn_seq (wpIn_mono (ihx fr fm _ sl s g w a h hk hp hf hmx) fun e a' w' hc => ?_)
  refine Zgt (K := fun sl' s' => awp E N y Q sl' s' ∧ s.next ≤ s'.next) (Q := fun e sl' s' => Q e sl' s' ∧ s.next ≤ s'.next) ?_ (fun g1 sl1 s1 a1 w1 h1 hk1 hp1 => ?_) fun e a w h => h
  ·obtain ⟨g1, sl1, s1, h1, h2, h3⟩ := hc
   refine ⟨g1, sl1, s1, ?_, h2, h3⟩
   cases e <;> exact h1
  ·refine wpIn_mono (ihy fr fm Q sl1 s1 g1 w1 a1 h1.1 hk1 hp1 (Nat.le_trans hf h1.2) hmy) fun e a' w' ⟨g2, sl2, s2, ⟨q1, q2⟩, q3⟩ => ⟨g2, sl2, s2, ⟨q1, by have := h1.2; omega⟩, q3⟩
 | cond c x y ihx ihy =>
  intro fr fm Q sl s g w a h hk hp hf hm
  have hmx : Z1 x = true := by simp [Z1] at hm; exact hm.1
  have hmy : Z1 y = true := by simp [Z1] at hm; exact hm.2
  have hr := ZA hk.slots hk.globs c
  unfold awp ZlO at h
  cases hd : ev E sl c <;> simp only [hd] at h
  case bool b =>
   rw [hd] at hr
   simp only [Zq, Zn, Zk] at hr
   simp at hr
   exact wpIn_cond_split hr (fun e => ihx fr fm Q sl s g w a (h.1 e) hk hp hf hmx) fun e => ihy fr fm Q sl s g w a (h.2 e) hk hp hf hmy
 | block id c ih =>
  intro fr fm Q sl s g w a h hk hp hf hm
  refine wpIn_block (wpIn_mono (ih fr fm _ sl s g w a h hk hp hf hm) ?_)
  rintro e a' w' ⟨g1, sl1, s1, ⟨h1, h2⟩, h3⟩
  cases e with
  | «exit» id' =>
   simp only [Zgp] at h1
   simp only [Exit.inBlock]
   split
   ·rename_i e
    rw [if_pos e] at h1
    exact ⟨g1, sl1, s1, ⟨h1, h2⟩, h3⟩
   ·rename_i e
    rw [if_neg e] at h1
    exact ⟨g1, sl1, s1, ⟨h1, h2⟩, h3⟩
  | normal => exact ⟨g1, sl1, s1, ⟨h1, h2⟩, h3⟩
  | goto l => exact ⟨g1, sl1, s1, ⟨h1, h2⟩, h3⟩
  | ret => exact ⟨g1, sl1, s1, ⟨h1, h2⟩, h3⟩
  | panic c => exact ⟨g1, sl1, s1, ⟨h1, h2⟩, h3⟩
  | outgrown => exact ⟨g1, sl1, s1, ⟨h1, h2⟩, h3⟩
 | loop c ih =>
  intro fr fm Q sl s g w a h hk hp hf hm
  obtain ⟨ad, h⟩ := h
  refine Zco ad sl s g (Zgj ad sl s h) hk fun sl1 s0 g10 hh hk10 hp10 => ?_
  obtain ⟨⟨bd, hh⟩, hle0⟩ := hh
  refine Zbq bd s0 g10 hh hk10 fun s1 g1 hh hle1 hk1 hp1 => ?_
  obtain ⟨ι, V, St, μ, i0, hn, hw, hround⟩ := hh
  replace hp1 := hp10.trans hp1
  have hle : s.next ≤ s1.next := by omega
  have hf1 : nx0 ≤ s1.next := by omega
  refine Zgi (fun i a w => ∃ g, Know E N (V i) (St i) g a w ∧ PW g w a) μ (i0 := i0) ⟨_, Zdv hk1 hw, hcut _ _ _ _ (by rw [hn]; exact hf1) (ZfH _ _ _ _ _ _ hp hp1 rfl)⟩ ?_
  rintro i a' w' ⟨g2, hk2, hp2⟩
  refine wpIn_mono (ih fr fm _ _ _ g2 w' a' (hround i) hk2 hp2 (by rw [hn]; exact hf1) (by simpa [Z1] using hm)) fun e a2 w2 hc => ?_
  refine Zgt (K := fun sl' s' => ∃ i', Wk sl' s' (V i') (St i') ∧ μ i' < μ i) (Q := fun e sl' s' => Q e sl' s' ∧ s.next ≤ s'.next) ?_ (fun g3 sl3 s3 a3 w3 h3 hk3 hp3 => ?_) fun e a w h => h
  ·obtain ⟨g3, sl3, s3, ⟨h1, h2⟩, h3⟩ := hc
   refine ⟨g3, sl3, s3, ?_, h3⟩
   rw [hn] at h2
   cases e
   case normal => exact h1
   all_goals exact ⟨h1, by omega⟩
  ·obtain ⟨i', q1, q2⟩ := h3
   exact ⟨i', ⟨_, Zdv hk3 q1, hcut _ _ _ _ (by rw [hn]; exact hf1) hp3⟩, q2⟩
 | region id ops draw =>
  intro fr fm Q sl s g w a h hk hp hf hm
  have fin : ∀ sl' (s' : S) g' w' a', Q .normal sl' { s' with next := s.next + 4 * ops.size } → a'.tmps.size = N → ZJ g' w' sl' a' → Inv g' s' w' (after (s.next + 4 * ops.size)) → Keeps g w g' w' → a'.defers = a.defers →
    ZrP E N PW (fun e sl' s' => Q e sl' s' ∧ s.next ≤ s'.next) .normal a' w' := by
   intro sl' s' g' w' a' hq hN hs hi hkp hdf
   exact ⟨g', sl', { s' with next := s.next + 4 * ops.size }, ⟨hq, by simp⟩, ⟨hN, hs, hk.globs.ext hkp.ext, ⟨hi.box, hi.tok, hi.fresh, hi.lim, hi.own⟩⟩, ZfH _ _ _ _ _ _ hp hkp hdf⟩
  cases draw with
  | false =>
   refine wpIn_region ?_
   rw [List.range_eq_range']
   refine Ze2 hE (N := N) ops.toList 0 s.next sl s g w a (by simp) h hk.size hk.slots hk.globs hk.inv fun sl' s' g' w' a' hq hN hs hi hkp hdf => ?_
   exact fin sl' s' g' w' a' hq hN hs (by simpa using hi) hkp hdf
  | true =>
   obtain ⟨sl0, X, W, h0, h1, h2, h3⟩ := h
   exact ZjG hE h1 h2 h3 hk.size ⟨hk.slots.1, fun t d ht => hk.slots.2 t d (h0 t d ht)⟩ hk.globs hk.inv fin
 | rangeFunc gop ps assign body ihA ihB =>
  intro fr fm Q sl s g w a h hk hp hf hm
  simp [Z1] at hm
 | «scope» => intro fr fm Q sl s g w a h; exact h.elim
 | refuse => intro fr fm Q sl s g w a h; exact h.elim
def PWm (M : Nat → Prop) (H : Gh → World → Prop) (g0 : Gh) (w0 : World) (g : Gh) (w : World) (a : Act) : Prop := KeepsM M g0 w0 g w ∧ a.defers = [] ∧ H g w
structure HOk (H : Gh → World → Prop) : Prop where
 stab : Zen H
 loc : ∀ g g1 w, g1.own = g.own → g1.lim = g.lim → H g w → H g1 w
def Low (nx0 : Nat) (g0 : Gh) : Prop := ∀ i, nx0 ≤ i → g0.box i = none ∧ g0.tok i = none
theorem KeepsM.cut {M : Nat → Prop} {g0 g : Gh} {w0 w : World} (hk : KeepsM M g0 w0 g w) {n : Nat} (h : ∀ i, n ≤ i → g0.box i = none ∧ g0.tok i = none) : KeepsM M g0 w0 (g.cut n) w where
 oth := hk.oth
 ext := {
  lim := hk.ext.lim
  cell := hk.ext.cell
  box := fun id b hb => by
   have : id < n := by
    rcases Nat.lt_or_ge id n with h1 | h1
    ·exact h1
    ·rw [(h id h1).1] at hb; cases hb
   simp [Gh.cut, this, hk.ext.box id b hb]
  tok := fun t a m c ht => by
   have : t < n := by
    rcases Nat.lt_or_ge t n with h1 | h1
    ·exact h1
    ·rw [(h t h1).2] at ht; cases ht
   simp only [Gh.cut, this, if_true]
   exact hk.ext.tok t a m c ht
  own := hk.ext.own }
 size := hk.size
 os := hk.os
 tape := hk.tape
 output := hk.output
 own := hk.own
 block := hk.block
 limo := hk.limo
theorem Zf0 {M : Nat → Prop} {H : Gh → World → Prop} (hH : HOk H) {g0 : Gh} {w0 : World} {g : Gh} {w : World} {a : Act} {g' : Gh} {w' : World} {a' : Act} (h : PWm M H g0 w0 g w a) (hk : Keeps g w g' w') (hd : a'.defers = a.defers) : PWm M H g0 w0 g' w' a' :=
 ⟨h.1.step hk, hd.trans h.2.1, hH.stab _ _ _ _ hk h.2.2⟩
theorem ZpG {M : Nat → Prop} {H : Gh → World → Prop} (hH : HOk H) {nx0 : Nat} {g0 : Gh} {w0 : World} (hl : Low nx0 g0) {g : Gh} {w : World} {a : Act} {n : Nat} (hn : nx0 ≤ n) (h : PWm M H g0 w0 g w a) : PWm M H g0 w0 (g.cut n) w a :=
 ⟨h.1.cut fun i hi => hl i (Nat.le_trans hn hi), h.2.1, hH.loc g (g.cut n) w rfl rfl h.2.2⟩
def GM (M : Nat → Prop) (H : Gh → World → Prop) (E : Env) (N : Nat) (g0 : Gh) (w0 : World) (Post : Exit → Act → World → Prop) (c : Code) (sl : List (Nat × D)) (s : S) : Prop :=
 ∀ g w a, Know E N sl s g a w → PWm M H g0 w0 g w a → c.wp E.P Post a w
def GOM (M : Nat → Prop) (H : Gh → World → Prop) (E : Env) (N : Nat) (g0 : Gh) (w0 : World) (Q : Exit → Act → World → Prop) (ops : Array Oper) (i nm : Nat) (sl : List (Nat × D)) (s : S) : Prop :=
 ∀ g w a, a.tmps.size = N → ZJ g w sl a → ZO E g w → Inv g s w (after nm) → PWm M H g0 w0 g w a → wpOpsIn (FR none) 2 E.P ops Q (List.range' i (ops.size - i)) a w
def AtM (M : Nat → Prop) (H : Gh → World → Prop) (E : Env) (N : Nat) (g0 : Gh) (w0 : World) (sl : List (Nat × D)) (s : S) (a : Act) (w : World) : Prop := ∃ g, Know E N sl s g a w ∧ PWm M H g0 w0 g w a
section
variable {E : Env} {M : Nat → Prop} {H H' : Gh → World → Prop} {N : Nat} {g0 : Gh} {w0 : World} {Post Post' : Exit → Act → World → Prop} {sl sl' : List (Nat × D)} {s s' : S}
theorem Zby {c : Code} (h : GM M H E N g0 w0 Post c sl s) {a : Act} {w : World} (ha : AtM M H E N g0 w0 sl s a w) : c.wp E.P Post a w := by
 obtain ⟨g, hk, hp⟩ := ha
 exact h g w a hk hp
theorem ZvC (hE : EnvOk E) (hH : HOk H) {nx0 : Nat} (hl : Low nx0 g0) (Q : AQ) {c : Code} (hn : Z1 c = true) (hx : nx0 ≤ s.next) (hq : ∀ e sl' s' a w, Q e sl' s' → AtM M H E N g0 w0 sl' s' a w → Post e a w) (h : awp E N c Q sl s) : GM M H E N g0 w0 Post c sl s := fun g w a hk hp => by
 refine (wpIn_wide (n := 2)).1 (wpIn_mono (Zjm hE (PW := PWm M H g0 w0) (fun g w a g' w' a' h1 h2 h3 => Zf0 hH h1 h2 h3) (fun g w a n h1 h2 => ZpG hH hl h1 h2) c none 2 Q sl s g w a h hk hp hx hn) ?_)
 rintro e a' w' ⟨g', sl', s', ⟨h1, _⟩, h2, h3⟩
 exact hq e sl' s' a' w' h1 ⟨g', h2, h3⟩
theorem ZyZ (hE : EnvOk E) (hH : HOk H) {nx0 : Nat} (hl : Low nx0 g0) (Q : AQ) {x y : Code} (hn : Z1 x = true) (hx : nx0 ≤ s.next) (hq : ∀ e sl' s' a w, Q e sl' s' → AtM M H E N g0 w0 sl' s' a w → Post e a w) (h : awp E N x (Ze7 (fun sl' s' => GM M H E N g0 w0 Post y sl' s') Q) sl s) : GM M H E N g0 w0 Post (x.seq y) sl s := fun g w a hk hp => by
 refine wp_seq ((wpIn_wide (n := 2)).1 (wpIn_mono (Zjm hE (PW := PWm M H g0 w0) (fun g w a g' w' a' h1 h2 h3 => Zf0 hH h1 h2 h3) (fun g w a n h1 h2 => ZpG hH hl h1 h2) x none 2 _ sl s g w a h hk hp hx hn) ?_))
 intro e a' w' hc
 refine Zgt (K := fun sl' s' => GM M H E N g0 w0 Post y sl' s') (Q := Q) ?_ (fun g sl s a w h1 h2 h3 => h1 g w a h2 h3) fun e a w h => ?_
 ·obtain ⟨g', sl', s', ⟨h1, _⟩, h2, h3⟩ := hc
  exact ⟨g', sl', s', h1, h2, h3⟩
 ·obtain ⟨g', sl', s', h1, h2, h3⟩ := h
  exact hq e sl' s' a w h1 ⟨g', h2, h3⟩
theorem Z5 {x y : Code} (h : GM M H E N g0 w0 (Exit.then (fun a w => y.wp E.P Post a w) Post) x sl s) : GM M H E N g0 w0 Post (x.seq y) sl s := fun g w a hk hp => wp_seq (h g w a hk hp)
theorem ZmN {x y : Code} (sl' : List (Nat × D)) (s' : S) (H' : Gh → World → Prop) (hx : GM M H E N g0 w0 (Exit.then (fun a w => AtM M H' E N g0 w0 sl' s' a w) Post) x sl s) (hy : GM M H' E N g0 w0 Post y sl' s') : GM M H E N g0 w0 Post (x.seq y) sl s := fun g w a hk hp => by
 refine wp_seq (wp_mono (hx g w a hk hp) fun e a w hq => ?_)
 cases e with
 | normal => exact Zby hy hq
 | _ => exact hq
theorem Zbn {c : Code} {id : Nat} (h : GM M H E N g0 w0 (Exit.inBlock id Post) c sl s) : GM M H E N g0 w0 Post (Code.block id c) sl s := fun g w a hk hp => wp_block (h g w a hk hp)
theorem Zwh {c : Code} (hq : ∀ e a w, Post e a w → Post' e a w) (h : GM M H E N g0 w0 Post c sl s) : GM M H E N g0 w0 Post' c sl s := fun g w a hk hp => wp_mono (h g w a hk hp) hq
theorem Zbg (h : ∀ a w, AtM M H E N g0 w0 sl s a w → Post .normal a w) : GM M H E N g0 w0 Post .skip sl s := fun g w a hk hp => wp_skip (h a w ⟨g, hk, hp⟩)
theorem ZiG {id : Nat} (h : ∀ a w, AtM M H E N g0 w0 sl s a w → Post (.exit id) a w) : GM M H E N g0 w0 Post (.exit id) sl s := fun g w a hk hp => wp_exit (h a w ⟨g, hk, hp⟩)
theorem Zav (h : ∀ a w, AtM M H E N g0 w0 sl s a w → Post .ret a w) : GM M H E N g0 w0 Post .ret sl s := fun g w a hk hp => wp_ret (h a w ⟨g, hk, hp⟩)
theorem ZI {t : Nat} {b : Bool} {x y : Code} (ht : Zm sl t = some (.bool b)) (h1 : b = true → GM M H E N g0 w0 Post x sl s) (h2 : b = false → GM M H E N g0 w0 Post y sl s) : GM M H E N g0 w0 Post (Code.cond (.tmp t) x y) sl s := fun g w a hk hp => by
 obtain ⟨q1, q2⟩ := hk.slots.2 _ _ ht
 have q2 : a.tmps.getD t undef = .bool b := by
  have : [a.tmps.getD t undef] = [.bool b] := q2
  simpa using this
 refine (wpIn_wide (n := 2)).1 (wpIn_cond_split (t := b) (by simpa [Act.eval] using q2) (fun e => (wpIn_wide (n := 2)).2 (h1 e g w a hk hp)) fun e => (wpIn_wide (n := 2)).2 (h2 e g w a hk hp))
theorem ZeJ {c : Code} (hh : ∀ g w, H g w → H' g w) (h : GM M H' E N g0 w0 Post c sl s) : GM M H E N g0 w0 Post c sl s := fun g w a hk hp => h g w a hk ⟨hp.1, hp.2.1, hh _ _ hp.2.2⟩
theorem Zrx {ι : Type} {Hx : ι → Gh → World → Prop} {c : Code} (hh : ∀ g w, H g w → ∃ x, Hx x g w) (h : ∀ x, GM M (Hx x) E N g0 w0 Post c sl s) : GM M H E N g0 w0 Post c sl s := fun g w a hk hp => by
 obtain ⟨x, hx⟩ := hh _ _ hp.2.2
 exact h x g w a hk ⟨hp.1, hp.2.1, hx⟩
theorem Zc0 {c : Code} {p : Prop} (hh : ∀ g w, H g w → p) (h : p → GM M H E N g0 w0 Post c sl s) : GM M H E N g0 w0 Post c sl s := fun g w a hk hp => h (hh _ _ hp.2.2) g w a hk hp
theorem ZcH (hH : HOk H) {nx0 : Nat} (hl : Low nx0 g0) (hx : nx0 ≤ s'.next) (hw : Wk sl s sl' s') {a : Act} {w : World} (h : AtM M H E N g0 w0 sl s a w) : AtM M H E N g0 w0 sl' s' a w := by
 obtain ⟨g, hk, hp⟩ := h
 exact ⟨_, Zdv hk hw, ZpG hH hl hx hp⟩
theorem Zau (hh : ∀ g w, H g w → H' g w) {a : Act} {w : World} (h : AtM M H E N g0 w0 sl s a w) : AtM M H' E N g0 w0 sl s a w := by
 obtain ⟨g, hk, hp⟩ := h
 exact ⟨g, hk, hp.1, hp.2.1, hh _ _ hp.2.2⟩
theorem Zg8 (hH : HOk H) {nx0 : Nat} (hl : Low nx0 g0) (hx : nx0 ≤ s'.next) {c : Code} (hw : Wk sl s sl' s') (h : GM M H E N g0 w0 Post c sl' s') : GM M H E N g0 w0 Post c sl s := fun g w a hk hp => Zby h (ZcH hH hl hx hw ⟨g, hk, hp⟩)
theorem ZvV {c : Code} {ι : Type} (V : ι → List (Nat × D)) (St : ι → S) (Hs : ι → Gh → World → Prop) (μ : ι → Nat) (i0 : ι)
  (h : ∀ i, GM M (Hs i) E N g0 w0 (Exit.then (fun a w => ∃ i', AtM M (Hs i') E N g0 w0 (V i') (St i') a w ∧ μ i' < μ i) Post) c (V i) (St i)) : GM M (Hs i0) E N g0 w0 Post (Code.loop c) (V i0) (St i0) := fun g w a hk hp => by
 refine (wpIn_wide (n := 2)).1 (Zgi (fr := none) (fun i a w => AtM M (Hs i) E N g0 w0 (V i) (St i) a w) μ (i0 := i0) ⟨g, hk, hp⟩ ?_)
 intro i a' w' hi
 exact (wpIn_wide (n := 2)).2 (Zby (h i) hi)
theorem ZbH {id : Nat} {ops : Array Oper} {y : Code} (h : GOM M H E N g0 w0 (Exit.then (fun a w => y.wp E.P Post a w) Post) ops 0 s.next sl s) : GM M H E N g0 w0 Post ((Code.region id ops false).seq y) sl s := fun g w a hk hp =>
 wp_seq ((wpIn_wide (n := 2)).1 (wpIn_region (by rw [List.range_eq_range']; exact h g w a hk.size hk.slots hk.globs hk.inv hp)))
theorem Zmm {id : Nat} {ops : Array Oper} (h : GOM M H E N g0 w0 Post ops 0 s.next sl s) : GM M H E N g0 w0 Post (Code.region id ops false) sl s := fun g w a hk hp =>
 (wpIn_wide (n := 2)).1 (wpIn_region (by rw [List.range_eq_range']; exact h g w a hk.size hk.slots hk.globs hk.inv hp))
theorem ZuQ (hE : EnvOk E) (hH : HOk H) {ops : Array Oper} (n : Nat) {i nm i' nm' : Nat} (hn : ((ops.toList.drop i).take n).length = n) (e1 : i + n = i') (e2 : nm + 4 * n = nm')
  (h : Zer E N ops.toList (fun sl' s' => GOM M H E N g0 w0 Post ops i' nm' sl' s') ((ops.toList.drop i).take n) nm sl s) : GOM M H E N g0 w0 Post ops i nm sl s := by
 subst e1 e2
 intro g w a hN hs hg hi hp
 refine Zuo hE ((ops.toList.drop i).take n) i nm sl s g w a (List.take_append_drop n _).symm h hN hs hg hi fun sl' s' g' w' a' hG h1 h2 h3 h4 h5 => ?_
 rw [hn] at h3 ⊢
 exact hG g' w' a' h1 h2 (hg.ext h4.ext) h3 (Zf0 hH hp h4 h5)
theorem Zv1 (hE : EnvOk E) (hH : HOk H) {ops : Array Oper} {i nm nx : Nat} (l1 : List Oper) (hd : ops.toList.drop i = l1) (e2 : nm + 4 * l1.length = nx)
  (h : Zer E N ops.toList (fun sl' s' => ∀ a w, AtM M H E N g0 w0 sl' { s' with next := nx } a w → Post .normal a w) l1 nm sl s) : GOM M H E N g0 w0 Post ops i nm sl s := by
 subst e2
 intro g w a hN hs hg hi hp
 refine Ze2 hE l1 i nm sl s g w a hd h hN hs hg hi fun sl' s' g' w' a' hG h1 h2 h3 h4 h5 => ?_
 exact hG a' w' ⟨g', ⟨h1, h2, hg.ext h4.ext, ⟨h3.box, h3.tok, h3.fresh, h3.lim, h3.own⟩⟩, Zf0 hH hp h4 h5⟩
theorem Zcy {ops : Array Oper} {i nm : Nat} {o : Oper} {α : Type} (dv : α → D) (Hx : α → Gh → World → Prop) (ho : ops[i]? = some o) (hgd : o.guard = none) (hd : ∀ c, o.op ≠ .defer c) (hdst : ZbJ N o.dst)
  (hrun : ∀ g w a, a.tmps.size = N → ZJ g w sl a → ZO E g w → Inv g s w (after nm) → KeepsM M g0 w0 g w → H g w →
   ∃ x v w' M', ((execOp a.eval o).run E.P w = .ok (.value v) w' ∨ ((execOp a.eval o).run E.P w = .ok .skip w' ∧ v = undef)) ∧ Zq g w' (dv x) v ∧ KeepsM M' g w g w' ∧ (∀ b, b < w0.heap.size → M' b → M b) ∧ Inv g s w' (after nm) ∧ Hx x g w')
  (h : ∀ x, GOM M (Hx x) E N g0 w0 Post ops (i + 1) nm (ZaQ o.dst (dv x) sl) s) : GOM M H E N g0 w0 Post ops i nm sl s := by
 intro g w a hN hs hg hi hp
 have hlt : i < ops.size := (Array.getElem?_eq_some_iff.1 ho).1
 have er : ops.size - i = (ops.size - (i + 1)) + 1 := by omega
 rw [er, List.range'_succ]
 simp only [wpOpsIn, ho, Region.wanted, hgd, if_true]
 obtain ⟨x, v, w', M', hr, hrep, hk, hm, hi', hx⟩ := hrun g w a hN hs hg hi hp.1 hp.2.2
 refine Zb7 hd ?_
 have fin : wpOpsIn (FR none) 2 E.P ops Post (List.range' (i + 1) (ops.size - (i + 1))) (a.put o.dst v) w' :=
  h x g w' _ (by rw [Za2]; exact hN) (Zbo (hs.ext hk.ext) (by rw [hN]; exact hdst) hrep) (hg.ext hk.ext) hi' ⟨hp.1.trans hk hm, (Zbe a o.dst v).trans hp.2.1, hx⟩
 unfold Oper.wp
 rcases hr with hr | ⟨hr, rfl⟩
 ·rw [hr]; exact fin
 ·rw [hr]; exact fin
theorem ZiT {ops : Array Oper} {i nm f : Nat} {o : Oper} {args : Array Operand} {Zp : Array TypeId} {α : Type} (dv : α → D) (Hx : α → Gh → World → Prop) (sx : α → S) (ho : ops[i]? = some o) (hgd : o.guard = none) (hdst : ZbJ N o.dst)
  (hop : o.op = .call { callee := .value (.func f), args := args, argTypes := Zp }) (hb : ZH E f)
  (hcall : ∀ g w a, a.tmps.size = N → ZJ g w sl a → ZO E g w → Inv g s w (after nm) → KeepsM M g0 w0 g w → H g w →
   Calls E.P f (args.map a.eval) w fun e w' => ∃ x v g' M', e = .returned v ∧ Zq g' w' (dv x) v ∧ KeepsM M' g w g' w' ∧ (∀ b, b < w0.heap.size → M' b → M b) ∧ Inv g' (sx x) w' (after (nm + 4)) ∧ Hx x g' w')
  (h : ∀ x, GOM M (Hx x) E N g0 w0 Post ops (i + 1) (nm + 4) (ZaQ o.dst (dv x) sl) (sx x)) : GOM M H E N g0 w0 Post ops i nm sl s := by
 intro g w a hN hs hg hi hp
 have hlt : i < ops.size := (Array.getElem?_eq_some_iff.1 ho).1
 have er : ops.size - i = (ops.size - (i + 1)) + 1 := by omega
 rw [er, List.range'_succ]
 simp only [wpOpsIn, ho, Region.wanted, hgd, if_true]
 refine Zb7 (fun c => by rw [hop]; simp) ?_
 obtain ⟨fn, hfn, hbody, hname⟩ := hb
 have hrun : (execOp a.eval o).run E.P w = .ok (.enter f (args.map a.eval)) w := by
  have hb2 : fn.body.isNone = false := by cases h : fn.body <;> simp_all
  have hb3 : fn.body ≠ none := by cases h : fn.body <;> simp_all
  have hn : ¬ fn.name = "runtime.NumGoroutine" := by simpa using hname
  simp [execOp, hop, resolve, Act.eval, Deferred.ofValue, invoke, callFunc, hfn, hn, hb2, hb3]
 unfold Oper.wp
 rw [hrun]
 refine (hcall g w a hN hs hg hi hp.1 hp.2.2).mono ?_
 rintro e w' ⟨x, v, g', M', rfl, hrep, hk, hm, hi', hx⟩
 exact h x g' w' _ (by rw [Za2]; exact hN) (Zbo (hs.ext hk.ext) (by rw [hN]; exact hdst) hrep) (hg.ext hk.ext) hi' ⟨hp.1.trans hk hm, (Zbe a o.dst v).trans hp.2.1, hx⟩
theorem Zwq (hE : EnvOk E) {id : Nat} {ops : Array Oper} {hk : Zcs} {effs : List Nat} {HL : (Nat → Bool) → Gh → World → Prop} {M' : Nat → Prop} (HK : HookOk E hk effs ops HL M') (hm : ∀ b, b < w0.heap.size → M' b → M b) (h0 : ∀ g w, H g w → HL (fun _ => false) g w)
  (H' : Gh → World → Prop) (h1 : ∀ l g w, (∀ i, i < ops.size → l i = true) → HL l g w → H' g w) (ks : List Nat) (X W : List (Nat × List Nat)) (hr : Zb2 ops.toList = true) (hw : Zdc X W s.next)
  (h : ZdL E hk N ops.toList X W s (fun sl' s' => ∀ a w, AtM M H' E N g0 w0 sl' { s' with next := s.next + 4 * ops.size } a w → Post .normal a w) ops.toList 0 (ZaU ks sl) []) : GM M H E N g0 w0 Post (Code.region id ops true) sl s := fun g w a hkn hp => by
 have e : ZD (ZaU ks sl) ops.toList [] = ZaU ks sl := by cases ops.toList <;> rfl
 have hd := Zr7 (sl := ZaU ks sl) (Zd6 hr).1 ops.toList 0 [] rfl (Nat.zero_le _) rfl (by rw [e]; exact h)
 refine (wpIn_wide (n := 2)).1 (Zib hE HK hr hw hd hkn.size ⟨trivial, fun t d ht => hkn.slots.2 t d (Zdy ks sl t d ht)⟩ hkn.globs hkn.inv (h0 _ _ hp.2.2) ?_)
 intro sl' s' g' w' a' hQ hN hs hi hkp hdf ⟨l, hl, hh⟩
 exact hQ a' w' ⟨g', ⟨hN, hs, hkn.globs.ext hkp.ext, ⟨hi.box, hi.tok, hi.fresh, hi.lim, hi.own⟩⟩, hp.1.trans hkp hm, hdf.trans hp.2.1, h1 l _ _ hl hh⟩
theorem ZsM (hH : HOk H) {c : Code} (bd : List (Nat × Option IntKind × Nat)) (h : Zeh s bd fun s' => GM M H E N g0 w0 Post c sl s') : GM M H E N g0 w0 Post c sl s := fun g w a hk hp =>
 Zbq bd s g h hk fun s' g' hG _ h2 h3 => hG g' w a h2 (Zf0 hH hp h3 rfl)
end
end Go.Vi
end
