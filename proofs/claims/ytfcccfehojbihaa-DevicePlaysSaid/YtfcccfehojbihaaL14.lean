/- Lemmas for the law proved in the text whose name ends with Law. -/
import Derived.Test.YtfcccfehojbihaaL13
import Derived.Test.YtfcccfehojbihaaProg
import Derived.RangeFuncNested
import Derived.RangeFuncBound
import Derived.RangeFuncLeaves
import Derived.Shelf.Abstract
import Derived.Shelf.RegionOpen
import Derived.WalkKit
import Derived.OwnWalkIn
import Derived.TacticsInMore
import Derived.LoopNIn
import Derived.LoopIn
import Derived.ProofKit

section
set_option linter.unusedVariables false
set_option linter.unusedSimpArgs false
set_option maxHeartbeats 0
set_option maxRecDepth 20000
namespace Go.Vi.DV
open Go.Proofs

def tyC (t : Nat) : Option TI :=
  match t with
  | 1 => some ⟨.other, 1, 8, .raw .nilFunc, false⟩
  | 2 => some ⟨.int .i64, 1, 8, .int .i64 0, true⟩
  | 3 => some ⟨.int .i64, 1, 8, .int .i64 0, true⟩
  | 4 => some ⟨.bool, 1, 1, .bool false, true⟩
  | 5 => some ⟨.int .u8, 1, 1, .int .u8 0, true⟩
  | 9 => some ⟨.str, 1, 16, .str ⟨#[]⟩, true⟩
  | 12 => some ⟨.int .u64, 1, 8, .int .u64 0, true⟩
  | 20 => some ⟨.other, 1, 16, .raw .nilIface, false⟩
  | 21 => some ⟨.int .i32, 1, 4, .int .i32 0, true⟩
  | 22 => some ⟨.slice 31, 1, 24, .sl .full 0 [], false⟩
  | 23 => some ⟨.other, 1, 8, .raw .nilFunc, false⟩
  | 24 => some ⟨.ptr 55, 1, 8, .raw (.pointer none), false⟩
  | 25 => some ⟨.int .i64, 1, 8, .int .i64 0, true⟩
  | 27 => some ⟨.other, 1, 8, .raw .nilFunc, false⟩
  | 28 => some ⟨.other, 1, 8, .raw .nilFunc, false⟩
  | 29 => some ⟨.slice 5, 1, 24, .sl .full 0 [], false⟩
  | 30 => some ⟨.st [(0, 5), (1, 29)], 2, 32, .agg [.int .u8 0, .sl .full 0 []], false⟩
  | 31 => some ⟨.st [(0, 5), (1, 29)], 2, 32, .agg [.int .u8 0, .sl .full 0 []], false⟩
  | 32 => some ⟨.other, 1, 8, .raw .nilFunc, false⟩
  | 33 => some ⟨.other, 1, 8, .raw .nilFunc, false⟩
  | 35 => some ⟨.other, 1, 8, .raw .nilFunc, false⟩
  | 36 => some ⟨.other, 1, 8, .raw .nilFunc, false⟩
  | 37 => some ⟨.other, 1, 8, .raw .nilFunc, false⟩
  | 38 => some ⟨.slice 48, 1, 24, .sl .full 0 [], false⟩
  | 39 => some ⟨.other, 1, 8, .raw .nilFunc, false⟩
  | 40 => some ⟨.ptr 43, 1, 8, .raw (.pointer none), false⟩
  | 41 => some ⟨.slice 70, 1, 24, .sl .full 0 [], false⟩
  | 42 => some ⟨.st [(0, 3), (1, 41), (2, 4), (3, 4), (4, 3), (5, 3), (6, 3)], 7, 64, .agg [.int .i64 0, .sl .full 0 [], .bool false, .bool false, .int .i64 0, .int .i64 0, .int .i64 0], false⟩
  | 43 => some ⟨.st [(0, 3), (1, 41), (2, 4), (3, 4), (4, 3), (5, 3), (6, 3)], 7, 64, .agg [.int .i64 0, .sl .full 0 [], .bool false, .bool false, .int .i64 0, .int .i64 0, .int .i64 0], false⟩
  | 44 => some ⟨.other, 1, 8, .raw .nilFunc, false⟩
  | 45 => some ⟨.other, 1, 8, .raw .nilFunc, false⟩
  | 46 => some ⟨.other, 1, 8, .raw .nilFunc, false⟩
  | 47 => some ⟨.st [(0, 3), (1, 3), (2, 3), (3, 29)], 4, 48, .agg [.int .i64 0, .int .i64 0, .int .i64 0, .sl .full 0 []], false⟩
  | 48 => some ⟨.st [(0, 3), (1, 3), (2, 3), (3, 29)], 4, 48, .agg [.int .i64 0, .int .i64 0, .int .i64 0, .sl .full 0 []], false⟩
  | 49 => some ⟨.other, 1, 8, .raw .nilFunc, false⟩
  | 50 => some ⟨.other, 1, 8, .raw .nilFunc, false⟩
  | 51 => some ⟨.other, 1, 8, .raw .nilFunc, false⟩
  | 52 => some ⟨.other, 1, 8, .raw .nilFunc, false⟩
  | 53 => some ⟨.slice 58, 1, 24, .sl .full 0 [], false⟩
  | 54 => some ⟨.st [(0, 53), (1, 4), (2, 4), (3, 3), (4, 3), (5, 3)], 6, 56, .agg [.sl .full 0 [], .bool false, .bool false, .int .i64 0, .int .i64 0, .int .i64 0], false⟩
  | 55 => some ⟨.st [(0, 53), (1, 4), (2, 4), (3, 3), (4, 3), (5, 3)], 6, 56, .agg [.sl .full 0 [], .bool false, .bool false, .int .i64 0, .int .i64 0, .int .i64 0], false⟩
  | 56 => some ⟨.other, 1, 8, .raw .nilFunc, false⟩
  | 57 => some ⟨.arr 128 5, 128, 128, .arr .u8 128 (List.replicate 128 0), true⟩
  | 58 => some ⟨.arr 128 5, 128, 128, .arr .u8 128 (List.replicate 128 0), true⟩
  | 59 => some ⟨.other, 1, 8, .raw .nilFunc, false⟩
  | 60 => some ⟨.other, 1, 8, .raw .nilFunc, false⟩
  | 61 => some ⟨.other, 1, 8, .raw .nilFunc, false⟩
  | 63 => some ⟨.other, 1, 8, .raw .nilFunc, false⟩
  | 64 => some ⟨.other, 1, 8, .raw .nilFunc, false⟩
  | 65 => some ⟨.other, 1, 8, .raw .nilFunc, false⟩
  | 66 => some ⟨.other, 1, 8, .raw .nilFunc, false⟩
  | 67 => some ⟨.other, 1, 8, .raw .nilFunc, false⟩
  | 68 => some ⟨.other, 1, 8, .raw .nilFunc, false⟩
  | 69 => some ⟨.st [(0, 3), (1, 3), (2, 29)], 3, 40, .agg [.int .i64 0, .int .i64 0, .sl .full 0 []], false⟩
  | 70 => some ⟨.st [(0, 3), (1, 3), (2, 29)], 3, 40, .agg [.int .i64 0, .int .i64 0, .sl .full 0 []], false⟩
  | 71 => some ⟨.other, 1, 8, .raw .nilFunc, false⟩
  | 72 => some ⟨.other, 1, 8, .raw .nilFunc, false⟩
  | 73 => some ⟨.other, 1, 8, .raw .nilFunc, false⟩
  | 79 => some ⟨.int .u32, 1, 4, .int .u32 0, true⟩
  | 82 => some ⟨.other, 1, 8, .raw .nilFunc, false⟩
  | 83 => some ⟨.ptr 5, 1, 8, .raw (.pointer none), false⟩
  | 86 => some ⟨.st [(0, 12), (1, 12), (2, 79), (3, 80), (4, 5), (5, 5), (6, 81), (7, 82), (8, 83), (9, 84), (10, 85)], 11, 48, .agg [.int .u64 0, .int .u64 0, .int .u32 0, .int .u8 0, .int .u8 0, .int .u8 0, .int .u8 0, .raw .nilFunc, .raw (.pointer none), .int .i32 0, .int .i32 0], false⟩
  | _ => none
def spec (f : Nat) : FS2 :=
  match f with
  | 30 => .pure [.ints .u8] (sp_chunkB 34)
  | 21 => .box [] sp_dLen
  | 22 => .box [] sp_dMay
  | 23 => .box [.id, .id, .ints .u8] sp_dPut
  | 9 => .box [.id, .id, .ints .u8] sp_dWrite
  | 8 => .box [] sp_dCut
  | 10 => .box [] sp_dOff
  | 11 => .box [] sp_dRestart
  | 12 => .box [] sp_dRead
  | 13 => .box [] sp_dWrites
  | 24 => .box [] sp_dClone
  | 15 => .box [] sp_dCopy
  | 7 => .box [] sp_dNew
  | 19 => .box [] sp_ones
  | 20 => .box [] sp_reads
  | 6 => .pure [] sp_dawake
  | 5 => .pure [] sp_lawDKnown
  | 3 => .pure [.sl 2 (.st [.id, .ints .u8])] sp_lawDOrder
  | 31 => .pure [.ints .u8] sp_rNeed
  | 32 => .box [] sp_rMay
  | 33 => .box [] sp_rByte
  | 29 => .box [] sp_rSector
  | 28 => .box [] sp_rRead
  | 25 => .box [.id, .id, .ints .u8] sp_rWrite
  | 26 => .box [] sp_rCut
  | 27 => .box [] sp_rRestart
  | 16 => .box [] sp_rCopy
  | 14 => .pure [.sl 4 (.st [.id, .id, .id, .ints .u8])] sp_large
  | 17 => .box [.id, .id, .st [.id, .id, .id, .ints .u8]] sp_do
  | 18 => .box [] sp_alike
  | 4 => .box [.id, .sl 4 (.st [.id, .id, .id, .ints .u8])] sp_lawDPlays
  | _ => .pure [] fun _ => noPF
def glC (i : Nat) : Option D :=
  match i with
  | _ => none
noncomputable def E : Env where
  P := Try.prog
  ty := tyC
  gl := glC
  T := fun f args s nm => (spec f).T args s nm
theorem ty_ok : ∀ t i, E.ty t = some i → TIOk E.P t i := by
  intro t i h
  change tyC t = some i at h
  unfold tyC at h
  split at h <;> (try cases h)
  · exact ⟨⟨Try.t1, _, rfl, rfl, rfl, rfl, zero_ok rfl rfl, rfl⟩, ⟨_, Try.underlying1, rfl⟩, fun h => by cases h⟩
  · exact ⟨⟨Try.t2, _, rfl, rfl, rfl, rfl, zero_ok rfl rfl, rfl⟩, Try.underlying2, fun _ => ⟨by kernel_rfl, fun fs h => by rw [show E.P.underlying 2 = _ from Try.underlying2] at h; cases h⟩⟩
  · exact ⟨⟨Try.t3, _, rfl, rfl, rfl, rfl, zero_ok rfl rfl, rfl⟩, Try.underlying3, fun _ => ⟨by kernel_rfl, fun fs h => by rw [show E.P.underlying 3 = _ from Try.underlying3] at h; cases h⟩⟩
  · exact ⟨⟨Try.t4, _, rfl, rfl, rfl, rfl, zero_ok rfl rfl, rfl⟩, Try.underlying4, fun _ => ⟨by kernel_rfl, fun fs h => by rw [show E.P.underlying 4 = _ from Try.underlying4] at h; cases h⟩⟩
  · exact ⟨⟨Try.t5, _, rfl, rfl, rfl, rfl, zero_ok rfl rfl, rfl⟩, Try.underlying5, fun _ => ⟨by kernel_rfl, fun fs h => by rw [show E.P.underlying 5 = _ from Try.underlying5] at h; cases h⟩⟩
  · exact ⟨⟨Try.t9, _, rfl, rfl, rfl, rfl, zero_ok rfl rfl, rfl⟩, Try.underlying9, fun _ => ⟨by kernel_rfl, fun fs h => by rw [show E.P.underlying 9 = _ from Try.underlying9] at h; cases h⟩⟩
  · exact ⟨⟨Try.t12, _, rfl, rfl, rfl, rfl, zero_ok rfl rfl, rfl⟩, Try.underlying12, fun _ => ⟨by kernel_rfl, fun fs h => by rw [show E.P.underlying 12 = _ from Try.underlying12] at h; cases h⟩⟩
  · exact ⟨⟨Try.t20, _, rfl, rfl, rfl, rfl, zero_ok rfl rfl, rfl⟩, ⟨_, Try.underlying20, rfl⟩, fun h => by cases h⟩
  · exact ⟨⟨Try.t21, _, rfl, rfl, rfl, rfl, zero_ok rfl rfl, rfl⟩, Try.underlying21, fun _ => ⟨by kernel_rfl, fun fs h => by rw [show E.P.underlying 21 = _ from Try.underlying21] at h; cases h⟩⟩
  · exact ⟨⟨Try.t22, _, rfl, rfl, rfl, rfl, zero_ok rfl rfl, rfl⟩, Try.underlying22, fun h => by cases h⟩
  · exact ⟨⟨Try.t23, _, rfl, rfl, rfl, rfl, zero_ok rfl rfl, rfl⟩, ⟨_, Try.underlying23, rfl⟩, fun h => by cases h⟩
  · exact ⟨⟨Try.t24, _, rfl, rfl, rfl, rfl, zero_ok rfl rfl, rfl⟩, Try.underlying24, fun h => by cases h⟩
  · exact ⟨⟨Try.t25, _, rfl, rfl, rfl, rfl, zero_ok rfl rfl, rfl⟩, Try.underlying25, fun _ => ⟨by kernel_rfl, fun fs h => by rw [show E.P.underlying 25 = _ from Try.underlying25] at h; cases h⟩⟩
  · exact ⟨⟨Try.t27, _, rfl, rfl, rfl, rfl, zero_ok rfl rfl, rfl⟩, ⟨_, Try.underlying27, rfl⟩, fun h => by cases h⟩
  · exact ⟨⟨Try.t28, _, rfl, rfl, rfl, rfl, zero_ok rfl rfl, rfl⟩, ⟨_, Try.underlying28, rfl⟩, fun h => by cases h⟩
  · exact ⟨⟨Try.t29, _, rfl, rfl, rfl, rfl, zero_ok rfl rfl, rfl⟩, Try.underlying29, fun h => by cases h⟩
  · exact ⟨⟨Try.t30, _, rfl, rfl, rfl, rfl, zero_ok rfl rfl, rfl⟩, ⟨_, Try.underlying30, rfl⟩, fun h => by cases h⟩
  · exact ⟨⟨Try.t31, _, rfl, rfl, rfl, rfl, zero_ok rfl rfl, rfl⟩, ⟨_, Try.underlying31, rfl⟩, fun h => by cases h⟩
  · exact ⟨⟨Try.t32, _, rfl, rfl, rfl, rfl, zero_ok rfl rfl, rfl⟩, ⟨_, Try.underlying32, rfl⟩, fun h => by cases h⟩
  · exact ⟨⟨Try.t33, _, rfl, rfl, rfl, rfl, zero_ok rfl rfl, rfl⟩, ⟨_, Try.underlying33, rfl⟩, fun h => by cases h⟩
  · exact ⟨⟨Try.t35, _, rfl, rfl, rfl, rfl, zero_ok rfl rfl, rfl⟩, ⟨_, Try.underlying35, rfl⟩, fun h => by cases h⟩
  · exact ⟨⟨Try.t36, _, rfl, rfl, rfl, rfl, zero_ok rfl rfl, rfl⟩, ⟨_, Try.underlying36, rfl⟩, fun h => by cases h⟩
  · exact ⟨⟨Try.t37, _, rfl, rfl, rfl, rfl, zero_ok rfl rfl, rfl⟩, ⟨_, Try.underlying37, rfl⟩, fun h => by cases h⟩
  · exact ⟨⟨Try.t38, _, rfl, rfl, rfl, rfl, zero_ok rfl rfl, rfl⟩, Try.underlying38, fun h => by cases h⟩
  · exact ⟨⟨Try.t39, _, rfl, rfl, rfl, rfl, zero_ok rfl rfl, rfl⟩, ⟨_, Try.underlying39, rfl⟩, fun h => by cases h⟩
  · exact ⟨⟨Try.t40, _, rfl, rfl, rfl, rfl, zero_ok rfl rfl, rfl⟩, Try.underlying40, fun h => by cases h⟩
  · exact ⟨⟨Try.t41, _, rfl, rfl, rfl, rfl, zero_ok rfl rfl, rfl⟩, Try.underlying41, fun h => by cases h⟩
  · exact ⟨⟨Try.t42, _, rfl, rfl, rfl, rfl, zero_ok rfl rfl, rfl⟩, ⟨_, Try.underlying42, rfl⟩, fun h => by cases h⟩
  · exact ⟨⟨Try.t43, _, rfl, rfl, rfl, rfl, zero_ok rfl rfl, rfl⟩, ⟨_, Try.underlying43, rfl⟩, fun h => by cases h⟩
  · exact ⟨⟨Try.t44, _, rfl, rfl, rfl, rfl, zero_ok rfl rfl, rfl⟩, ⟨_, Try.underlying44, rfl⟩, fun h => by cases h⟩
  · exact ⟨⟨Try.t45, _, rfl, rfl, rfl, rfl, zero_ok rfl rfl, rfl⟩, ⟨_, Try.underlying45, rfl⟩, fun h => by cases h⟩
  · exact ⟨⟨Try.t46, _, rfl, rfl, rfl, rfl, zero_ok rfl rfl, rfl⟩, ⟨_, Try.underlying46, rfl⟩, fun h => by cases h⟩
  · exact ⟨⟨Try.t47, _, rfl, rfl, rfl, rfl, zero_ok rfl rfl, rfl⟩, ⟨_, Try.underlying47, rfl⟩, fun h => by cases h⟩
  · exact ⟨⟨Try.t48, _, rfl, rfl, rfl, rfl, zero_ok rfl rfl, rfl⟩, ⟨_, Try.underlying48, rfl⟩, fun h => by cases h⟩
  · exact ⟨⟨Try.t49, _, rfl, rfl, rfl, rfl, zero_ok rfl rfl, rfl⟩, ⟨_, Try.underlying49, rfl⟩, fun h => by cases h⟩
  · exact ⟨⟨Try.t50, _, rfl, rfl, rfl, rfl, zero_ok rfl rfl, rfl⟩, ⟨_, Try.underlying50, rfl⟩, fun h => by cases h⟩
  · exact ⟨⟨Try.t51, _, rfl, rfl, rfl, rfl, zero_ok rfl rfl, rfl⟩, ⟨_, Try.underlying51, rfl⟩, fun h => by cases h⟩
  · exact ⟨⟨Try.t52, _, rfl, rfl, rfl, rfl, zero_ok rfl rfl, rfl⟩, ⟨_, Try.underlying52, rfl⟩, fun h => by cases h⟩
  · exact ⟨⟨Try.t53, _, rfl, rfl, rfl, rfl, zero_ok rfl rfl, rfl⟩, Try.underlying53, fun h => by cases h⟩
  · exact ⟨⟨Try.t54, _, rfl, rfl, rfl, rfl, zero_ok rfl rfl, rfl⟩, ⟨_, Try.underlying54, rfl⟩, fun h => by cases h⟩
  · exact ⟨⟨Try.t55, _, rfl, rfl, rfl, rfl, zero_ok rfl rfl, rfl⟩, ⟨_, Try.underlying55, rfl⟩, fun h => by cases h⟩
  · exact ⟨⟨Try.t56, _, rfl, rfl, rfl, rfl, zero_ok rfl rfl, rfl⟩, ⟨_, Try.underlying56, rfl⟩, fun h => by cases h⟩
  · exact ⟨⟨Try.t57, _, rfl, rfl, rfl, rfl, zero_ok rfl rfl, rfl⟩, Try.underlying57, fun _ => ⟨by kernel_rfl, fun fs h => by rw [show E.P.underlying 57 = _ from Try.underlying57] at h; cases h⟩⟩
  · exact ⟨⟨Try.t58, _, rfl, rfl, rfl, rfl, zero_ok rfl rfl, rfl⟩, Try.underlying58, fun _ => ⟨by kernel_rfl, fun fs h => by rw [show E.P.underlying 58 = _ from Try.underlying58] at h; cases h⟩⟩
  · exact ⟨⟨Try.t59, _, rfl, rfl, rfl, rfl, zero_ok rfl rfl, rfl⟩, ⟨_, Try.underlying59, rfl⟩, fun h => by cases h⟩
  · exact ⟨⟨Try.t60, _, rfl, rfl, rfl, rfl, zero_ok rfl rfl, rfl⟩, ⟨_, Try.underlying60, rfl⟩, fun h => by cases h⟩
  · exact ⟨⟨Try.t61, _, rfl, rfl, rfl, rfl, zero_ok rfl rfl, rfl⟩, ⟨_, Try.underlying61, rfl⟩, fun h => by cases h⟩
  · exact ⟨⟨Try.t63, _, rfl, rfl, rfl, rfl, zero_ok rfl rfl, rfl⟩, ⟨_, Try.underlying63, rfl⟩, fun h => by cases h⟩
  · exact ⟨⟨Try.t64, _, rfl, rfl, rfl, rfl, zero_ok rfl rfl, rfl⟩, ⟨_, Try.underlying64, rfl⟩, fun h => by cases h⟩
  · exact ⟨⟨Try.t65, _, rfl, rfl, rfl, rfl, zero_ok rfl rfl, rfl⟩, ⟨_, Try.underlying65, rfl⟩, fun h => by cases h⟩
  · exact ⟨⟨Try.t66, _, rfl, rfl, rfl, rfl, zero_ok rfl rfl, rfl⟩, ⟨_, Try.underlying66, rfl⟩, fun h => by cases h⟩
  · exact ⟨⟨Try.t67, _, rfl, rfl, rfl, rfl, zero_ok rfl rfl, rfl⟩, ⟨_, Try.underlying67, rfl⟩, fun h => by cases h⟩
  · exact ⟨⟨Try.t68, _, rfl, rfl, rfl, rfl, zero_ok rfl rfl, rfl⟩, ⟨_, Try.underlying68, rfl⟩, fun h => by cases h⟩
  · exact ⟨⟨Try.t69, _, rfl, rfl, rfl, rfl, zero_ok rfl rfl, rfl⟩, ⟨_, Try.underlying69, rfl⟩, fun h => by cases h⟩
  · exact ⟨⟨Try.t70, _, rfl, rfl, rfl, rfl, zero_ok rfl rfl, rfl⟩, ⟨_, Try.underlying70, rfl⟩, fun h => by cases h⟩
  · exact ⟨⟨Try.t71, _, rfl, rfl, rfl, rfl, zero_ok rfl rfl, rfl⟩, ⟨_, Try.underlying71, rfl⟩, fun h => by cases h⟩
  · exact ⟨⟨Try.t72, _, rfl, rfl, rfl, rfl, zero_ok rfl rfl, rfl⟩, ⟨_, Try.underlying72, rfl⟩, fun h => by cases h⟩
  · exact ⟨⟨Try.t73, _, rfl, rfl, rfl, rfl, zero_ok rfl rfl, rfl⟩, ⟨_, Try.underlying73, rfl⟩, fun h => by cases h⟩
  · exact ⟨⟨Try.t79, _, rfl, rfl, rfl, rfl, zero_ok rfl rfl, rfl⟩, Try.underlying79, fun _ => ⟨by kernel_rfl, fun fs h => by rw [show E.P.underlying 79 = _ from Try.underlying79] at h; cases h⟩⟩
  · exact ⟨⟨Try.t82, _, rfl, rfl, rfl, rfl, zero_ok rfl rfl, rfl⟩, ⟨_, Try.underlying82, rfl⟩, fun h => by cases h⟩
  · exact ⟨⟨Try.t83, _, rfl, rfl, rfl, rfl, zero_ok rfl rfl, rfl⟩, Try.underlying83, fun h => by cases h⟩
  · exact ⟨⟨Try.t86, _, rfl, rfl, rfl, rfl, zero_ok rfl rfl, rfl⟩, ⟨_, Try.underlying86, rfl⟩, fun h => by cases h⟩
theorem hE : EnvOk E := ⟨ty_ok, rfl, by decide⟩
theorem hgl : GlOk E := by
  intro i d h
  change glC i = some d at h
  unfold glC at h
  split at h <;> cases h <;> rfl
theorem ty1 : E.ty 1 = some ⟨.other, 1, 8, .raw .nilFunc, false⟩ := rfl
theorem ty2 : E.ty 2 = some ⟨.int .i64, 1, 8, .int .i64 0, true⟩ := rfl
theorem ty3 : E.ty 3 = some ⟨.int .i64, 1, 8, .int .i64 0, true⟩ := rfl
theorem ty4 : E.ty 4 = some ⟨.bool, 1, 1, .bool false, true⟩ := rfl
theorem ty5 : E.ty 5 = some ⟨.int .u8, 1, 1, .int .u8 0, true⟩ := rfl
theorem ty9 : E.ty 9 = some ⟨.str, 1, 16, .str ⟨#[]⟩, true⟩ := rfl
theorem ty12 : E.ty 12 = some ⟨.int .u64, 1, 8, .int .u64 0, true⟩ := rfl
theorem ty20 : E.ty 20 = some ⟨.other, 1, 16, .raw .nilIface, false⟩ := rfl
theorem ty21 : E.ty 21 = some ⟨.int .i32, 1, 4, .int .i32 0, true⟩ := rfl
theorem ty22 : E.ty 22 = some ⟨.slice 31, 1, 24, .sl .full 0 [], false⟩ := rfl
theorem ty23 : E.ty 23 = some ⟨.other, 1, 8, .raw .nilFunc, false⟩ := rfl
theorem ty24 : E.ty 24 = some ⟨.ptr 55, 1, 8, .raw (.pointer none), false⟩ := rfl
theorem ty25 : E.ty 25 = some ⟨.int .i64, 1, 8, .int .i64 0, true⟩ := rfl
theorem ty27 : E.ty 27 = some ⟨.other, 1, 8, .raw .nilFunc, false⟩ := rfl
theorem ty28 : E.ty 28 = some ⟨.other, 1, 8, .raw .nilFunc, false⟩ := rfl
theorem ty29 : E.ty 29 = some ⟨.slice 5, 1, 24, .sl .full 0 [], false⟩ := rfl
theorem ty30 : E.ty 30 = some ⟨.st [(0, 5), (1, 29)], 2, 32, .agg [.int .u8 0, .sl .full 0 []], false⟩ := rfl
theorem ty31 : E.ty 31 = some ⟨.st [(0, 5), (1, 29)], 2, 32, .agg [.int .u8 0, .sl .full 0 []], false⟩ := rfl
theorem ty32 : E.ty 32 = some ⟨.other, 1, 8, .raw .nilFunc, false⟩ := rfl
theorem ty33 : E.ty 33 = some ⟨.other, 1, 8, .raw .nilFunc, false⟩ := rfl
theorem ty35 : E.ty 35 = some ⟨.other, 1, 8, .raw .nilFunc, false⟩ := rfl
theorem ty36 : E.ty 36 = some ⟨.other, 1, 8, .raw .nilFunc, false⟩ := rfl
theorem ty37 : E.ty 37 = some ⟨.other, 1, 8, .raw .nilFunc, false⟩ := rfl
theorem ty38 : E.ty 38 = some ⟨.slice 48, 1, 24, .sl .full 0 [], false⟩ := rfl
theorem ty39 : E.ty 39 = some ⟨.other, 1, 8, .raw .nilFunc, false⟩ := rfl
theorem ty40 : E.ty 40 = some ⟨.ptr 43, 1, 8, .raw (.pointer none), false⟩ := rfl
theorem ty41 : E.ty 41 = some ⟨.slice 70, 1, 24, .sl .full 0 [], false⟩ := rfl
theorem ty42 : E.ty 42 = some ⟨.st [(0, 3), (1, 41), (2, 4), (3, 4), (4, 3), (5, 3), (6, 3)], 7, 64, .agg [.int .i64 0, .sl .full 0 [], .bool false, .bool false, .int .i64 0, .int .i64 0, .int .i64 0], false⟩ := rfl
theorem ty43 : E.ty 43 = some ⟨.st [(0, 3), (1, 41), (2, 4), (3, 4), (4, 3), (5, 3), (6, 3)], 7, 64, .agg [.int .i64 0, .sl .full 0 [], .bool false, .bool false, .int .i64 0, .int .i64 0, .int .i64 0], false⟩ := rfl
theorem ty44 : E.ty 44 = some ⟨.other, 1, 8, .raw .nilFunc, false⟩ := rfl
theorem ty45 : E.ty 45 = some ⟨.other, 1, 8, .raw .nilFunc, false⟩ := rfl
theorem ty46 : E.ty 46 = some ⟨.other, 1, 8, .raw .nilFunc, false⟩ := rfl
theorem ty47 : E.ty 47 = some ⟨.st [(0, 3), (1, 3), (2, 3), (3, 29)], 4, 48, .agg [.int .i64 0, .int .i64 0, .int .i64 0, .sl .full 0 []], false⟩ := rfl
theorem ty48 : E.ty 48 = some ⟨.st [(0, 3), (1, 3), (2, 3), (3, 29)], 4, 48, .agg [.int .i64 0, .int .i64 0, .int .i64 0, .sl .full 0 []], false⟩ := rfl
theorem ty49 : E.ty 49 = some ⟨.other, 1, 8, .raw .nilFunc, false⟩ := rfl
theorem ty50 : E.ty 50 = some ⟨.other, 1, 8, .raw .nilFunc, false⟩ := rfl
theorem ty51 : E.ty 51 = some ⟨.other, 1, 8, .raw .nilFunc, false⟩ := rfl
theorem ty52 : E.ty 52 = some ⟨.other, 1, 8, .raw .nilFunc, false⟩ := rfl
theorem ty53 : E.ty 53 = some ⟨.slice 58, 1, 24, .sl .full 0 [], false⟩ := rfl
theorem ty54 : E.ty 54 = some ⟨.st [(0, 53), (1, 4), (2, 4), (3, 3), (4, 3), (5, 3)], 6, 56, .agg [.sl .full 0 [], .bool false, .bool false, .int .i64 0, .int .i64 0, .int .i64 0], false⟩ := rfl
theorem ty55 : E.ty 55 = some ⟨.st [(0, 53), (1, 4), (2, 4), (3, 3), (4, 3), (5, 3)], 6, 56, .agg [.sl .full 0 [], .bool false, .bool false, .int .i64 0, .int .i64 0, .int .i64 0], false⟩ := rfl
theorem ty56 : E.ty 56 = some ⟨.other, 1, 8, .raw .nilFunc, false⟩ := rfl
theorem ty57 : E.ty 57 = some ⟨.arr 128 5, 128, 128, .arr .u8 128 (List.replicate 128 0), true⟩ := rfl
theorem ty58 : E.ty 58 = some ⟨.arr 128 5, 128, 128, .arr .u8 128 (List.replicate 128 0), true⟩ := rfl
theorem ty59 : E.ty 59 = some ⟨.other, 1, 8, .raw .nilFunc, false⟩ := rfl
theorem ty60 : E.ty 60 = some ⟨.other, 1, 8, .raw .nilFunc, false⟩ := rfl
theorem ty61 : E.ty 61 = some ⟨.other, 1, 8, .raw .nilFunc, false⟩ := rfl
theorem ty63 : E.ty 63 = some ⟨.other, 1, 8, .raw .nilFunc, false⟩ := rfl
theorem ty64 : E.ty 64 = some ⟨.other, 1, 8, .raw .nilFunc, false⟩ := rfl
theorem ty65 : E.ty 65 = some ⟨.other, 1, 8, .raw .nilFunc, false⟩ := rfl
theorem ty66 : E.ty 66 = some ⟨.other, 1, 8, .raw .nilFunc, false⟩ := rfl
theorem ty67 : E.ty 67 = some ⟨.other, 1, 8, .raw .nilFunc, false⟩ := rfl
theorem ty68 : E.ty 68 = some ⟨.other, 1, 8, .raw .nilFunc, false⟩ := rfl
theorem ty69 : E.ty 69 = some ⟨.st [(0, 3), (1, 3), (2, 29)], 3, 40, .agg [.int .i64 0, .int .i64 0, .sl .full 0 []], false⟩ := rfl
theorem ty70 : E.ty 70 = some ⟨.st [(0, 3), (1, 3), (2, 29)], 3, 40, .agg [.int .i64 0, .int .i64 0, .sl .full 0 []], false⟩ := rfl
theorem ty71 : E.ty 71 = some ⟨.other, 1, 8, .raw .nilFunc, false⟩ := rfl
theorem ty72 : E.ty 72 = some ⟨.other, 1, 8, .raw .nilFunc, false⟩ := rfl
theorem ty73 : E.ty 73 = some ⟨.other, 1, 8, .raw .nilFunc, false⟩ := rfl
theorem ty79 : E.ty 79 = some ⟨.int .u32, 1, 4, .int .u32 0, true⟩ := rfl
theorem ty82 : E.ty 82 = some ⟨.other, 1, 8, .raw .nilFunc, false⟩ := rfl
theorem ty83 : E.ty 83 = some ⟨.ptr 5, 1, 8, .raw (.pointer none), false⟩ := rfl
theorem ty86 : E.ty 86 = some ⟨.st [(0, 12), (1, 12), (2, 79), (3, 80), (4, 5), (5, 5), (6, 81), (7, 82), (8, 83), (9, 84), (10, 85)], 11, 48, .agg [.int .u64 0, .int .u64 0, .int .u32 0, .int .u8 0, .int .u8 0, .int .u8 0, .int .u8 0, .raw .nilFunc, .raw (.pointer none), .int .i32 0, .int .i32 0], false⟩ := rfl
theorem tys : (type_of% ty1) ∧ (type_of% ty2) ∧ (type_of% ty3) ∧ (type_of% ty4) ∧ (type_of% ty5) ∧ (type_of% ty9) ∧ (type_of% ty12) ∧ (type_of% ty20) ∧ (type_of% ty21) ∧ (type_of% ty22) ∧ (type_of% ty23) ∧ (type_of% ty24) ∧ (type_of% ty25) ∧ (type_of% ty27) ∧ (type_of% ty28) ∧ (type_of% ty29) ∧ (type_of% ty30) ∧ (type_of% ty31) ∧ (type_of% ty32) ∧ (type_of% ty33) ∧ (type_of% ty35) ∧ (type_of% ty36) ∧ (type_of% ty37) ∧ (type_of% ty38) ∧ (type_of% ty39) ∧ (type_of% ty40) ∧ (type_of% ty41) ∧ (type_of% ty42) ∧ (type_of% ty43) ∧ (type_of% ty44) ∧ (type_of% ty45) ∧ (type_of% ty46) ∧ (type_of% ty47) ∧ (type_of% ty48) ∧ (type_of% ty49) ∧ (type_of% ty50) ∧ (type_of% ty51) ∧ (type_of% ty52) ∧ (type_of% ty53) ∧ (type_of% ty54) ∧ (type_of% ty55) ∧ (type_of% ty56) ∧ (type_of% ty57) ∧ (type_of% ty58) ∧ (type_of% ty59) ∧ (type_of% ty60) ∧ (type_of% ty61) ∧ (type_of% ty63) ∧ (type_of% ty64) ∧ (type_of% ty65) ∧ (type_of% ty66) ∧ (type_of% ty67) ∧ (type_of% ty68) ∧ (type_of% ty69) ∧ (type_of% ty70) ∧ (type_of% ty71) ∧ (type_of% ty72) ∧ (type_of% ty73) ∧ (type_of% ty79) ∧ (type_of% ty82) ∧ (type_of% ty83) ∧ (type_of% ty86) := ⟨ty1, ty2, ty3, ty4, ty5, ty9, ty12, ty20, ty21, ty22, ty23, ty24, ty25, ty27, ty28, ty29, ty30, ty31, ty32, ty33, ty35, ty36, ty37, ty38, ty39, ty40, ty41, ty42, ty43, ty44, ty45, ty46, ty47, ty48, ty49, ty50, ty51, ty52, ty53, ty54, ty55, ty56, ty57, ty58, ty59, ty60, ty61, ty63, ty64, ty65, ty66, ty67, ty68, ty69, ty70, ty71, ty72, ty73, ty79, ty82, ty83, ty86⟩
theorem spec_chunk (args : List D) (s : S) (nm : Nat) : E.T 30 args s nm = seeR (sp_chunkB 34) (normL [.ints .u8] args) s := rfl
theorem b_chunk : hasBody E 30 := ⟨_, Try.func30, rfl, rfl⟩
theorem spec_dLen (args : List D) (s : S) (nm : Nat) : E.T 21 args s nm = boxF sp_dLen (normL [] args) s nm := rfl
theorem b_dLen : hasBody E 21 := ⟨_, Try.func21, rfl, rfl⟩
theorem spec_dMay (args : List D) (s : S) (nm : Nat) : E.T 22 args s nm = boxF sp_dMay (normL [] args) s nm := rfl
theorem b_dMay : hasBody E 22 := ⟨_, Try.func22, rfl, rfl⟩
theorem spec_dPut (args : List D) (s : S) (nm : Nat) : E.T 23 args s nm = boxF sp_dPut (normL [.id, .id, .ints .u8] args) s nm := rfl
theorem b_dPut : hasBody E 23 := ⟨_, Try.func23, rfl, rfl⟩
theorem spec_dWrite (args : List D) (s : S) (nm : Nat) : E.T 9 args s nm = boxF sp_dWrite (normL [.id, .id, .ints .u8] args) s nm := rfl
theorem b_dWrite : hasBody E 9 := ⟨_, Try.func9, rfl, rfl⟩
theorem spec_dCut (args : List D) (s : S) (nm : Nat) : E.T 8 args s nm = boxF sp_dCut (normL [] args) s nm := rfl
theorem b_dCut : hasBody E 8 := ⟨_, Try.func8, rfl, rfl⟩
theorem spec_dOff (args : List D) (s : S) (nm : Nat) : E.T 10 args s nm = boxF sp_dOff (normL [] args) s nm := rfl
theorem b_dOff : hasBody E 10 := ⟨_, Try.func10, rfl, rfl⟩
theorem spec_dRestart (args : List D) (s : S) (nm : Nat) : E.T 11 args s nm = boxF sp_dRestart (normL [] args) s nm := rfl
theorem b_dRestart : hasBody E 11 := ⟨_, Try.func11, rfl, rfl⟩
theorem spec_dRead (args : List D) (s : S) (nm : Nat) : E.T 12 args s nm = boxF sp_dRead (normL [] args) s nm := rfl
theorem b_dRead : hasBody E 12 := ⟨_, Try.func12, rfl, rfl⟩
theorem spec_dWrites (args : List D) (s : S) (nm : Nat) : E.T 13 args s nm = boxF sp_dWrites (normL [] args) s nm := rfl
theorem b_dWrites : hasBody E 13 := ⟨_, Try.func13, rfl, rfl⟩
theorem spec_dClone (args : List D) (s : S) (nm : Nat) : E.T 24 args s nm = boxF sp_dClone (normL [] args) s nm := rfl
theorem b_dClone : hasBody E 24 := ⟨_, Try.func24, rfl, rfl⟩
theorem spec_dCopy (args : List D) (s : S) (nm : Nat) : E.T 15 args s nm = boxF sp_dCopy (normL [] args) s nm := rfl
theorem b_dCopy : hasBody E 15 := ⟨_, Try.func15, rfl, rfl⟩
theorem spec_dNew (args : List D) (s : S) (nm : Nat) : E.T 7 args s nm = boxF sp_dNew (normL [] args) s nm := rfl
theorem b_dNew : hasBody E 7 := ⟨_, Try.func7, rfl, rfl⟩
theorem spec_ones (args : List D) (s : S) (nm : Nat) : E.T 19 args s nm = boxF sp_ones (normL [] args) s nm := rfl
theorem b_ones : hasBody E 19 := ⟨_, Try.func19, rfl, rfl⟩
theorem spec_reads (args : List D) (s : S) (nm : Nat) : E.T 20 args s nm = boxF sp_reads (normL [] args) s nm := rfl
theorem b_reads : hasBody E 20 := ⟨_, Try.func20, rfl, rfl⟩
theorem spec_dawake (args : List D) (s : S) (nm : Nat) : E.T 6 args s nm = seeR sp_dawake (normL [] args) s := rfl
theorem b_dawake : hasBody E 6 := ⟨_, Try.func6, rfl, rfl⟩
theorem spec_rNeed (args : List D) (s : S) (nm : Nat) : E.T 31 args s nm = seeR sp_rNeed (normL [.ints .u8] args) s := rfl
theorem b_rNeed : hasBody E 31 := ⟨_, Try.func31, rfl, rfl⟩
theorem spec_rMay (args : List D) (s : S) (nm : Nat) : E.T 32 args s nm = boxF sp_rMay (normL [] args) s nm := rfl
theorem b_rMay : hasBody E 32 := ⟨_, Try.func32, rfl, rfl⟩
theorem spec_rByte (args : List D) (s : S) (nm : Nat) : E.T 33 args s nm = boxF sp_rByte (normL [] args) s nm := rfl
theorem b_rByte : hasBody E 33 := ⟨_, Try.func33, rfl, rfl⟩
theorem spec_rSector (args : List D) (s : S) (nm : Nat) : E.T 29 args s nm = boxF sp_rSector (normL [] args) s nm := rfl
theorem b_rSector : hasBody E 29 := ⟨_, Try.func29, rfl, rfl⟩
theorem spec_rRead (args : List D) (s : S) (nm : Nat) : E.T 28 args s nm = boxF sp_rRead (normL [] args) s nm := rfl
theorem b_rRead : hasBody E 28 := ⟨_, Try.func28, rfl, rfl⟩
theorem spec_rWrite (args : List D) (s : S) (nm : Nat) : E.T 25 args s nm = boxF sp_rWrite (normL [.id, .id, .ints .u8] args) s nm := rfl
theorem b_rWrite : hasBody E 25 := ⟨_, Try.func25, rfl, rfl⟩
theorem spec_rCut (args : List D) (s : S) (nm : Nat) : E.T 26 args s nm = boxF sp_rCut (normL [] args) s nm := rfl
theorem b_rCut : hasBody E 26 := ⟨_, Try.func26, rfl, rfl⟩
theorem spec_rRestart (args : List D) (s : S) (nm : Nat) : E.T 27 args s nm = boxF sp_rRestart (normL [] args) s nm := rfl
theorem b_rRestart : hasBody E 27 := ⟨_, Try.func27, rfl, rfl⟩
theorem spec_rCopy (args : List D) (s : S) (nm : Nat) : E.T 16 args s nm = boxF sp_rCopy (normL [] args) s nm := rfl
theorem b_rCopy : hasBody E 16 := ⟨_, Try.func16, rfl, rfl⟩
theorem spec_large (args : List D) (s : S) (nm : Nat) : E.T 14 args s nm = seeR sp_large (normL [.sl 4 (.st [.id, .id, .id, .ints .u8])] args) s := rfl
theorem b_large : hasBody E 14 := ⟨_, Try.func14, rfl, rfl⟩
theorem spec_do (args : List D) (s : S) (nm : Nat) : E.T 17 args s nm = boxF sp_do (normL [.id, .id, .st [.id, .id, .id, .ints .u8]] args) s nm := rfl
theorem b_do : hasBody E 17 := ⟨_, Try.func17, rfl, rfl⟩
theorem spec_alike (args : List D) (s : S) (nm : Nat) : E.T 18 args s nm = boxF sp_alike (normL [] args) s nm := rfl
theorem b_alike : hasBody E 18 := ⟨_, Try.func18, rfl, rfl⟩
theorem spec_lawDPlays (args : List D) (s : S) (nm : Nat) : E.T 4 args s nm = boxF sp_lawDPlays (normL [.id, .sl 4 (.st [.id, .id, .id, .ints .u8])] args) s nm := rfl
end Go.Vi.DV
end

section
set_option linter.unusedVariables false
set_option linter.unusedSimpArgs false
set_option maxHeartbeats 0
set_option maxRecDepth 20000
namespace Go.Vi.DV
open Go.Proofs

theorem rf_open (n : Int) (P : List PutR) (g t : Bool) (w k r : Int) : Rf.box ⟨n, P, g, t, w, k, r⟩ = .agg [.int .i64 n, .sl .no 3 (prsD P), .bool g, .bool t, .int .i64 w, .int .i64 k, .int .i64 r] := rfl
theorem deRf_open (n : Int) (P : List PutR) (g t : Bool) (w k r : Int) : deRf (.agg [.int .i64 n, .sl .no 3 (prsD P), .bool g, .bool t, .int .i64 w, .int .i64 k, .int .i64 r]) = ⟨n, P, g, t, w, k, r⟩ := deRf_D ⟨n, P, g, t, w, k, r⟩
theorem fin_rfX (s : S) (m k' : Nat) (nb nt fz : List Nat) (n : Int) (P : List PutR) (g t : Bool) (w k r : Int) : finD s m k' nb nt fz (.agg [.int .i64 n, .sl .no 3 (prsD P), .bool g, .bool t, .int .i64 w, .int .i64 k, .int .i64 r]) = .agg [.int .i64 n, .sl .no 3 (prsD P), .bool g, .bool t, .int .i64 w, .int .i64 k, .int .i64 r] := fin_rf s m k' nb nt fz ⟨n, P, g, t, w, k, r⟩
theorem need_div {b : List Int} (h : b.length < 1000000000) : IntKind.wrap .i64 (((b.length : Nat) : Int).tdiv 128) = ((b.length / 128 : Nat) : Int) := by
  rw [Int.tdiv_eq_ediv_of_nonneg (by omega), IntWalk.i64_in _ (by omega)]
  omega
theorem need_mod {b : List Int} (h : b.length < 1000000000) : ((b.length : Nat) : Int).tmod 128 = ((b.length % 128 : Nat) : Int) := by
  rw [Int.tmod_eq_emod_of_nonneg (by omega)]
  omega
theorem c_rNeed : Contract E 31 := by
  refine contract_seeT hE hgl (show E.P.funcs[31]? = some Try.f31 from Try.func31) rfl (p := sp_rNeed) (fun _ _ _ => rfl) ?_
  intro args hv
  unfold sp_rNeed at hv ⊢
  split at hv
  case h_2 => exact hv.elim
  rename_i b
  refine ⟨by simp, Nat.le_of_ble_eq_true rfl, ?_⟩
  simp only [givesIf] at hv
  have w1 := need_div hv
  have w2 := need_mod hv
  by_cases h : b.length % 128 = 0
  · have e1 : decide (((b.length % 128 : Nat) : Int) = 0) = true := decide_eq_true (by omega)
    have e2 : ((b.length / 128 : Nat) : Int) = (needI b : Nat) := by unfold needI; omega
    simp (config := {dsimp := false}) only [↓vp0, vz, vn, nq, tys, cellD, wideIR, sliceWR, makeWR, appendWR, copyR, conv3R, wideT, isArrN, if_true, if_false, implies_true, forall_const, ne_eq, reduceIte, reduceCtorEq, Nat.reduceEqDiff, Nat.reduceAdd, Nat.reduceMul, Nat.reduceLT, Nat.reduceSub, Nat.reduceLeDiff, Nat.reduceBNe, Nat.reduceBEq, Nat.reduceBeqDiff, List.range, List.range.loop, Try.ntmps31, Try.results31, PF.toR, gives, givesIf, w1, w2, e1, e2]
    decide
  · have e1 : decide (((b.length % 128 : Nat) : Int) = 0) = false := decide_eq_false (by omega)
    have e2 : IntKind.wrap .i64 (((b.length / 128 : Nat) : Int) + 1) = (needI b : Nat) := by rw [IntWalk.i64_in _ (by omega)]; unfold needI; omega
    simp (config := {dsimp := false}) only [↓vp0, vz, vn, nq, tys, cellD, wideIR, sliceWR, makeWR, appendWR, copyR, conv3R, wideT, isArrN, if_true, if_false, implies_true, forall_const, ne_eq, reduceIte, reduceCtorEq, Nat.reduceEqDiff, Nat.reduceAdd, Nat.reduceMul, Nat.reduceLT, Nat.reduceSub, Nat.reduceLeDiff, Nat.reduceBNe, Nat.reduceBEq, Nat.reduceBeqDiff, List.range, List.range.loop, Try.ntmps31, Try.results31, PF.toR, gives, givesIf, w1, w2, e1, e2]
    decide
theorem may_wr {n a : Int} (hn : 1 ≤ n ∧ n ≤ 32768) (h0 : 0 ≤ a) (h1 : a ≤ n) : IntKind.wrap .i64 (n - a) = n - a := by rw [IntWalk.i64_in _ (by omega)]
theorem c_rMay : Contract E 32 := by
  refine contract_boxT hE hgl (show E.P.funcs[32]? = some Try.f32 from Try.func32) rfl (p := sp_rMay) (fun _ _ _ => rfl) ?_
  intro args ds tv hv hdl htl
  unfold sp_rMay at hv ⊢
  split at hv
  case h_2 => exact hv.elim
  rename_i a m d
  refine ⟨by simp, Nat.le_of_ble_eq_true rfl, ?_⟩
  obtain ⟨⟨n, P, g, t, w, k, r⟩, ho, rfl⟩ := hv
  have hn := ho.n
  simp only at hn
  simp only [rf_open, deRf_open]
  by_cases c1 : 1 ≤ m
  case neg =>
    have d1 : decide (1 ≤ m) = false := decide_eq_false c1
    have e : mayR n a m = false := decide_eq_false (by omega)
    simp (config := {dsimp := false}) only [↓vp0, vz, vn, nq, tys, cellD, wideIR, sliceWR, makeWR, appendWR, copyR, conv3R, wideT, isArrN, if_true, if_false, implies_true, forall_const, ne_eq, reduceIte, reduceCtorEq, Nat.reduceEqDiff, Nat.reduceAdd, Nat.reduceMul, Nat.reduceLT, Nat.reduceSub, Nat.reduceLeDiff, Nat.reduceBNe, Nat.reduceBEq, Nat.reduceBeqDiff, List.range, List.range.loop, Try.ntmps32, Try.results32, retB, vb, d1, e]
    exact ⟨[], [], [], ⟨rfl, rfl⟩, ⟨rfl, rfl⟩, ⟨by simp, by simp⟩, by simp, rfl, rfl, ⟨_, rfl, List.cons_eq_cons.2 ⟨fin_rf _ _ _ _ _ _ ⟨_, _, _, _, _, _, _⟩, rfl⟩⟩, ⟨_, rfl, rfl⟩, id rfl⟩
  have d1 : decide (1 ≤ m) = true := decide_eq_true c1
  by_cases c2 : 0 ≤ a
  case neg =>
    have d2 : decide (0 ≤ a) = false := decide_eq_false c2
    have e : mayR n a m = false := decide_eq_false (by omega)
    simp (config := {dsimp := false}) only [↓vp0, vz, vn, nq, tys, cellD, wideIR, sliceWR, makeWR, appendWR, copyR, conv3R, wideT, isArrN, if_true, if_false, implies_true, forall_const, ne_eq, reduceIte, reduceCtorEq, Nat.reduceEqDiff, Nat.reduceAdd, Nat.reduceMul, Nat.reduceLT, Nat.reduceSub, Nat.reduceLeDiff, Nat.reduceBNe, Nat.reduceBEq, Nat.reduceBeqDiff, List.range, List.range.loop, Try.ntmps32, Try.results32, retB, vb, d1, d2, e]
    exact ⟨[], [], [], ⟨rfl, rfl⟩, ⟨rfl, rfl⟩, ⟨by simp, by simp⟩, by simp, rfl, rfl, ⟨_, rfl, List.cons_eq_cons.2 ⟨fin_rf _ _ _ _ _ _ ⟨_, _, _, _, _, _, _⟩, rfl⟩⟩, ⟨_, rfl, rfl⟩, id rfl⟩
  have d2 : decide (0 ≤ a) = true := decide_eq_true c2
  by_cases c3 : a ≤ n
  case neg =>
    have d3 : decide (a ≤ n) = false := decide_eq_false c3
    have e : mayR n a m = false := decide_eq_false (by omega)
    simp (config := {dsimp := false}) only [↓vp0, vz, vn, nq, tys, cellD, wideIR, sliceWR, makeWR, appendWR, copyR, conv3R, wideT, isArrN, if_true, if_false, implies_true, forall_const, ne_eq, reduceIte, reduceCtorEq, Nat.reduceEqDiff, Nat.reduceAdd, Nat.reduceMul, Nat.reduceLT, Nat.reduceSub, Nat.reduceLeDiff, Nat.reduceBNe, Nat.reduceBEq, Nat.reduceBeqDiff, List.range, List.range.loop, Try.ntmps32, Try.results32, retB, vb, d1, d2, d3, e]
    exact ⟨[], [], [], ⟨rfl, rfl⟩, ⟨rfl, rfl⟩, ⟨by simp, by simp⟩, by simp, rfl, rfl, ⟨_, rfl, List.cons_eq_cons.2 ⟨fin_rf _ _ _ _ _ _ ⟨_, _, _, _, _, _, _⟩, rfl⟩⟩, ⟨_, rfl, rfl⟩, id rfl⟩
  have d3 : decide (a ≤ n) = true := decide_eq_true c3
  have e : mayR n a m = decide (m ≤ n - a) := by
    unfold mayR
    exact decide_eq_decide.2 (by omega)
  have w1 := may_wr hn c2 c3
  simp (config := {dsimp := false}) only [↓vp0, vz, vn, nq, tys, cellD, wideIR, sliceWR, makeWR, appendWR, copyR, conv3R, wideT, isArrN, if_true, if_false, implies_true, forall_const, ne_eq, reduceIte, reduceCtorEq, Nat.reduceEqDiff, Nat.reduceAdd, Nat.reduceMul, Nat.reduceLT, Nat.reduceSub, Nat.reduceLeDiff, Nat.reduceBNe, Nat.reduceBEq, Nat.reduceBeqDiff, List.range, List.range.loop, Try.ntmps32, Try.results32, retB, vb, d1, d2, d3, e, w1]
  exact ⟨[], [], [], ⟨rfl, rfl⟩, ⟨rfl, rfl⟩, ⟨by simp, by simp⟩, by simp, rfl, rfl, ⟨_, rfl, List.cons_eq_cons.2 ⟨fin_rf _ _ _ _ _ _ ⟨_, _, _, _, _, _, _⟩, rfl⟩⟩, ⟨_, rfl, rfl⟩, id rfl⟩
end Go.Vi.DV
end

section
set_option linter.unusedVariables false
set_option linter.unusedSimpArgs false
set_option maxHeartbeats 0
set_option maxRecDepth 20000
namespace Go.Vi.DV
open Go.Proofs

theorem c_rCut : Contract E 26 := by
  refine contract_boxT hE hgl (show E.P.funcs[26]? = some Try.f26 from Try.func26) rfl (p := sp_rCut) (fun _ _ _ => rfl) ?_
  intro args ds tv hv hdl htl
  unfold sp_rCut at hv ⊢
  split at hv
  case h_2 => exact hv.elim
  rename_i a b d
  refine ⟨by simp, Nat.le_of_ble_eq_true rfl, ?_⟩
  obtain ⟨⟨n, P, g, t, w, k, r⟩, ho, rfl⟩ := hv
  simp only [rf_open, deRf_open]
  by_cases c1 : a < 0
  · have d1 : decide (a < 0) = true := decide_eq_true c1
    have e : Rf.cutR ⟨n, P, g, t, w, k, r⟩ a b = (2, ⟨n, P, g, t, w, k, r⟩) := if_pos (.inl c1)
    simp (config := {dsimp := false}) only [↓vp0, vz, vn, nq, tys, cellD, wideIR, sliceWR, makeWR, appendWR, copyR, conv3R, wideT, isArrN, if_true, if_false, implies_true, forall_const, ne_eq, reduceIte, reduceCtorEq, Nat.reduceEqDiff, Nat.reduceAdd, Nat.reduceMul, Nat.reduceLT, Nat.reduceSub, Nat.reduceLeDiff, Nat.reduceBNe, Nat.reduceBEq, Nat.reduceBeqDiff, List.range, List.range.loop, Try.ntmps26, Try.results26, retB, vb, d1, e]
    exact ⟨[], [], [], ⟨rfl, rfl⟩, ⟨rfl, rfl⟩, ⟨by simp, by simp⟩, by simp, rfl, rfl, ⟨_, rfl, List.cons_eq_cons.2 ⟨fin_rf _ _ _ _ _ _ ⟨_, _, _, _, _, _, _⟩, rfl⟩⟩, ⟨_, rfl, rfl⟩, id rfl⟩
  have d1 : decide (a < 0) = false := decide_eq_false c1
  by_cases c2 : b < 0
  · have d2 : decide (b < 0) = true := decide_eq_true c2
    have e : Rf.cutR ⟨n, P, g, t, w, k, r⟩ a b = (2, ⟨n, P, g, t, w, k, r⟩) := if_pos (.inr c2)
    simp (config := {dsimp := false}) only [↓vp0, vz, vn, nq, tys, cellD, wideIR, sliceWR, makeWR, appendWR, copyR, conv3R, wideT, isArrN, if_true, if_false, implies_true, forall_const, ne_eq, reduceIte, reduceCtorEq, Nat.reduceEqDiff, Nat.reduceAdd, Nat.reduceMul, Nat.reduceLT, Nat.reduceSub, Nat.reduceLeDiff, Nat.reduceBNe, Nat.reduceBEq, Nat.reduceBeqDiff, List.range, List.range.loop, Try.ntmps26, Try.results26, retB, vb, d1, d2, e]
    exact ⟨[], [], [], ⟨rfl, rfl⟩, ⟨rfl, rfl⟩, ⟨by simp, by simp⟩, by simp, rfl, rfl, ⟨_, rfl, List.cons_eq_cons.2 ⟨fin_rf _ _ _ _ _ _ ⟨_, _, _, _, _, _, _⟩, rfl⟩⟩, ⟨_, rfl, rfl⟩, id rfl⟩
  have d2 : decide (b < 0) = false := decide_eq_false c2
  have e : Rf.cutR ⟨n, P, g, t, w, k, r⟩ a b = (0, ⟨n, P, g, true, a, b, r⟩) := if_neg (by omega)
  simp (config := {dsimp := false}) only [↓vp0, vz, vn, nq, tys, cellD, wideIR, sliceWR, makeWR, appendWR, copyR, conv3R, wideT, isArrN, if_true, if_false, implies_true, forall_const, ne_eq, reduceIte, reduceCtorEq, Nat.reduceEqDiff, Nat.reduceAdd, Nat.reduceMul, Nat.reduceLT, Nat.reduceSub, Nat.reduceLeDiff, Nat.reduceBNe, Nat.reduceBEq, Nat.reduceBeqDiff, List.range, List.range.loop, Try.ntmps26, Try.results26, retB, vb, d1, d2, e]
  exact ⟨[], [], [], ⟨rfl, rfl⟩, ⟨rfl, rfl⟩, ⟨by simp, by simp⟩, by simp, rfl, rfl, ⟨_, rfl, List.cons_eq_cons.2 ⟨fin_rf _ _ _ _ _ _ ⟨_, _, _, _, _, _, _⟩, rfl⟩⟩, ⟨_, rfl, rfl⟩, id rfl⟩
theorem c_rRestart : Contract E 27 := by
  refine contract_boxT hE hgl (show E.P.funcs[27]? = some Try.f27 from Try.func27) rfl (p := sp_rRestart) (fun _ _ _ => rfl) ?_
  intro args ds tv hv hdl htl
  unfold sp_rRestart at hv ⊢
  split at hv
  case h_2 => exact hv.elim
  rename_i d
  refine ⟨by simp, Nat.le_of_ble_eq_true rfl, ?_⟩
  obtain ⟨⟨n, P, g, t, w, k, r⟩, ho, rfl⟩ := hv
  simp only [rf_open, deRf_open]
  simp (config := {dsimp := false}) only [↓vp0, vz, vn, nq, tys, cellD, wideIR, sliceWR, makeWR, appendWR, copyR, conv3R, wideT, isArrN, if_true, if_false, implies_true, forall_const, ne_eq, reduceIte, reduceCtorEq, Nat.reduceEqDiff, Nat.reduceAdd, Nat.reduceMul, Nat.reduceLT, Nat.reduceSub, Nat.reduceLeDiff, Nat.reduceBNe, Nat.reduceBEq, Nat.reduceBeqDiff, List.range, List.range.loop, Try.ntmps27, Try.results27, retB, vb]
  exact ⟨[], [], [], ⟨rfl, rfl⟩, ⟨rfl, rfl⟩, ⟨by simp, by simp⟩, by simp, rfl, rfl, ⟨_, rfl, List.cons_eq_cons.2 ⟨fin_rf _ _ _ _ _ _ ⟨_, _, _, _, _, _, _⟩, rfl⟩⟩, ⟨_, rfl, rfl⟩, id rfl⟩
theorem c_rCopy : Contract E 16 := by
  refine contract_boxT hE hgl (show E.P.funcs[16]? = some Try.f16 from Try.func16) rfl (p := sp_rCopy) (fun _ _ _ => rfl) ?_
  intro args ds tv hv hdl htl
  unfold sp_rCopy at hv ⊢
  split at hv
  case h_2 => exact hv.elim
  rename_i d
  refine ⟨by simp, Nat.le_of_ble_eq_true rfl, ?_⟩
  obtain ⟨⟨n, P, g, t, w, k, r⟩, ho, rfl⟩ := hv
  simp only [rf_open]
  simp (config := {dsimp := false}) only [↓vp0, vz, vn, nq, tys, cellD, wideIR, sliceWR, makeWR, appendWR, copyR, conv3R, wideT, isArrN, if_true, if_false, implies_true, forall_const, ne_eq, reduceIte, reduceCtorEq, Nat.reduceEqDiff, Nat.reduceAdd, Nat.reduceMul, Nat.reduceLT, Nat.reduceSub, Nat.reduceLeDiff, Nat.reduceBNe, Nat.reduceBEq, Nat.reduceBeqDiff, List.range, List.range.loop, Try.ntmps16, Try.results16, retB, vb]
  exact ⟨[24], [], [], ⟨rfl, rfl⟩, ⟨rfl, rfl⟩, ⟨by simp, by simp⟩, by simp, rfl, rfl, ⟨_, rfl, List.cons_eq_cons.2 ⟨fin_rf _ _ _ _ _ _ ⟨_, _, _, _, _, _, _⟩, rfl⟩⟩, ⟨_, rfl, List.cons_eq_cons.2 ⟨fin_rf _ _ _ _ _ _ ⟨_, _, _, _, _, _, _⟩, rfl⟩⟩, id rfl⟩
end Go.Vi.DV
end

section
set_option linter.unusedVariables false
set_option linter.unusedSimpArgs false
set_option maxHeartbeats 0
set_option maxRecDepth 20000
namespace Go.Vi.DV
open Go.Proofs

theorem bare_pr (a k : Int) (t : Nat) (b : List Int) : (D.agg [.int .i64 a, .int .i64 k, .sli (.tok t) .u8 b]).bare = prD ⟨a, k, b⟩ := rfl
theorem prs_snoc (P : List PutR) (p : PutR) : prsD P ++ [prD p] = prsD (P ++ [p]) := by simp [prsD]
theorem c_rWrite : Contract E 25 := by
  refine contract_boxT hE hgl (show E.P.funcs[25]? = some Try.f25 from Try.func25) rfl (p := sp_rWrite) (fun _ _ _ => rfl) ?_
  intro args ds tv hv hdl htl
  unfold sp_rWrite at hv ⊢
  split at hv
  case h_2 => exact hv.elim
  rename_i a b d
  refine ⟨by simp, Nat.le_of_ble_eq_true rfl, ?_⟩
  obtain ⟨⟨⟨n, P, g, t, w, k, r⟩, ho, rfl⟩, hb⟩ := hv
  have hrf := isRf_box ho
  obtain ⟨hn, hP, hl, hw, hk, hr⟩ := ho
  simp only at hn hP hl hw hk hr
  simp only [rf_open, deRf_open] at hrf ⊢
  have hb9 : (b.length < 1000000000) = True := by simp; omega
  have w1 : IntKind.wrap .i64 (r + 1) = r + 1 := by rw [IntWalk.i64_in _ (by omega)]
  by_cases c1 : mayR n a (needI b : Nat) = false
  · have e : Rf.write ⟨n, P, g, t, w, k, r⟩ a b = (2, ⟨n, P, g, t, w, k, r⟩) := if_pos c1
    simp (config := {dsimp := false}) only [↓vp0, vz, vn, nq, tys, cellD, wideIR, sliceWR, makeWR, appendWR, copyR, conv3R, wideT, isArrN, if_true, if_false, implies_true, forall_const, ne_eq, reduceIte, reduceCtorEq, Nat.reduceEqDiff, Nat.reduceAdd, Nat.reduceMul, Nat.reduceLT, Nat.reduceSub, Nat.reduceLeDiff, Nat.reduceBNe, Nat.reduceBEq, Nat.reduceBeqDiff, List.range, List.range.loop, Try.ntmps25, Try.results25, retB, vb, PF.toR, gives, givesIf, id_rf, tk_rf, ren_rf, strips_prs, prsD_length, deRf_D, deRf_open, hb9, hrf, c1, e, spec_rNeed, sp_rNeed, c_rNeed, b_rNeed, spec_rMay, sp_rMay, c_rMay, b_rMay]
    exact ⟨[], [], [], ⟨rfl, rfl⟩, ⟨rfl, rfl⟩, ⟨by simp, by simp⟩, by simp, rfl, rfl, ⟨_, rfl, List.cons_eq_cons.2 ⟨fin_rf _ _ _ _ _ _ ⟨_, _, _, _, _, _, _⟩, rfl⟩⟩, ⟨_, rfl, rfl⟩, id rfl⟩
  have d1 : mayR n a (needI b : Nat) = true := by simpa using c1
  cases g
  case true =>
    have e : Rf.write ⟨n, P, true, t, w, k, r⟩ a b = (36, ⟨n, P, true, t, w, k, r⟩) := by unfold Rf.write; rw [if_neg (by simp [d1]), if_pos rfl]
    simp (config := {dsimp := false}) only [↓vp0, vz, vn, nq, tys, cellD, wideIR, sliceWR, makeWR, appendWR, copyR, conv3R, wideT, isArrN, if_true, if_false, implies_true, forall_const, ne_eq, reduceIte, reduceCtorEq, Nat.reduceEqDiff, Nat.reduceAdd, Nat.reduceMul, Nat.reduceLT, Nat.reduceSub, Nat.reduceLeDiff, Nat.reduceBNe, Nat.reduceBEq, Nat.reduceBeqDiff, List.range, List.range.loop, Try.ntmps25, Try.results25, retB, vb, PF.toR, gives, givesIf, id_rf, tk_rf, ren_rf, strips_prs, prsD_length, deRf_D, deRf_open, hb9, hrf, d1, e, spec_rNeed, sp_rNeed, c_rNeed, b_rNeed, spec_rMay, sp_rMay, c_rMay, b_rMay]
    exact ⟨[], [], [], ⟨rfl, rfl⟩, ⟨rfl, rfl⟩, ⟨by simp, by simp⟩, by simp, rfl, rfl, ⟨_, rfl, List.cons_eq_cons.2 ⟨fin_rf _ _ _ _ _ _ ⟨_, _, _, _, _, _, _⟩, rfl⟩⟩, ⟨_, rfl, rfl⟩, id rfl⟩
  by_cases c2 : t = true ∧ w = 0
  · obtain ⟨rfl, rfl⟩ := c2
    by_cases c3 : k < (needI b : Nat)
    · have d3 : decide (k < (needI b : Nat)) = true := decide_eq_true c3
      have e : Rf.write ⟨n, P, false, true, 0, k, r⟩ a b = (36, ⟨n, P ++ [⟨a, k, b⟩], true, false, 0, k, r + 1⟩) := by unfold Rf.write; rw [if_neg (by simp [d1]), if_neg (by simp), if_pos ⟨rfl, rfl⟩, if_pos c3]
      simp (config := {dsimp := false}) only [↓vp0, vz, vn, nq, tys, cellD, wideIR, sliceWR, makeWR, appendWR, copyR, conv3R, wideT, isArrN, if_true, if_false, implies_true, forall_const, ne_eq, reduceIte, reduceCtorEq, Nat.reduceEqDiff, Nat.reduceAdd, Nat.reduceMul, Nat.reduceLT, Nat.reduceSub, Nat.reduceLeDiff, Nat.reduceBNe, Nat.reduceBEq, Nat.reduceBeqDiff, List.range, List.range.loop, Try.ntmps25, Try.results25, retB, vb, PF.toR, gives, givesIf, id_rf, tk_rf, ren_rf, strips_prs, prsD_length, deRf_D, deRf_open, hb9, hrf, d1, d3, w1, bare_pr, prs_snoc, e, decide_true, spec_rNeed, sp_rNeed, c_rNeed, b_rNeed, spec_rMay, sp_rMay, c_rMay, b_rMay]
      exact ⟨by omega, by omega, .inl trivial, .inr trivial, by simp, by omega, .inr trivial, .inr trivial, ⟨[], [], [], ⟨rfl, rfl⟩, ⟨rfl, rfl⟩, ⟨by simp, by simp⟩, by simp, rfl, rfl, ⟨_, rfl, List.cons_eq_cons.2 ⟨fin_rfT _ _ _ _ (by decide) ⟨_, _, _, _, _, _, _⟩, rfl⟩⟩, ⟨_, rfl, rfl⟩, id rfl⟩⟩
    · have d3 : decide (k < (needI b : Nat)) = false := decide_eq_false c3
      have e : Rf.write ⟨n, P, false, true, 0, k, r⟩ a b = (36, ⟨n, P ++ [⟨a, (needI b : Nat), b⟩], true, false, 0, k, r + 1⟩) := by unfold Rf.write; rw [if_neg (by simp [d1]), if_neg (by simp), if_pos ⟨rfl, rfl⟩, if_neg c3]
      simp (config := {dsimp := false}) only [↓vp0, vz, vn, nq, tys, cellD, wideIR, sliceWR, makeWR, appendWR, copyR, conv3R, wideT, isArrN, if_true, if_false, implies_true, forall_const, ne_eq, reduceIte, reduceCtorEq, Nat.reduceEqDiff, Nat.reduceAdd, Nat.reduceMul, Nat.reduceLT, Nat.reduceSub, Nat.reduceLeDiff, Nat.reduceBNe, Nat.reduceBEq, Nat.reduceBeqDiff, List.range, List.range.loop, Try.ntmps25, Try.results25, retB, vb, PF.toR, gives, givesIf, id_rf, tk_rf, ren_rf, strips_prs, prsD_length, deRf_D, deRf_open, hb9, hrf, d1, d3, w1, bare_pr, prs_snoc, e, decide_true, spec_rNeed, sp_rNeed, c_rNeed, b_rNeed, spec_rMay, sp_rMay, c_rMay, b_rMay]
      exact ⟨by omega, by omega, .inl trivial, .inr trivial, by simp, by omega, .inr trivial, .inr trivial, ⟨[], [], [], ⟨rfl, rfl⟩, ⟨rfl, rfl⟩, ⟨by simp, by simp⟩, by simp, rfl, rfl, ⟨_, rfl, List.cons_eq_cons.2 ⟨fin_rfT _ _ _ _ (by decide) ⟨_, _, _, _, _, _, _⟩, rfl⟩⟩, ⟨_, rfl, rfl⟩, id rfl⟩⟩
  · cases t
    · have e : Rf.write ⟨n, P, false, false, w, k, r⟩ a b = (0, ⟨n, P ++ [⟨a, (needI b : Nat), b⟩], false, false, w, k, r + 1⟩) := by unfold Rf.write; rw [if_neg (by simp [d1]), if_neg (by simp), if_neg c2]; rfl
      simp (config := {dsimp := false}) only [↓vp0, vz, vn, nq, tys, cellD, wideIR, sliceWR, makeWR, appendWR, copyR, conv3R, wideT, isArrN, if_true, if_false, implies_true, forall_const, ne_eq, reduceIte, reduceCtorEq, Nat.reduceEqDiff, Nat.reduceAdd, Nat.reduceMul, Nat.reduceLT, Nat.reduceSub, Nat.reduceLeDiff, Nat.reduceBNe, Nat.reduceBEq, Nat.reduceBeqDiff, List.range, List.range.loop, Try.ntmps25, Try.results25, retB, vb, PF.toR, gives, givesIf, id_rf, tk_rf, ren_rf, strips_prs, prsD_length, deRf_D, deRf_open, hb9, hrf, d1, w1, bare_pr, prs_snoc, e, spec_rNeed, sp_rNeed, c_rNeed, b_rNeed, spec_rMay, sp_rMay, c_rMay, b_rMay]
      exact ⟨by omega, by omega, .inl trivial, .inr trivial, by simp, by omega, .inr trivial, .inr trivial, ⟨[], [], [], ⟨rfl, rfl⟩, ⟨rfl, rfl⟩, ⟨by simp, by simp⟩, by simp, rfl, rfl, ⟨_, rfl, List.cons_eq_cons.2 ⟨fin_rfT _ _ _ _ (by decide) ⟨_, _, _, _, _, _, _⟩, rfl⟩⟩, ⟨_, rfl, rfl⟩, id rfl⟩⟩
    · have hw0 : w ≠ 0 := fun h => c2 ⟨rfl, h⟩
      have w2 : IntKind.wrap .i64 (w - 1) = w - 1 := by rw [IntWalk.i64_in _ (by omega)]
      have d4 : decide (w = 0) = false := decide_eq_false hw0
      have e : Rf.write ⟨n, P, false, true, w, k, r⟩ a b = (0, ⟨n, P ++ [⟨a, (needI b : Nat), b⟩], false, true, w - 1, k, r + 1⟩) := by unfold Rf.write; rw [if_neg (by simp [d1]), if_neg (by simp), if_neg c2]; rfl
      simp (config := {dsimp := false}) only [↓vp0, vz, vn, nq, tys, cellD, wideIR, sliceWR, makeWR, appendWR, copyR, conv3R, wideT, isArrN, if_true, if_false, implies_true, forall_const, ne_eq, reduceIte, reduceCtorEq, Nat.reduceEqDiff, Nat.reduceAdd, Nat.reduceMul, Nat.reduceLT, Nat.reduceSub, Nat.reduceLeDiff, Nat.reduceBNe, Nat.reduceBEq, Nat.reduceBeqDiff, List.range, List.range.loop, Try.ntmps25, Try.results25, retB, vb, PF.toR, gives, givesIf, id_rf, tk_rf, ren_rf, strips_prs, prsD_length, deRf_D, deRf_open, hb9, hrf, d1, d4, w1, w2, bare_pr, prs_snoc, e, decide_true, spec_rNeed, sp_rNeed, c_rNeed, b_rNeed, spec_rMay, sp_rMay, c_rMay, b_rMay]
      exact ⟨by omega, by omega, .inl trivial, .inr trivial, by simp, by omega, .inr trivial, .inr trivial, ⟨[], [], [], ⟨rfl, rfl⟩, ⟨rfl, rfl⟩, ⟨by simp, by simp⟩, by simp, rfl, rfl, ⟨_, rfl, List.cons_eq_cons.2 ⟨fin_rfT _ _ _ _ (by decide) ⟨_, _, _, _, _, _, _⟩, rfl⟩⟩, ⟨_, rfl, rfl⟩, id rfl⟩⟩
end Go.Vi.DV
end

section
set_option linter.unusedVariables false
set_option linter.unusedSimpArgs false
set_option maxHeartbeats 0
set_option maxRecDepth 20000
namespace Go.Vi.DV
open Go.Proofs

theorem byteV_take {P : List PutR} {k : Nat} (h : k < P.length) (s i : Int) : byteV (P.take (k + 1)) s i = if covR (P.getD k default) s then (P.getD k default).b.getD (128 * (s - (P.getD k default).at_) + i).toNat 0 else byteV (P.take k) s i := by
  rw [List.take_add_one, List.getElem?_eq_getElem h, show P.getD k default = P[k] by simp [List.getD, h]]
  exact byteV_app _ _ _ _
theorem c_rByte : Contract E 33 := by
  refine contract_boxT hE hgl (show E.P.funcs[33]? = some Try.f33 from Try.func33) rfl (p := sp_rByte) (fun _ _ _ => rfl) ?_
  intro args ds tv hv hdl htl
  unfold sp_rByte at hv ⊢
  split at hv
  case h_2 => exact hv.elim
  rename_i s i d
  refine ⟨by simp, Nat.le_of_ble_eq_true rfl, ?_⟩
  obtain ⟨⟨⟨n, P, g, t, w, k, r⟩, ho, rfl⟩, hs, hi⟩ := hv
  obtain ⟨hn, hP, hl, hw, hk, hr⟩ := ho
  simp only at hn hP hl hw hk hr
  simp only [rf_open, deRf_open]
  have w1 : IntKind.wrap .i64 (((P.length : Nat) : Int) - 1) = ((P.length : Nat) : Int) - 1 := by rw [IntWalk.i64_in _ (by omega)]
  simp (config := {dsimp := false}) only [↓vp0, vz, vn, nq, tys, cellD, wideIR, sliceWR, makeWR, appendWR, copyR, conv3R, wideT, isArrN, if_true, if_false, implies_true, forall_const, ne_eq, reduceIte, reduceCtorEq, Nat.reduceEqDiff, Nat.reduceAdd, Nat.reduceMul, Nat.reduceLT, Nat.reduceSub, Nat.reduceLeDiff, Nat.reduceBNe, Nat.reduceBEq, Nat.reduceBeqDiff, List.range, List.range.loop, Try.ntmps33, Try.results33, vb, id_rf, tk_rf, ren_rf, strips_prs, prsD_length, deRf_D, deRf_open, w1]
  refine loopI {j : Nat // j ≤ P.length ∧ byteV (P.take j) s i = byteV P s i} (fun j => [(0, .bp 0 0), (1, .int .i64 s), (2, .int .i64 i), (7, .int .i64 ((j.1 : Int) - 1))])
    (fun _ => ⟨[(0, .agg [.int .i64 n, .sl .no 3 (prsD P), .bool g, .bool t, .int .i64 w, .int .i64 k, .int .i64 r])], [], 40⟩) (fun j => j.1) ⟨P.length, Nat.le_refl _, by rw [List.take_length]⟩ (fun _ => rfl) ⟨⟨wkD_eq rfl, rfl, wkD_eq rfl, rfl, wkD_eq rfl, rfl, wkD_eq rfl, rfl, trivial⟩, ⟨rfl, Nat.le_of_ble_eq_true rfl, rfl, trivial⟩, trivial⟩ ?_
  rintro ⟨j, hj, hjb⟩
  simp (config := {dsimp := false}) only [↓vp0, vz, vn, nq, tys, cellD, wideIR, sliceWR, makeWR, appendWR, copyR, conv3R, wideT, isArrN, if_true, if_false, implies_true, forall_const, ne_eq, reduceIte, reduceCtorEq, Nat.reduceEqDiff, Nat.reduceAdd, Nat.reduceMul, Nat.reduceLT, Nat.reduceSub, Nat.reduceLeDiff, Nat.reduceBNe, Nat.reduceBEq, Nat.reduceBeqDiff, List.range, List.range.loop, Try.ntmps33, Try.results33]
  refine ⟨fun h => ?_, fun h => ?_⟩
  case refine_2 =>
    have h := of_decide_eq_false h
    obtain rfl : j = 0 := by omega
    rw [List.take_zero] at hjb
    have e : byteV P s i = 0 := hjb.symm.trans rfl
    simp (config := {dsimp := false}) only [↓vp0, vz, vn, nq, tys, cellD, wideIR, sliceWR, makeWR, appendWR, copyR, conv3R, wideT, isArrN, if_true, if_false, implies_true, forall_const, ne_eq, reduceIte, reduceCtorEq, Nat.reduceEqDiff, Nat.reduceAdd, Nat.reduceMul, Nat.reduceLT, Nat.reduceSub, Nat.reduceLeDiff, Nat.reduceBNe, Nat.reduceBEq, Nat.reduceBeqDiff, List.range, List.range.loop, Try.ntmps33, Try.results33, retB, vb, e]
    exact ⟨[], [], [], ⟨rfl, rfl⟩, ⟨rfl, rfl⟩, ⟨by simp, by simp⟩, by simp, rfl, rfl, ⟨_, rfl, List.cons_eq_cons.2 ⟨fin_rf _ _ _ _ _ _ ⟨_, _, _, _, _, _, _⟩, rfl⟩⟩, ⟨_, rfl, rfl⟩, id rfl⟩
  have h := of_decide_eq_true h
  obtain ⟨j, rfl⟩ : ∃ x, j = x + 1 := ⟨j - 1, by omega⟩
  have hjl : j < P.length := by omega
  have g0 := prsD_get P j hjl
  have hp := hP _ (getD_memI hjl)
  rw [byteV_take hjl] at hjb
  obtain ⟨⟨at_, kp, b⟩, hpe⟩ : ∃ p, P.getD j default = p := ⟨_, rfl⟩
  rw [hpe] at g0 hp hjb
  obtain ⟨hat, hkp, hbl, hby⟩ := hp
  simp only at hat hkp hbl hby hjb
  have e0 : (((j + 1 : Nat) : Int) - 1) = (j : Nat) := by omega
  have e1 : IntKind.wrap .i64 (((j : Nat) : Int) - 1) = ((j : Nat) : Int) - 1 := by rw [IntWalk.i64_in _ (by omega)]
  have e2 : IntKind.wrap .i64 (at_ + kp) = at_ + kp := by rw [IntWalk.i64_in _ (by omega)]
  have hbn : needI b ≤ 1000000000 := by unfold needI; omega
  have e3 : IntKind.wrap .i64 (at_ + (needI b : Nat)) = at_ + (needI b : Nat) := by rw [IntWalk.i64_in _ (by omega)]
  have hb9 : (b.length < 1000000000) = True := by simp; omega
  by_cases c1 : s < at_
  · have d1 : decide (s < at_) = true := decide_eq_true c1
    rw [if_neg (by unfold covR; simp only; omega)] at hjb
    simp (config := {dsimp := false}) only [↓vp0, vz, vn, nq, tys, cellD, wideIR, sliceWR, makeWR, appendWR, copyR, conv3R, wideT, isArrN, if_true, if_false, implies_true, forall_const, ne_eq, reduceIte, reduceCtorEq, Nat.reduceEqDiff, Nat.reduceAdd, Nat.reduceMul, Nat.reduceLT, Nat.reduceSub, Nat.reduceLeDiff, Nat.reduceBNe, Nat.reduceBEq, Nat.reduceBeqDiff, List.range, List.range.loop, Try.ntmps33, Try.results33, prsD_length, Int.toNat_natCast, g0, prD, e0]
    refine ⟨by omega, by omega, ?_⟩
    refine drawI [0, 1, 2, 7, 8] (by kernel_rfl) ?_
    simp (config := {dsimp := false}) only [↓vp0, vz, vn, nq, tys, cellD, wideIR, sliceWR, makeWR, appendWR, copyR, conv3R, wideT, isArrN, if_true, if_false, implies_true, forall_const, ne_eq, reduceIte, reduceCtorEq, Nat.reduceEqDiff, Nat.reduceAdd, Nat.reduceMul, Nat.reduceLT, Nat.reduceSub, Nat.reduceLeDiff, Nat.reduceBNe, Nat.reduceBEq, Nat.reduceBeqDiff, List.range, List.range.loop, Try.ntmps33, Try.results33, vb, id_rf, tk_rf, ren_rf, strips_prs, prsD_length, deRf_D, deRf_open, PF.toR, gives, givesIf, d1, hb9, e1, e2, e3, decide_true]
    refine ⟨⟨j, by omega, hjb⟩, ⟨⟨wkD_eq rfl, rfl, wkD_eq rfl, rfl, wkD_eq rfl, rfl, wkD_eq rfl, rfl, trivial⟩, ⟨rfl, Nat.le_of_ble_eq_true rfl, rfl, trivial⟩, trivial⟩, by (try simp only); omega⟩
  have d1 : decide (s < at_) = false := decide_eq_false c1
  by_cases c2 : at_ + kp ≤ s
  · have d2 : decide (at_ + kp ≤ s) = true := decide_eq_true c2
    rw [if_neg (by unfold covR; simp only; omega)] at hjb
    simp (config := {dsimp := false}) only [↓vp0, vz, vn, nq, tys, cellD, wideIR, sliceWR, makeWR, appendWR, copyR, conv3R, wideT, isArrN, if_true, if_false, implies_true, forall_const, ne_eq, reduceIte, reduceCtorEq, Nat.reduceEqDiff, Nat.reduceAdd, Nat.reduceMul, Nat.reduceLT, Nat.reduceSub, Nat.reduceLeDiff, Nat.reduceBNe, Nat.reduceBEq, Nat.reduceBeqDiff, List.range, List.range.loop, Try.ntmps33, Try.results33, prsD_length, Int.toNat_natCast, g0, prD, e0]
    refine ⟨by omega, by omega, ?_⟩
    refine drawI [0, 1, 2, 7, 8] (by kernel_rfl) ?_
    simp (config := {dsimp := false}) only [↓vp0, vz, vn, nq, tys, cellD, wideIR, sliceWR, makeWR, appendWR, copyR, conv3R, wideT, isArrN, if_true, if_false, implies_true, forall_const, ne_eq, reduceIte, reduceCtorEq, Nat.reduceEqDiff, Nat.reduceAdd, Nat.reduceMul, Nat.reduceLT, Nat.reduceSub, Nat.reduceLeDiff, Nat.reduceBNe, Nat.reduceBEq, Nat.reduceBeqDiff, List.range, List.range.loop, Try.ntmps33, Try.results33, vb, id_rf, tk_rf, ren_rf, strips_prs, prsD_length, deRf_D, deRf_open, PF.toR, gives, givesIf, d1, d2, hb9, e1, e2, e3, decide_true]
    refine ⟨⟨j, by omega, hjb⟩, ⟨⟨wkD_eq rfl, rfl, wkD_eq rfl, rfl, wkD_eq rfl, rfl, wkD_eq rfl, rfl, trivial⟩, ⟨rfl, Nat.le_of_ble_eq_true rfl, rfl, trivial⟩, trivial⟩, by (try simp only); omega⟩
  have d2 : decide (at_ + kp ≤ s) = false := decide_eq_false c2
  by_cases c3 : at_ + (needI b : Nat) ≤ s
  · have d3 : decide (at_ + (needI b : Nat) ≤ s) = true := decide_eq_true c3
    rw [if_neg (by unfold covR; simp only; omega)] at hjb
    simp (config := {dsimp := false}) only [↓vp0, vz, vn, nq, tys, cellD, wideIR, sliceWR, makeWR, appendWR, copyR, conv3R, wideT, isArrN, if_true, if_false, implies_true, forall_const, ne_eq, reduceIte, reduceCtorEq, Nat.reduceEqDiff, Nat.reduceAdd, Nat.reduceMul, Nat.reduceLT, Nat.reduceSub, Nat.reduceLeDiff, Nat.reduceBNe, Nat.reduceBEq, Nat.reduceBeqDiff, List.range, List.range.loop, Try.ntmps33, Try.results33, prsD_length, Int.toNat_natCast, g0, prD, e0]
    refine ⟨by omega, by omega, ?_⟩
    refine drawI [0, 1, 2, 7, 8] (by kernel_rfl) ?_
    simp (config := {dsimp := false}) only [↓vp0, vz, vn, nq, tys, cellD, wideIR, sliceWR, makeWR, appendWR, copyR, conv3R, wideT, isArrN, if_true, if_false, implies_true, forall_const, ne_eq, reduceIte, reduceCtorEq, Nat.reduceEqDiff, Nat.reduceAdd, Nat.reduceMul, Nat.reduceLT, Nat.reduceSub, Nat.reduceLeDiff, Nat.reduceBNe, Nat.reduceBEq, Nat.reduceBeqDiff, List.range, List.range.loop, Try.ntmps33, Try.results33, vb, id_rf, tk_rf, ren_rf, strips_prs, prsD_length, deRf_D, deRf_open, PF.toR, gives, givesIf, d1, d2, d3, hb9, e1, e2, e3, decide_true, spec_rNeed, sp_rNeed, c_rNeed, b_rNeed]
    refine ⟨⟨j, by omega, hjb⟩, ⟨⟨wkD_eq rfl, rfl, wkD_eq rfl, rfl, wkD_eq rfl, rfl, wkD_eq rfl, rfl, trivial⟩, ⟨rfl, Nat.le_of_ble_eq_true rfl, rfl, trivial⟩, trivial⟩, by (try simp only); omega⟩
  have d3 : decide (at_ + (needI b : Nat) ≤ s) = false := decide_eq_false c3
  rw [if_pos ⟨by simp only; omega, by simp only; omega, by simp only; omega⟩] at hjb
  have e4 : IntKind.wrap .i64 (s - at_) = s - at_ := by rw [IntWalk.i64_in _ (by omega)]
  have e5 : IntKind.wrap .i64 (128 * (s - at_)) = 128 * (s - at_) := by rw [IntWalk.i64_in _ (by omega)]
  have e6 : IntKind.wrap .i64 (128 * (s - at_) + i) = 128 * (s - at_) + i := by rw [IntWalk.i64_in _ (by omega)]
  simp (config := {dsimp := false}) only [↓vp0, vz, vn, nq, tys, cellD, wideIR, sliceWR, makeWR, appendWR, copyR, conv3R, wideT, isArrN, if_true, if_false, implies_true, forall_const, ne_eq, reduceIte, reduceCtorEq, Nat.reduceEqDiff, Nat.reduceAdd, Nat.reduceMul, Nat.reduceLT, Nat.reduceSub, Nat.reduceLeDiff, Nat.reduceBNe, Nat.reduceBEq, Nat.reduceBeqDiff, List.range, List.range.loop, Try.ntmps33, Try.results33, prsD_length, Int.toNat_natCast, g0, prD, e0]
  refine ⟨by omega, by omega, ?_⟩
  refine drawI [0, 1, 2, 7, 8] (by kernel_rfl) ?_
  by_cases c4 : 128 * (s - at_) + i < (b.length : Nat)
  · have d4 : decide (128 * (s - at_) + i < (b.length : Nat)) = true := decide_eq_true c4
    simp (config := {dsimp := false}) only [↓vp0, vz, vn, nq, tys, cellD, wideIR, sliceWR, makeWR, appendWR, copyR, conv3R, wideT, isArrN, if_true, if_false, implies_true, forall_const, ne_eq, reduceIte, reduceCtorEq, Nat.reduceEqDiff, Nat.reduceAdd, Nat.reduceMul, Nat.reduceLT, Nat.reduceSub, Nat.reduceLeDiff, Nat.reduceBNe, Nat.reduceBEq, Nat.reduceBeqDiff, List.range, List.range.loop, Try.ntmps33, Try.results33, retB, vb, id_rf, tk_rf, ren_rf, strips_prs, prsD_length, deRf_D, deRf_open, PF.toR, gives, givesIf, d1, d2, d3, d4, hb9, e1, e2, e3, e4, e5, e6, ← hjb, spec_rNeed, sp_rNeed, c_rNeed, b_rNeed]
    exact ⟨by omega, by omega, ⟨[], [], [], ⟨rfl, rfl⟩, ⟨rfl, rfl⟩, ⟨by simp, by simp⟩, by simp, rfl, rfl, ⟨_, rfl, List.cons_eq_cons.2 ⟨fin_rf _ _ _ _ _ _ ⟨_, _, _, _, _, _, _⟩, rfl⟩⟩, ⟨_, rfl, rfl⟩, id rfl⟩⟩
  · have d4 : decide (128 * (s - at_) + i < (b.length : Nat)) = false := decide_eq_false c4
    have hz : b.getD (128 * (s - at_) + i).toNat 0 = 0 := by simp [List.getD, List.getElem?_eq_none (show b.length ≤ (128 * (s - at_) + i).toNat by omega)]
    rw [hz] at hjb
    simp (config := {dsimp := false}) only [↓vp0, vz, vn, nq, tys, cellD, wideIR, sliceWR, makeWR, appendWR, copyR, conv3R, wideT, isArrN, if_true, if_false, implies_true, forall_const, ne_eq, reduceIte, reduceCtorEq, Nat.reduceEqDiff, Nat.reduceAdd, Nat.reduceMul, Nat.reduceLT, Nat.reduceSub, Nat.reduceLeDiff, Nat.reduceBNe, Nat.reduceBEq, Nat.reduceBeqDiff, List.range, List.range.loop, Try.ntmps33, Try.results33, retB, vb, id_rf, tk_rf, ren_rf, strips_prs, prsD_length, deRf_D, deRf_open, PF.toR, gives, givesIf, d1, d2, d3, d4, hb9, e1, e2, e3, e4, e5, e6, ← hjb, spec_rNeed, sp_rNeed, c_rNeed, b_rNeed]
    exact ⟨[], [], [], ⟨rfl, rfl⟩, ⟨rfl, rfl⟩, ⟨by simp, by simp⟩, by simp, rfl, rfl, ⟨_, rfl, List.cons_eq_cons.2 ⟨fin_rf _ _ _ _ _ _ ⟨_, _, _, _, _, _, _⟩, rfl⟩⟩, ⟨_, rfl, rfl⟩, id rfl⟩
end Go.Vi.DV
end

section
set_option linter.unusedVariables false
set_option linter.unusedSimpArgs false
set_option maxHeartbeats 0
set_option maxRecDepth 20000
namespace Go.Vi.DV
open Go.Proofs

def secT (P : List PutR) (s : Int) (i : Nat) : List Int := (List.range i).map fun j => byteV P s (j : Nat)
theorem secT_all (P : List PutR) (s : Int) : secT P s 128 = secR P s := rfl
theorem secT_succ (P : List PutR) (s : Int) (i : Nat) : secT P s i ++ [byteV P s (i : Nat)] = secT P s (i + 1) := by simp [secT, List.range_succ]
theorem secT_len (P : List PutR) (s : Int) (i : Nat) : (secT P s i).length = i := by simp [secT]
theorem c_rSector : Contract E 29 := by
  refine contract_boxT hE hgl (show E.P.funcs[29]? = some Try.f29 from Try.func29) rfl (p := sp_rSector) (fun _ _ _ => rfl) ?_
  intro args ds tv hv hdl htl
  unfold sp_rSector at hv ⊢
  split at hv
  case h_2 => exact hv.elim
  rename_i s d
  refine ⟨by simp, Nat.le_of_ble_eq_true rfl, ?_⟩
  obtain ⟨⟨⟨n, P, g, t, w, k, r⟩, ho, rfl⟩, hs⟩ := hv
  have hrf := isRf_box ho
  simp only [rf_open, deRf_open] at hrf ⊢
  simp (config := {dsimp := false}) only [↓vp0, vz, vn, nq, tys, cellD, wideIR, sliceWR, makeWR, appendWR, copyR, conv3R, wideT, isArrN, if_true, if_false, implies_true, forall_const, ne_eq, reduceIte, reduceCtorEq, Nat.reduceEqDiff, Nat.reduceAdd, Nat.reduceMul, Nat.reduceLT, Nat.reduceSub, Nat.reduceLeDiff, Nat.reduceBNe, Nat.reduceBEq, Nat.reduceBeqDiff, List.range, List.range.loop, Try.ntmps29, Try.results29, vb, id_rf, tk_rf, ren_rf, strips_prs, prsD_length, deRf_D, deRf_open]
  refine loopA [(5, some .u8, 0)] ?_
  simp (config := {dsimp := false}) only [↓vp0, vz, vn, nq, tys, cellD, wideIR, sliceWR, makeWR, appendWR, copyR, conv3R, wideT, isArrN, if_true, if_false, implies_true, forall_const, ne_eq, reduceIte, reduceCtorEq, Nat.reduceEqDiff, Nat.reduceAdd, Nat.reduceMul, Nat.reduceLT, Nat.reduceSub, Nat.reduceLeDiff, Nat.reduceBNe, Nat.reduceBEq, Nat.reduceBeqDiff, List.range, List.range.loop, Try.ntmps29, Try.results29, adopt]
  refine ⟨Fin 129, (fun i => [(0, .bp 0 0), (1, .int .i64 s), (5, .sli (.tok 20) .u8 (secT P s i.1)), (6, .int .i64 (i.1 : Nat))]), (fun i => ⟨[(0, .agg [.int .i64 n, .sl .no 3 (prsD P), .bool g, .bool t, .int .i64 w, .int .i64 k, .int .i64 r])], [(20, ((secT P s i.1).length, 1))], 24⟩), (fun i => 128 - i.1), 0, (fun _ => rfl), ⟨⟨wkD_eq rfl, rfl, wkD_eq rfl, rfl, wkD_eq rfl, rfl, wkD_eq rfl, rfl, trivial⟩, ⟨rfl, Nat.le_of_ble_eq_true rfl, rfl, trivial⟩, ⟨rfl, Nat.le_of_ble_eq_true rfl, trivial⟩⟩, ?_⟩
  rintro ⟨i, hi⟩
  have hln := secT_len P s i
  simp (config := {dsimp := false}) only [↓vp0, vz, vn, nq, tys, cellD, wideIR, sliceWR, makeWR, appendWR, copyR, conv3R, wideT, isArrN, if_true, if_false, implies_true, forall_const, ne_eq, reduceIte, reduceCtorEq, Nat.reduceEqDiff, Nat.reduceAdd, Nat.reduceMul, Nat.reduceLT, Nat.reduceSub, Nat.reduceLeDiff, Nat.reduceBNe, Nat.reduceBEq, Nat.reduceBeqDiff, List.range, List.range.loop, Try.ntmps29, Try.results29]
  refine ⟨fun h => ?_, fun h => ?_⟩
  · have h := of_decide_eq_true h
    have hi0 : (0 ≤ ((i : Nat) : Int)) = True := by simp
    have hi1 : (((i : Nat) : Int) < 128) = True := by simp; omega
    have hs0 : (0 ≤ s) = True := by simp; omega
    have hs1 : (s ≤ 100000) = True := by simp; omega
    have hst := secT_succ P s i
    simp (config := {dsimp := false}) only [↓vp0, vz, vn, nq, tys, cellD, wideIR, sliceWR, makeWR, appendWR, copyR, conv3R, wideT, isArrN, if_true, if_false, implies_true, forall_const, ne_eq, reduceIte, reduceCtorEq, Nat.reduceEqDiff, Nat.reduceAdd, Nat.reduceMul, Nat.reduceLT, Nat.reduceSub, Nat.reduceLeDiff, Nat.reduceBNe, Nat.reduceBEq, Nat.reduceBeqDiff, List.range, List.range.loop, Try.ntmps29, Try.results29, vb, id_rf, tk_rf, ren_rf, strips_prs, prsD_length, deRf_D, deRf_open, hrf, hi0, hi1, hs0, hs1, hst, spec_rByte, sp_rByte, c_rByte, b_rByte]
    refine ⟨by omega, ⟨i + 1, by omega⟩, ⟨⟨wkD_eq rfl, rfl, wkD_eq rfl, rfl, wkD_eq rfl, rfl, wkD_eq ?_, rfl, trivial⟩, ⟨rfl, Nat.le_of_ble_eq_true rfl, rfl, trivial⟩, ⟨?_, Nat.le_of_ble_eq_true rfl, trivial⟩⟩, by (try simp only); omega⟩
    · exact some_i64 (by (try simp only); omega)
    · exact some_tok (by rw [secT_len, secT_len])
  · have h := of_decide_eq_false h
    obtain rfl : i = 128 := by omega
    simp (config := {dsimp := false}) only [↓vp0, vz, vn, nq, tys, cellD, wideIR, sliceWR, makeWR, appendWR, copyR, conv3R, wideT, isArrN, if_true, if_false, implies_true, forall_const, ne_eq, reduceIte, reduceCtorEq, Nat.reduceEqDiff, Nat.reduceAdd, Nat.reduceMul, Nat.reduceLT, Nat.reduceSub, Nat.reduceLeDiff, Nat.reduceBNe, Nat.reduceBEq, Nat.reduceBeqDiff, List.range, List.range.loop, Try.ntmps29, Try.results29, retB, vb, secT_all]
    exact ⟨[], [], [], ⟨rfl, rfl⟩, ⟨rfl, rfl⟩, ⟨by simp, by simp⟩, by simp, rfl, rfl, ⟨_, rfl, List.cons_eq_cons.2 ⟨fin_rf _ _ _ _ _ _ ⟨_, _, _, _, _, _, _⟩, rfl⟩⟩, ⟨_, rfl, rfl⟩, id rfl⟩
theorem c_rRead : Contract E 28 := by
  refine contract_boxT hE hgl (show E.P.funcs[28]? = some Try.f28 from Try.func28) rfl (p := sp_rRead) (fun _ _ _ => rfl) ?_
  intro args ds tv hv hdl htl
  unfold sp_rRead at hv ⊢
  split at hv
  case h_2 => exact hv.elim
  rename_i a m d
  refine ⟨by simp, Nat.le_of_ble_eq_true rfl, ?_⟩
  obtain ⟨⟨n, P, g, t, w, k, r⟩, ho, rfl⟩ := hv
  have hrf := isRf_box ho
  obtain ⟨hn, hP, hl, hw, hk, hr⟩ := ho
  simp only at hn hP hl hw hk hr
  simp only [rf_open, deRf_open] at hrf ⊢
  by_cases c1 : mayR n a m = false
  · have e : Rf.read ⟨n, P, g, t, w, k, r⟩ a m = .tup [.sl .full 0 [], .int .i64 2] := if_pos c1
    simp (config := {dsimp := false}) only [↓vp0, vz, vn, nq, tys, cellD, wideIR, sliceWR, makeWR, appendWR, copyR, conv3R, wideT, isArrN, if_true, if_false, implies_true, forall_const, ne_eq, reduceIte, reduceCtorEq, Nat.reduceEqDiff, Nat.reduceAdd, Nat.reduceMul, Nat.reduceLT, Nat.reduceSub, Nat.reduceLeDiff, Nat.reduceBNe, Nat.reduceBEq, Nat.reduceBeqDiff, List.range, List.range.loop, Try.ntmps28, Try.results28, retB, vb, id_rf, tk_rf, ren_rf, strips_prs, prsD_length, deRf_D, deRf_open, hrf, c1, e, spec_rMay, sp_rMay, c_rMay, b_rMay]
    exact ⟨[], [], [], ⟨rfl, rfl⟩, ⟨rfl, rfl⟩, ⟨by simp, by simp⟩, by simp, rfl, rfl, ⟨_, rfl, List.cons_eq_cons.2 ⟨fin_rf _ _ _ _ _ _ ⟨_, _, _, _, _, _, _⟩, rfl⟩⟩, ⟨_, rfl, rfl⟩, id rfl⟩
  have d1 : mayR n a m = true := by simpa using c1
  cases g
  case true =>
    have e : Rf.read ⟨n, P, true, t, w, k, r⟩ a m = .tup [.sl .full 0 [], .int .i64 36] := by unfold Rf.read; rw [if_neg c1, if_pos rfl]
    simp (config := {dsimp := false}) only [↓vp0, vz, vn, nq, tys, cellD, wideIR, sliceWR, makeWR, appendWR, copyR, conv3R, wideT, isArrN, if_true, if_false, implies_true, forall_const, ne_eq, reduceIte, reduceCtorEq, Nat.reduceEqDiff, Nat.reduceAdd, Nat.reduceMul, Nat.reduceLT, Nat.reduceSub, Nat.reduceLeDiff, Nat.reduceBNe, Nat.reduceBEq, Nat.reduceBeqDiff, List.range, List.range.loop, Try.ntmps28, Try.results28, retB, vb, id_rf, tk_rf, ren_rf, strips_prs, prsD_length, deRf_D, deRf_open, hrf, d1, e, spec_rMay, sp_rMay, c_rMay, b_rMay]
    exact ⟨[], [], [], ⟨rfl, rfl⟩, ⟨rfl, rfl⟩, ⟨by simp, by simp⟩, by simp, rfl, rfl, ⟨_, rfl, List.cons_eq_cons.2 ⟨fin_rf _ _ _ _ _ _ ⟨_, _, _, _, _, _, _⟩, rfl⟩⟩, ⟨_, rfl, rfl⟩, id rfl⟩
  have e : Rf.read ⟨n, P, false, t, w, k, r⟩ a m = .tup [.sli .no .u8 (outR P a m.toNat), .int .i64 0] := by unfold Rf.read; rw [if_neg c1, if_neg (by simp)]
  have hm := of_decide_eq_true d1
  obtain ⟨q, rfl⟩ : ∃ x : Nat, m = (x : Int) := ⟨m.toNat, by omega⟩
  rw [Int.toNat_natCast] at e
  simp (config := {dsimp := false}) only [↓vp0, vz, vn, nq, tys, cellD, wideIR, sliceWR, makeWR, appendWR, copyR, conv3R, wideT, isArrN, if_true, if_false, implies_true, forall_const, ne_eq, reduceIte, reduceCtorEq, Nat.reduceEqDiff, Nat.reduceAdd, Nat.reduceMul, Nat.reduceLT, Nat.reduceSub, Nat.reduceLeDiff, Nat.reduceBNe, Nat.reduceBEq, Nat.reduceBeqDiff, List.range, List.range.loop, Try.ntmps28, Try.results28, retB, vb, id_rf, tk_rf, ren_rf, strips_prs, prsD_length, deRf_D, deRf_open, hrf, d1, e, spec_rMay, sp_rMay, c_rMay, b_rMay]
  refine loopA [(8, some .u8, 0)] ?_
  simp (config := {dsimp := false}) only [↓vp0, vz, vn, nq, tys, cellD, wideIR, sliceWR, makeWR, appendWR, copyR, conv3R, wideT, isArrN, if_true, if_false, implies_true, forall_const, ne_eq, reduceIte, reduceCtorEq, Nat.reduceEqDiff, Nat.reduceAdd, Nat.reduceMul, Nat.reduceLT, Nat.reduceSub, Nat.reduceLeDiff, Nat.reduceBNe, Nat.reduceBEq, Nat.reduceBeqDiff, List.range, List.range.loop, Try.ntmps28, Try.results28, adopt]
  refine ⟨Fin (q + 1), (fun i => [(0, .bp 0 0), (1, .int .i64 a), (2, .int .i64 (q : Nat)), (8, .sli (.tok 60) .u8 (outR P a i.1)), (9, .int .i64 (i.1 : Nat))]), (fun i => ⟨[(0, .agg [.int .i64 n, .sl .no 3 (prsD P), .bool false, .bool t, .int .i64 w, .int .i64 k, .int .i64 r])], [(60, ((outR P a i.1).length, 1))], 64⟩), (fun i => q - i.1), 0, (fun _ => rfl), ⟨⟨wkD_eq rfl, rfl, wkD_eq rfl, rfl, wkD_eq rfl, rfl, wkD_eq rfl, rfl, wkD_eq rfl, rfl, trivial⟩, ⟨rfl, Nat.le_of_ble_eq_true rfl, rfl, trivial⟩, ⟨rfl, Nat.le_of_ble_eq_true rfl, trivial⟩⟩, ?_⟩
  rintro ⟨i, hi⟩
  have hln := outR_len P a i
  have hln1 := outR_len P a (i + 1)
  simp (config := {dsimp := false}) only [↓vp0, vz, vn, nq, tys, cellD, wideIR, sliceWR, makeWR, appendWR, copyR, conv3R, wideT, isArrN, if_true, if_false, implies_true, forall_const, ne_eq, reduceIte, reduceCtorEq, Nat.reduceEqDiff, Nat.reduceAdd, Nat.reduceMul, Nat.reduceLT, Nat.reduceSub, Nat.reduceLeDiff, Nat.reduceBNe, Nat.reduceBEq, Nat.reduceBeqDiff, List.range, List.range.loop, Try.ntmps28, Try.results28]
  refine ⟨fun h => ?_, fun h => ?_⟩
  · have h := of_decide_eq_true h
    have w1 : IntKind.wrap .i64 (a + ((i : Nat) : Int)) = a + ((i : Nat) : Int) := by rw [IntWalk.i64_in _ (by omega)]
    have hs0 : (0 ≤ a + ((i : Nat) : Int)) = True := by simp; omega
    have hs1 : (a + ((i : Nat) : Int) ≤ 100000) = True := by simp; omega
    have hst : outR P a i ++ secR P (a + ((i : Nat) : Int)) = outR P a (i + 1) := rfl
    have hs2 : (secR P (a + ((i : Nat) : Int))).length = 128 := secR_len _ _
    simp (config := {dsimp := false}) only [↓vp0, vz, vn, nq, tys, cellD, wideIR, sliceWR, makeWR, appendWR, copyR, conv3R, wideT, isArrN, if_true, if_false, implies_true, forall_const, ne_eq, reduceIte, reduceCtorEq, Nat.reduceEqDiff, Nat.reduceAdd, Nat.reduceMul, Nat.reduceLT, Nat.reduceSub, Nat.reduceLeDiff, Nat.reduceBNe, Nat.reduceBEq, Nat.reduceBeqDiff, List.range, List.range.loop, Try.ntmps28, Try.results28, vb, id_rf, tk_rf, ren_rf, strips_prs, prsD_length, deRf_D, deRf_open, hrf, w1, hs0, hs1, hst, hs2, spec_rSector, sp_rSector, c_rSector, b_rSector]
    refine ⟨by omega, ⟨i + 1, by omega⟩, ⟨⟨wkD_eq rfl, rfl, wkD_eq rfl, rfl, wkD_eq rfl, rfl, wkD_eq rfl, rfl, wkD_eq ?_, rfl, trivial⟩, ⟨rfl, Nat.le_of_ble_eq_true rfl, rfl, trivial⟩, ⟨?_, Nat.le_of_ble_eq_true rfl, trivial⟩⟩, by (try simp only); omega⟩
    · exact some_i64 (by (try simp only); omega)
    · exact some_tok (by rw [hln, hln1]; omega)
  · have h := of_decide_eq_false h
    obtain rfl : i = q := by omega
    simp (config := {dsimp := false}) only [↓vp0, vz, vn, nq, tys, cellD, wideIR, sliceWR, makeWR, appendWR, copyR, conv3R, wideT, isArrN, if_true, if_false, implies_true, forall_const, ne_eq, reduceIte, reduceCtorEq, Nat.reduceEqDiff, Nat.reduceAdd, Nat.reduceMul, Nat.reduceLT, Nat.reduceSub, Nat.reduceLeDiff, Nat.reduceBNe, Nat.reduceBEq, Nat.reduceBeqDiff, List.range, List.range.loop, Try.ntmps28, Try.results28, retB, vb, e]
    exact ⟨[], [], [], ⟨rfl, rfl⟩, ⟨rfl, rfl⟩, ⟨by simp, by simp⟩, by simp, rfl, rfl, ⟨_, rfl, List.cons_eq_cons.2 ⟨fin_rf _ _ _ _ _ _ ⟨_, _, _, _, _, _, _⟩, rfl⟩⟩, ⟨_, rfl, rfl⟩, id rfl⟩
end Go.Vi.DV
end

section
set_option linter.unusedVariables false
set_option linter.unusedSimpArgs false
set_option maxHeartbeats 0
set_option maxRecDepth 20000
namespace Go.Vi.DV
open Go.Proofs

theorem large_true {l : List ActP} {i : Nat} (hi : i < l.length) (h5 : i < 50) (h : 2000 < (l.getD i default).b.length) : largeA l = true := by
  unfold largeA
  have : ((l.take 50).any fun x => decide ((2000 : Int) < x.b.length)) = true := by
    rw [List.any_eq_true]
    refine ⟨l.getD i default, ?_, decide_eq_true (by omega)⟩
    rw [List.mem_take_iff_getElem]
    exact ⟨i, by omega, by simp [List.getD, hi]⟩
  rw [this, Bool.true_or]
theorem large_false {l : List ActP} {i : Nat} (h1 : i ≤ l.length) (hi : ¬ (i < l.length ∧ i < 50)) (h : ∀ j, j < i → ¬ 2000 < (l.getD j default).b.length) : largeA l = decide ((40 : Int) < l.length) := by
  unfold largeA
  have : ((l.take 50).any fun x => decide ((2000 : Int) < x.b.length)) = false := by
    rw [List.any_eq_false]
    intro x hx
    obtain ⟨j, hj, rfl⟩ := List.mem_take_iff_getElem.1 hx
    have := h j (by omega)
    rw [List.getD, List.getElem?_eq_getElem (by omega)] at this
    simp only [Option.getD_some] at this
    simp only [decide_eq_true_eq]
    omega
  rw [this, Bool.false_or]
theorem c_large : Contract E 14 := by
  refine contract_seeT hE hgl (show E.P.funcs[14]? = some Try.f14 from Try.func14) rfl (p := sp_large) (fun _ _ _ => rfl) ?_
  intro args hv
  unfold sp_large at hv ⊢
  split at hv
  case h_2 => exact hv.elim
  rename_i es
  refine ⟨by simp, Nat.le_of_ble_eq_true rfl, ?_⟩
  obtain ⟨l, rfl, hl, hll⟩ := hv
  simp (config := {dsimp := false}) only [↓vp0, vz, vn, nq, tys, cellD, wideIR, sliceWR, makeWR, appendWR, copyR, conv3R, wideT, isArrN, if_true, if_false, implies_true, forall_const, ne_eq, reduceIte, reduceCtorEq, Nat.reduceEqDiff, Nat.reduceAdd, Nat.reduceMul, Nat.reduceLT, Nat.reduceSub, Nat.reduceLeDiff, Nat.reduceBNe, Nat.reduceBEq, Nat.reduceBeqDiff, List.range, List.range.loop, Try.ntmps14, Try.results14, deActs_D]
  refine loopI {i : Nat // i ≤ l.length ∧ i ≤ 50 ∧ ∀ j, j < i → ¬ 2000 < (l.getD j default).b.length} (fun i => [(0, .sl .no 4 (actsD l)), (3, .int .i64 (i.1 : Nat))]) (fun _ => ⟨[], [], 8⟩) (fun i => 50 - i.1) ⟨0, by omega, by omega, fun j h => by omega⟩ (fun _ => rfl) ⟨⟨wkD_eq rfl, rfl, wkD_eq rfl, rfl, trivial⟩, trivial, trivial⟩ ?_
  rintro ⟨i, hi, h5, hj⟩
  have fin : ¬ (i < l.length ∧ i < 50) → largeA l = decide ((40 : Int) < l.length) := fun h => large_false hi h hj
  by_cases c1 : i < l.length
  case neg =>
    have d1 : decide (((i : Nat) : Int) < (l.length : Nat)) = false := decide_eq_false (by omega)
    have e := fin (by omega)
    simp (config := {dsimp := false}) only [↓vp0, vz, vn, nq, tys, cellD, wideIR, sliceWR, makeWR, appendWR, copyR, conv3R, wideT, isArrN, if_true, if_false, implies_true, forall_const, ne_eq, reduceIte, reduceCtorEq, Nat.reduceEqDiff, Nat.reduceAdd, Nat.reduceMul, Nat.reduceLT, Nat.reduceSub, Nat.reduceLeDiff, Nat.reduceBNe, Nat.reduceBEq, Nat.reduceBeqDiff, List.range, List.range.loop, Try.ntmps14, Try.results14, PF.toR, gives, givesIf, deActs_D, actsD_length, d1, e]
    all_goals rfl
  have d1 : decide (((i : Nat) : Int) < (l.length : Nat)) = true := decide_eq_true (by omega)
  by_cases c2 : i < 50
  case neg =>
    have d2 : decide (((i : Nat) : Int) < 50) = false := decide_eq_false (by omega)
    have e := fin (by omega)
    simp (config := {dsimp := false}) only [↓vp0, vz, vn, nq, tys, cellD, wideIR, sliceWR, makeWR, appendWR, copyR, conv3R, wideT, isArrN, if_true, if_false, implies_true, forall_const, ne_eq, reduceIte, reduceCtorEq, Nat.reduceEqDiff, Nat.reduceAdd, Nat.reduceMul, Nat.reduceLT, Nat.reduceSub, Nat.reduceLeDiff, Nat.reduceBNe, Nat.reduceBEq, Nat.reduceBeqDiff, List.range, List.range.loop, Try.ntmps14, Try.results14, PF.toR, gives, givesIf, deActs_D, actsD_length, d1, d2, e]
    all_goals rfl
  have d2 : decide (((i : Nat) : Int) < 50) = true := decide_eq_true (by omega)
  have g0 := actsD_get l i c1
  obtain ⟨⟨o, a, q, b⟩, hpe⟩ : ∃ p, l.getD i default = p := ⟨_, rfl⟩
  rw [hpe] at g0
  by_cases c3 : 2000 < b.length
  · have d3 : decide ((2000 : Int) < (b.length : Nat)) = true := decide_eq_true (by omega)
    have e := large_true c1 c2 (by rw [hpe]; exact c3)
    simp (config := {dsimp := false}) only [↓vp0, vz, vn, nq, tys, cellD, wideIR, sliceWR, makeWR, appendWR, copyR, conv3R, wideT, isArrN, if_true, if_false, implies_true, forall_const, ne_eq, reduceIte, reduceCtorEq, Nat.reduceEqDiff, Nat.reduceAdd, Nat.reduceMul, Nat.reduceLT, Nat.reduceSub, Nat.reduceLeDiff, Nat.reduceBNe, Nat.reduceBEq, Nat.reduceBeqDiff, List.range, List.range.loop, Try.ntmps14, Try.results14, PF.toR, gives, givesIf, deActs_D, actsD_length, Int.toNat_natCast, g0, actD, d1, d2, d3, e]
    exact ⟨by omega, by omega⟩
  have d3 : decide ((2000 : Int) < (b.length : Nat)) = false := decide_eq_false (by omega)
  simp (config := {dsimp := false}) only [↓vp0, vz, vn, nq, tys, cellD, wideIR, sliceWR, makeWR, appendWR, copyR, conv3R, wideT, isArrN, if_true, if_false, implies_true, forall_const, ne_eq, reduceIte, reduceCtorEq, Nat.reduceEqDiff, Nat.reduceAdd, Nat.reduceMul, Nat.reduceLT, Nat.reduceSub, Nat.reduceLeDiff, Nat.reduceBNe, Nat.reduceBEq, Nat.reduceBeqDiff, List.range, List.range.loop, Try.ntmps14, Try.results14, PF.toR, gives, givesIf, deActs_D, actsD_length, Int.toNat_natCast, g0, actD, d1, d2, d3]
  refine ⟨by omega, by omega, ⟨i + 1, by omega, by omega, fun j h => ?_⟩, ⟨⟨wkD_eq rfl, rfl, wkD_eq ?_, rfl, trivial⟩, trivial, trivial⟩, by (try simp only); omega⟩
  · rcases Nat.lt_or_ge j i with h7 | h7
    · exact hj j h7
    · obtain rfl : j = i := by omega
      rw [hpe]; exact c3
  · exact some_i64 (by (try simp only); omega)
end Go.Vi.DV
end

section
set_option linter.unusedVariables false
set_option linter.unusedSimpArgs false
set_option maxHeartbeats 0
set_option maxRecDepth 20000
namespace Go.Vi.DV
open Go.Proofs

theorem nil_1 (i j : Nat) : binR E .eql 24 (.bp i j) (.raw (.pointer none)) = ok (.bool false) := rfl
theorem nil_2 (i j : Nat) : binR E .neq 24 (.bp i j) (.raw (.pointer none)) = ok (.bool true) := rfl
theorem nil_3 : binR E .eql 24 (.raw (.pointer none)) (.raw (.pointer none)) = ok (.bool true) := rfl
theorem c_dLen : Contract E 21 := by
  refine contract_boxT hE hgl (show E.P.funcs[21]? = some Try.f21 from Try.func21) rfl (p := sp_dLen) (fun _ _ _ => rfl) ?_
  intro args ds tv hv hdl htl
  unfold sp_dLen at hv ⊢
  split at hv
  case h_5 => exact hv.elim
  · rename_i n m off cut w k r ps
    refine ⟨by simp, Nat.le_of_ble_eq_true rfl, ?_⟩
    obtain ⟨l, rfl, hl, rfl, rfl, h0, h1⟩ := hv
    simp (config := {dsimp := false}) only [↓vp0, vz, vn, nq, tys, cellD, wideIR, sliceWR, makeWR, appendWR, copyR, conv3R, wideT, isArrN, if_true, if_false, implies_true, forall_const, ne_eq, reduceIte, reduceCtorEq, Nat.reduceEqDiff, Nat.reduceAdd, Nat.reduceMul, Nat.reduceLT, Nat.reduceSub, Nat.reduceLeDiff, Nat.reduceBNe, Nat.reduceBEq, Nat.reduceBeqDiff, List.range, List.range.loop, Try.ntmps21, Try.results21, retB, vb, nil_1]
    exact ⟨[], [], [], ⟨rfl, rfl⟩, ⟨rfl, rfl⟩, ⟨by simp, by simp⟩, by simp, rfl, rfl, ⟨_, rfl, by (try simp only [List.map_cons, List.map_nil, fin_secs, fin_devK]) <;> (try rfl)⟩, ⟨_, rfl, rfl⟩, id rfl⟩
  · rename_i z es off cut w k r
    refine ⟨by simp, Nat.le_of_ble_eq_true rfl, ?_⟩
    obtain ⟨l, rfl, hl, rfl, h0, h1⟩ := hv
    simp (config := {dsimp := false}) only [↓vp0, vz, vn, nq, tys, cellD, wideIR, sliceWR, makeWR, appendWR, copyR, conv3R, wideT, isArrN, if_true, if_false, implies_true, forall_const, ne_eq, reduceIte, reduceCtorEq, Nat.reduceEqDiff, Nat.reduceAdd, Nat.reduceMul, Nat.reduceLT, Nat.reduceSub, Nat.reduceLeDiff, Nat.reduceBNe, Nat.reduceBEq, Nat.reduceBeqDiff, List.range, List.range.loop, Try.ntmps21, Try.results21, retB, vb, nil_1]
    exact ⟨[], [], [], ⟨rfl, rfl⟩, ⟨rfl, rfl⟩, ⟨by simp, by simp⟩, by simp, rfl, rfl, ⟨_, rfl, by (try simp only [List.map_cons, List.map_nil, fin_secs, fin_devK]) <;> (try rfl)⟩, ⟨_, rfl, rfl⟩, id rfl⟩
  · rename_i off cut w k r
    refine ⟨by simp, Nat.le_of_ble_eq_true rfl, ?_⟩
    simp (config := {dsimp := false}) only [↓vp0, vz, vn, nq, tys, cellD, wideIR, sliceWR, makeWR, appendWR, copyR, conv3R, wideT, isArrN, if_true, if_false, implies_true, forall_const, ne_eq, reduceIte, reduceCtorEq, Nat.reduceEqDiff, Nat.reduceAdd, Nat.reduceMul, Nat.reduceLT, Nat.reduceSub, Nat.reduceLeDiff, Nat.reduceBNe, Nat.reduceBEq, Nat.reduceBeqDiff, List.range, List.range.loop, Try.ntmps21, Try.results21, retB, vb, nil_1]
    exact ⟨[], [], [], ⟨rfl, rfl⟩, ⟨rfl, rfl⟩, ⟨by simp, by simp⟩, by simp, rfl, rfl, ⟨_, rfl, rfl⟩, ⟨_, rfl, rfl⟩, id rfl⟩
  · refine ⟨by simp, Nat.le_of_ble_eq_true rfl, ?_⟩
    simp (config := {dsimp := false}) only [↓vp0, vz, vn, nq, tys, cellD, wideIR, sliceWR, makeWR, appendWR, copyR, conv3R, wideT, isArrN, if_true, if_false, implies_true, forall_const, ne_eq, reduceIte, reduceCtorEq, Nat.reduceEqDiff, Nat.reduceAdd, Nat.reduceMul, Nat.reduceLT, Nat.reduceSub, Nat.reduceLeDiff, Nat.reduceBNe, Nat.reduceBEq, Nat.reduceBeqDiff, List.range, List.range.loop, Try.ntmps21, Try.results21, retB, vb, nil_3]
    exact ⟨[], [], [], ⟨rfl, rfl⟩, ⟨rfl, rfl⟩, ⟨by simp, by simp⟩, by simp, rfl, rfl, ⟨_, rfl, rfl⟩, ⟨_, rfl, rfl⟩, id rfl⟩
theorem sec_ok (l : L2) (h : h128 l) (h0 : 0 < l.length) (h1 : l.length ≤ 32768) : isSec (secs l) l.length (l.length : Nat) := ⟨l, rfl, h, rfl, rfl, h0, h1⟩
theorem secK_ok (l : L2) (h : h128 l) (h0 : 0 < l.length) (h1 : l.length ≤ 32768) : isSecK (secs l) 128 := ⟨l, rfl, h, rfl, h0, h1⟩
theorem may_sub {m a : Int} (h : 0 ≤ a) (h1 : a ≤ m) (hm : m ≤ 32768) : IntKind.wrap .i64 (m - a) = m - a := by rw [IntWalk.i64_in _ (by omega)]
theorem c_dMay : Contract E 22 := by
  refine contract_boxT hE hgl (show E.P.funcs[22]? = some Try.f22 from Try.func22) rfl (p := sp_dMay) (fun _ _ _ => rfl) ?_
  intro args ds tv hv hdl htl
  unfold sp_dMay at hv ⊢
  split at hv
  case h_5 => exact hv.elim
  · rename_i a many n m off cut w k r ps
    refine ⟨by simp, Nat.le_of_ble_eq_true rfl, ?_⟩
    obtain ⟨l, rfl, hl, rfl, rfl, h0, h1⟩ := hv
    have e0 : decide (((l.length : Nat) : Int) = 0) = false := decide_eq_false (by omega)
    have hs := sec_ok l hl h0 h1
    by_cases c1 : many < 1
    · have d1 : decide (many < 1) = true := decide_eq_true c1
      have e1 : mayI (l.length : Nat) a many off = 2 := by unfold mayI; rw [if_neg (by omega), if_pos (.inl c1)]
      simp (config := {dsimp := false}) only [↓vp0, vz, vn, nq, tys, cellD, wideIR, sliceWR, makeWR, appendWR, copyR, conv3R, wideT, isArrN, if_true, if_false, implies_true, forall_const, ne_eq, reduceIte, reduceCtorEq, Nat.reduceEqDiff, Nat.reduceAdd, Nat.reduceMul, Nat.reduceLT, Nat.reduceSub, Nat.reduceLeDiff, Nat.reduceBNe, Nat.reduceBEq, Nat.reduceBeqDiff, List.range, List.range.loop, Try.ntmps22, Try.results22, retB, vb, hs_secs, ren_secs, rens_secs, strips_secs, id_secs, ids_secs, tk_secs, tks_secs, secs_length, hs, e0, d1, e1, spec_dLen, sp_dLen, c_dLen, b_dLen]
      exact ⟨[], [], [], ⟨rfl, rfl⟩, ⟨rfl, rfl⟩, ⟨by simp, by simp⟩, by simp, rfl, rfl, ⟨_, rfl, by (try simp only [List.map_cons, List.map_nil, fin_secs, fin_devK]) <;> (try rfl)⟩, ⟨_, rfl, rfl⟩, id rfl⟩
    have d1 : decide (many < 1) = false := decide_eq_false c1
    by_cases c2 : a < 0
    · have d2 : decide (a < 0) = true := decide_eq_true c2
      have e1 : mayI (l.length : Nat) a many off = 2 := by unfold mayI; rw [if_neg (by omega), if_pos (.inr (.inl c2))]
      simp (config := {dsimp := false}) only [↓vp0, vz, vn, nq, tys, cellD, wideIR, sliceWR, makeWR, appendWR, copyR, conv3R, wideT, isArrN, if_true, if_false, implies_true, forall_const, ne_eq, reduceIte, reduceCtorEq, Nat.reduceEqDiff, Nat.reduceAdd, Nat.reduceMul, Nat.reduceLT, Nat.reduceSub, Nat.reduceLeDiff, Nat.reduceBNe, Nat.reduceBEq, Nat.reduceBeqDiff, List.range, List.range.loop, Try.ntmps22, Try.results22, retB, vb, hs_secs, ren_secs, rens_secs, strips_secs, id_secs, ids_secs, tk_secs, tks_secs, secs_length, hs, e0, d1, d2, e1, spec_dLen, sp_dLen, c_dLen, b_dLen]
      exact ⟨[], [], [], ⟨rfl, rfl⟩, ⟨rfl, rfl⟩, ⟨by simp, by simp⟩, by simp, rfl, rfl, ⟨_, rfl, by (try simp only [List.map_cons, List.map_nil, fin_secs, fin_devK]) <;> (try rfl)⟩, ⟨_, rfl, rfl⟩, id rfl⟩
    have d2 : decide (a < 0) = false := decide_eq_false c2
    by_cases c3 : ((l.length : Nat) : Int) < a
    · have d3 : decide (((l.length : Nat) : Int) < a) = true := decide_eq_true c3
      have e1 : mayI (l.length : Nat) a many off = 2 := by unfold mayI; rw [if_neg (by omega), if_pos (.inr (.inr (.inl c3)))]
      simp (config := {dsimp := false}) only [↓vp0, vz, vn, nq, tys, cellD, wideIR, sliceWR, makeWR, appendWR, copyR, conv3R, wideT, isArrN, if_true, if_false, implies_true, forall_const, ne_eq, reduceIte, reduceCtorEq, Nat.reduceEqDiff, Nat.reduceAdd, Nat.reduceMul, Nat.reduceLT, Nat.reduceSub, Nat.reduceLeDiff, Nat.reduceBNe, Nat.reduceBEq, Nat.reduceBeqDiff, List.range, List.range.loop, Try.ntmps22, Try.results22, retB, vb, hs_secs, ren_secs, rens_secs, strips_secs, id_secs, ids_secs, tk_secs, tks_secs, secs_length, hs, e0, d1, d2, d3, e1, spec_dLen, sp_dLen, c_dLen, b_dLen]
      exact ⟨[], [], [], ⟨rfl, rfl⟩, ⟨rfl, rfl⟩, ⟨by simp, by simp⟩, by simp, rfl, rfl, ⟨_, rfl, by (try simp only [List.map_cons, List.map_nil, fin_secs, fin_devK]) <;> (try rfl)⟩, ⟨_, rfl, rfl⟩, id rfl⟩
    have d3 : decide (((l.length : Nat) : Int) < a) = false := decide_eq_false c3
    have ew := may_sub (m := (l.length : Nat)) (a := a) (by omega) (by omega) (by omega)
    by_cases c4 : ((l.length : Nat) : Int) - a < many
    · have d4 : decide (((l.length : Nat) : Int) - a < many) = true := decide_eq_true c4
      have e1 : mayI (l.length : Nat) a many off = 2 := by unfold mayI; rw [if_neg (by omega), if_pos (.inr (.inr (.inr c4)))]
      simp (config := {dsimp := false}) only [↓vp0, vz, vn, nq, tys, cellD, wideIR, sliceWR, makeWR, appendWR, copyR, conv3R, wideT, isArrN, if_true, if_false, implies_true, forall_const, ne_eq, reduceIte, reduceCtorEq, Nat.reduceEqDiff, Nat.reduceAdd, Nat.reduceMul, Nat.reduceLT, Nat.reduceSub, Nat.reduceLeDiff, Nat.reduceBNe, Nat.reduceBEq, Nat.reduceBeqDiff, List.range, List.range.loop, Try.ntmps22, Try.results22, retB, vb, hs_secs, ren_secs, rens_secs, strips_secs, id_secs, ids_secs, tk_secs, tks_secs, secs_length, hs, e0, d1, d2, d3, d4, ew, e1, spec_dLen, sp_dLen, c_dLen, b_dLen]
      exact ⟨[], [], [], ⟨rfl, rfl⟩, ⟨rfl, rfl⟩, ⟨by simp, by simp⟩, by simp, rfl, rfl, ⟨_, rfl, by (try simp only [List.map_cons, List.map_nil, fin_secs, fin_devK]) <;> (try rfl)⟩, ⟨_, rfl, rfl⟩, id rfl⟩
    have d4 : decide (((l.length : Nat) : Int) - a < many) = false := decide_eq_false c4
    have e1 : mayI (l.length : Nat) a many off = if off = true then 36 else 0 := by unfold mayI; rw [if_neg (by omega), if_neg (by omega)]
    cases off
    all_goals simp (config := {dsimp := false}) only [↓vp0, vz, vn, nq, tys, cellD, wideIR, sliceWR, makeWR, appendWR, copyR, conv3R, wideT, isArrN, if_true, if_false, implies_true, forall_const, ne_eq, reduceIte, reduceCtorEq, Nat.reduceEqDiff, Nat.reduceAdd, Nat.reduceMul, Nat.reduceLT, Nat.reduceSub, Nat.reduceLeDiff, Nat.reduceBNe, Nat.reduceBEq, Nat.reduceBeqDiff, List.range, List.range.loop, Try.ntmps22, Try.results22, retB, vb, hs_secs, ren_secs, rens_secs, strips_secs, id_secs, ids_secs, tk_secs, tks_secs, secs_length, hs, e0, d1, d2, d3, d4, ew, e1, spec_dLen, sp_dLen, c_dLen, b_dLen]
    all_goals exact ⟨[], [], [], ⟨rfl, rfl⟩, ⟨rfl, rfl⟩, ⟨by simp, by simp⟩, by simp, rfl, rfl, ⟨_, rfl, by (try simp only [List.map_cons, List.map_nil, fin_secs, fin_devK]) <;> (try rfl)⟩, ⟨_, rfl, rfl⟩, id rfl⟩
  · rename_i a many z es off cut w k r
    refine ⟨by simp, Nat.le_of_ble_eq_true rfl, ?_⟩
    obtain ⟨l, rfl, hl, rfl, h0, h1⟩ := hv
    have e0 : decide (((l.length : Nat) : Int) = 0) = false := decide_eq_false (by omega)
    have hs := secK_ok l hl h0 h1
    by_cases c1 : many < 1
    · have d1 : decide (many < 1) = true := decide_eq_true c1
      have e1 : mayI (l.length : Nat) a many off = 2 := by unfold mayI; rw [if_neg (by omega), if_pos (.inl c1)]
      simp (config := {dsimp := false}) only [↓vp0, vz, vn, nq, tys, cellD, wideIR, sliceWR, makeWR, appendWR, copyR, conv3R, wideT, isArrN, if_true, if_false, implies_true, forall_const, ne_eq, reduceIte, reduceCtorEq, Nat.reduceEqDiff, Nat.reduceAdd, Nat.reduceMul, Nat.reduceLT, Nat.reduceSub, Nat.reduceLeDiff, Nat.reduceBNe, Nat.reduceBEq, Nat.reduceBeqDiff, List.range, List.range.loop, Try.ntmps22, Try.results22, retB, vb, hs_secs, ren_secs, rens_secs, strips_secs, id_secs, ids_secs, tk_secs, tks_secs, secs_length, hs, e0, d1, e1, spec_dLen, sp_dLen, c_dLen, b_dLen]
      exact ⟨[], [], [], ⟨rfl, rfl⟩, ⟨rfl, rfl⟩, ⟨by simp, by simp⟩, by simp, rfl, rfl, ⟨_, rfl, by (try simp only [List.map_cons, List.map_nil, fin_secs, fin_devK]) <;> (try rfl)⟩, ⟨_, rfl, rfl⟩, id rfl⟩
    have d1 : decide (many < 1) = false := decide_eq_false c1
    by_cases c2 : a < 0
    · have d2 : decide (a < 0) = true := decide_eq_true c2
      have e1 : mayI (l.length : Nat) a many off = 2 := by unfold mayI; rw [if_neg (by omega), if_pos (.inr (.inl c2))]
      simp (config := {dsimp := false}) only [↓vp0, vz, vn, nq, tys, cellD, wideIR, sliceWR, makeWR, appendWR, copyR, conv3R, wideT, isArrN, if_true, if_false, implies_true, forall_const, ne_eq, reduceIte, reduceCtorEq, Nat.reduceEqDiff, Nat.reduceAdd, Nat.reduceMul, Nat.reduceLT, Nat.reduceSub, Nat.reduceLeDiff, Nat.reduceBNe, Nat.reduceBEq, Nat.reduceBeqDiff, List.range, List.range.loop, Try.ntmps22, Try.results22, retB, vb, hs_secs, ren_secs, rens_secs, strips_secs, id_secs, ids_secs, tk_secs, tks_secs, secs_length, hs, e0, d1, d2, e1, spec_dLen, sp_dLen, c_dLen, b_dLen]
      exact ⟨[], [], [], ⟨rfl, rfl⟩, ⟨rfl, rfl⟩, ⟨by simp, by simp⟩, by simp, rfl, rfl, ⟨_, rfl, by (try simp only [List.map_cons, List.map_nil, fin_secs, fin_devK]) <;> (try rfl)⟩, ⟨_, rfl, rfl⟩, id rfl⟩
    have d2 : decide (a < 0) = false := decide_eq_false c2
    by_cases c3 : ((l.length : Nat) : Int) < a
    · have d3 : decide (((l.length : Nat) : Int) < a) = true := decide_eq_true c3
      have e1 : mayI (l.length : Nat) a many off = 2 := by unfold mayI; rw [if_neg (by omega), if_pos (.inr (.inr (.inl c3)))]
      simp (config := {dsimp := false}) only [↓vp0, vz, vn, nq, tys, cellD, wideIR, sliceWR, makeWR, appendWR, copyR, conv3R, wideT, isArrN, if_true, if_false, implies_true, forall_const, ne_eq, reduceIte, reduceCtorEq, Nat.reduceEqDiff, Nat.reduceAdd, Nat.reduceMul, Nat.reduceLT, Nat.reduceSub, Nat.reduceLeDiff, Nat.reduceBNe, Nat.reduceBEq, Nat.reduceBeqDiff, List.range, List.range.loop, Try.ntmps22, Try.results22, retB, vb, hs_secs, ren_secs, rens_secs, strips_secs, id_secs, ids_secs, tk_secs, tks_secs, secs_length, hs, e0, d1, d2, d3, e1, spec_dLen, sp_dLen, c_dLen, b_dLen]
      exact ⟨[], [], [], ⟨rfl, rfl⟩, ⟨rfl, rfl⟩, ⟨by simp, by simp⟩, by simp, rfl, rfl, ⟨_, rfl, by (try simp only [List.map_cons, List.map_nil, fin_secs, fin_devK]) <;> (try rfl)⟩, ⟨_, rfl, rfl⟩, id rfl⟩
    have d3 : decide (((l.length : Nat) : Int) < a) = false := decide_eq_false c3
    have ew := may_sub (m := (l.length : Nat)) (a := a) (by omega) (by omega) (by omega)
    by_cases c4 : ((l.length : Nat) : Int) - a < many
    · have d4 : decide (((l.length : Nat) : Int) - a < many) = true := decide_eq_true c4
      have e1 : mayI (l.length : Nat) a many off = 2 := by unfold mayI; rw [if_neg (by omega), if_pos (.inr (.inr (.inr c4)))]
      simp (config := {dsimp := false}) only [↓vp0, vz, vn, nq, tys, cellD, wideIR, sliceWR, makeWR, appendWR, copyR, conv3R, wideT, isArrN, if_true, if_false, implies_true, forall_const, ne_eq, reduceIte, reduceCtorEq, Nat.reduceEqDiff, Nat.reduceAdd, Nat.reduceMul, Nat.reduceLT, Nat.reduceSub, Nat.reduceLeDiff, Nat.reduceBNe, Nat.reduceBEq, Nat.reduceBeqDiff, List.range, List.range.loop, Try.ntmps22, Try.results22, retB, vb, hs_secs, ren_secs, rens_secs, strips_secs, id_secs, ids_secs, tk_secs, tks_secs, secs_length, hs, e0, d1, d2, d3, d4, ew, e1, spec_dLen, sp_dLen, c_dLen, b_dLen]
      exact ⟨[], [], [], ⟨rfl, rfl⟩, ⟨rfl, rfl⟩, ⟨by simp, by simp⟩, by simp, rfl, rfl, ⟨_, rfl, by (try simp only [List.map_cons, List.map_nil, fin_secs, fin_devK]) <;> (try rfl)⟩, ⟨_, rfl, rfl⟩, id rfl⟩
    have d4 : decide (((l.length : Nat) : Int) - a < many) = false := decide_eq_false c4
    have e1 : mayI (l.length : Nat) a many off = if off = true then 36 else 0 := by unfold mayI; rw [if_neg (by omega), if_neg (by omega)]
    cases off
    all_goals simp (config := {dsimp := false}) only [↓vp0, vz, vn, nq, tys, cellD, wideIR, sliceWR, makeWR, appendWR, copyR, conv3R, wideT, isArrN, if_true, if_false, implies_true, forall_const, ne_eq, reduceIte, reduceCtorEq, Nat.reduceEqDiff, Nat.reduceAdd, Nat.reduceMul, Nat.reduceLT, Nat.reduceSub, Nat.reduceLeDiff, Nat.reduceBNe, Nat.reduceBEq, Nat.reduceBeqDiff, List.range, List.range.loop, Try.ntmps22, Try.results22, retB, vb, hs_secs, ren_secs, rens_secs, strips_secs, id_secs, ids_secs, tk_secs, tks_secs, secs_length, hs, e0, d1, d2, d3, d4, ew, e1, spec_dLen, sp_dLen, c_dLen, b_dLen]
    all_goals exact ⟨[], [], [], ⟨rfl, rfl⟩, ⟨rfl, rfl⟩, ⟨by simp, by simp⟩, by simp, rfl, rfl, ⟨_, rfl, by (try simp only [List.map_cons, List.map_nil, fin_secs, fin_devK]) <;> (try rfl)⟩, ⟨_, rfl, rfl⟩, id rfl⟩
  · rename_i a many off cut w k r
    refine ⟨by simp, Nat.le_of_ble_eq_true rfl, ?_⟩
    simp (config := {dsimp := false}) only [↓vp0, vz, vn, nq, tys, cellD, wideIR, sliceWR, makeWR, appendWR, copyR, conv3R, wideT, isArrN, if_true, if_false, implies_true, forall_const, ne_eq, reduceIte, reduceCtorEq, Nat.reduceEqDiff, Nat.reduceAdd, Nat.reduceMul, Nat.reduceLT, Nat.reduceSub, Nat.reduceLeDiff, Nat.reduceBNe, Nat.reduceBEq, Nat.reduceBeqDiff, List.range, List.range.loop, Try.ntmps22, Try.results22, retB, vb, decide_true, spec_dLen, sp_dLen, c_dLen, b_dLen]
    exact ⟨[], [], [], ⟨rfl, rfl⟩, ⟨rfl, rfl⟩, ⟨by simp, by simp⟩, by simp, rfl, rfl, ⟨_, rfl, rfl⟩, ⟨_, rfl, rfl⟩, id rfl⟩
  · rename_i a many
    refine ⟨by simp, Nat.le_of_ble_eq_true rfl, ?_⟩
    simp (config := {dsimp := false}) only [↓vp0, vz, vn, nq, tys, cellD, wideIR, sliceWR, makeWR, appendWR, copyR, conv3R, wideT, isArrN, if_true, if_false, implies_true, forall_const, ne_eq, reduceIte, reduceCtorEq, Nat.reduceEqDiff, Nat.reduceAdd, Nat.reduceMul, Nat.reduceLT, Nat.reduceSub, Nat.reduceLeDiff, Nat.reduceBNe, Nat.reduceBEq, Nat.reduceBeqDiff, List.range, List.range.loop, Try.ntmps22, Try.results22, retB, vb, decide_true, spec_dLen, sp_dLen, c_dLen, b_dLen]
    exact ⟨[], [], [], ⟨rfl, rfl⟩, ⟨rfl, rfl⟩, ⟨by simp, by simp⟩, by simp, rfl, rfl, ⟨_, rfl, rfl⟩, ⟨_, rfl, rfl⟩, id rfl⟩
end Go.Vi.DV
end

section
set_option linter.unusedVariables false
set_option linter.unusedSimpArgs false
set_option maxHeartbeats 0
set_option maxRecDepth 20000
namespace Go.Vi.DV
open Go.Proofs

theorem c_dOff : Contract E 10 := by
  refine contract_boxT hE hgl (show E.P.funcs[10]? = some Try.f10 from Try.func10) rfl (p := sp_dOff) (fun _ _ _ => rfl) ?_
  intro args ds tv hv hdl htl
  unfold sp_dOff at hv ⊢
  split at hv
  case h_4 => exact hv.elim
  · rename_i n m off cut w k r ps
    refine ⟨by simp, Nat.le_of_ble_eq_true rfl, ?_⟩
    obtain ⟨l, rfl, hl, rfl, rfl, h0, h1⟩ := hv
    have e0 : decide ((0 : Int) < ((l.length : Nat) : Int)) = true := decide_eq_true (by omega)
    have hs := sec_ok l hl h0 h1
    simp (config := {dsimp := false}) only [↓vp0, vz, vn, nq, tys, cellD, wideIR, sliceWR, makeWR, appendWR, copyR, conv3R, wideT, isArrN, if_true, if_false, implies_true, forall_const, ne_eq, reduceIte, reduceCtorEq, Nat.reduceEqDiff, Nat.reduceAdd, Nat.reduceMul, Nat.reduceLT, Nat.reduceSub, Nat.reduceLeDiff, Nat.reduceBNe, Nat.reduceBEq, Nat.reduceBeqDiff, List.range, List.range.loop, Try.ntmps10, Try.results10, retB, vb, hs_secs, ren_secs, rens_secs, strips_secs, id_secs, ids_secs, tk_secs, tks_secs, secs_length, hs, e0, spec_dLen, sp_dLen, c_dLen, b_dLen]
    exact ⟨[], [], [], ⟨rfl, rfl⟩, ⟨rfl, rfl⟩, ⟨by simp, by simp⟩, by simp, rfl, rfl, ⟨_, rfl, by (try simp only [List.map_cons, List.map_nil, fin_secs, fin_devK]) <;> (try rfl)⟩, ⟨_, rfl, rfl⟩, id rfl⟩
  · rename_i z es off cut w k r
    refine ⟨by simp, Nat.le_of_ble_eq_true rfl, ?_⟩
    obtain ⟨l, rfl, hl, rfl, h0, h1⟩ := hv
    have e0 : decide ((0 : Int) < ((l.length : Nat) : Int)) = true := decide_eq_true (by omega)
    have hs := secK_ok l hl h0 h1
    simp (config := {dsimp := false}) only [↓vp0, vz, vn, nq, tys, cellD, wideIR, sliceWR, makeWR, appendWR, copyR, conv3R, wideT, isArrN, if_true, if_false, implies_true, forall_const, ne_eq, reduceIte, reduceCtorEq, Nat.reduceEqDiff, Nat.reduceAdd, Nat.reduceMul, Nat.reduceLT, Nat.reduceSub, Nat.reduceLeDiff, Nat.reduceBNe, Nat.reduceBEq, Nat.reduceBeqDiff, List.range, List.range.loop, Try.ntmps10, Try.results10, retB, vb, hs_secs, ren_secs, rens_secs, strips_secs, id_secs, ids_secs, tk_secs, tks_secs, secs_length, hs, e0, spec_dLen, sp_dLen, c_dLen, b_dLen]
    exact ⟨[], [], [], ⟨rfl, rfl⟩, ⟨rfl, rfl⟩, ⟨by simp, by simp⟩, by simp, rfl, rfl, ⟨_, rfl, by (try simp only [List.map_cons, List.map_nil, fin_secs, fin_devK]) <;> (try rfl)⟩, ⟨_, rfl, rfl⟩, id rfl⟩
  · refine ⟨by simp, Nat.le_of_ble_eq_true rfl, ?_⟩
    simp (config := {dsimp := false}) only [↓vp0, vz, vn, nq, tys, cellD, wideIR, sliceWR, makeWR, appendWR, copyR, conv3R, wideT, isArrN, if_true, if_false, implies_true, forall_const, ne_eq, reduceIte, reduceCtorEq, Nat.reduceEqDiff, Nat.reduceAdd, Nat.reduceMul, Nat.reduceLT, Nat.reduceSub, Nat.reduceLeDiff, Nat.reduceBNe, Nat.reduceBEq, Nat.reduceBeqDiff, List.range, List.range.loop, Try.ntmps10, Try.results10, retB, vb, show decide ((0 : Int) < 0) = false from rfl, spec_dLen, sp_dLen, c_dLen, b_dLen]
    exact ⟨[], [], [], ⟨rfl, rfl⟩, ⟨rfl, rfl⟩, ⟨by simp, by simp⟩, by simp, rfl, rfl, ⟨_, rfl, rfl⟩, ⟨_, rfl, rfl⟩, id rfl⟩
theorem c_dRestart : Contract E 11 := by
  refine contract_boxT hE hgl (show E.P.funcs[11]? = some Try.f11 from Try.func11) rfl (p := sp_dRestart) (fun _ _ _ => rfl) ?_
  intro args ds tv hv hdl htl
  unfold sp_dRestart at hv ⊢
  split at hv
  case h_4 => exact hv.elim
  · rename_i n m off cut w k r ps
    refine ⟨by simp, Nat.le_of_ble_eq_true rfl, ?_⟩
    obtain ⟨l, rfl, hl, rfl, rfl, h0, h1⟩ := hv
    have e0 : decide (((l.length : Nat) : Int) = 0) = false := decide_eq_false (by omega)
    have hs := sec_ok l hl h0 h1
    simp (config := {dsimp := false}) only [↓vp0, vz, vn, nq, tys, cellD, wideIR, sliceWR, makeWR, appendWR, copyR, conv3R, wideT, isArrN, if_true, if_false, implies_true, forall_const, ne_eq, reduceIte, reduceCtorEq, Nat.reduceEqDiff, Nat.reduceAdd, Nat.reduceMul, Nat.reduceLT, Nat.reduceSub, Nat.reduceLeDiff, Nat.reduceBNe, Nat.reduceBEq, Nat.reduceBeqDiff, List.range, List.range.loop, Try.ntmps11, Try.results11, retB, vb, hs_secs, ren_secs, rens_secs, strips_secs, id_secs, ids_secs, tk_secs, tks_secs, secs_length, hs, e0, spec_dLen, sp_dLen, c_dLen, b_dLen]
    exact ⟨[], [], [], ⟨rfl, rfl⟩, ⟨rfl, rfl⟩, ⟨by simp, by simp⟩, by simp, rfl, rfl, ⟨_, rfl, by (try simp only [List.map_cons, List.map_nil, fin_secs, fin_devK]) <;> (try rfl)⟩, ⟨_, rfl, rfl⟩, id rfl⟩
  · rename_i z es off cut w k r
    refine ⟨by simp, Nat.le_of_ble_eq_true rfl, ?_⟩
    obtain ⟨l, rfl, hl, rfl, h0, h1⟩ := hv
    have e0 : decide (((l.length : Nat) : Int) = 0) = false := decide_eq_false (by omega)
    have hs := secK_ok l hl h0 h1
    simp (config := {dsimp := false}) only [↓vp0, vz, vn, nq, tys, cellD, wideIR, sliceWR, makeWR, appendWR, copyR, conv3R, wideT, isArrN, if_true, if_false, implies_true, forall_const, ne_eq, reduceIte, reduceCtorEq, Nat.reduceEqDiff, Nat.reduceAdd, Nat.reduceMul, Nat.reduceLT, Nat.reduceSub, Nat.reduceLeDiff, Nat.reduceBNe, Nat.reduceBEq, Nat.reduceBeqDiff, List.range, List.range.loop, Try.ntmps11, Try.results11, retB, vb, hs_secs, ren_secs, rens_secs, strips_secs, id_secs, ids_secs, tk_secs, tks_secs, secs_length, hs, e0, spec_dLen, sp_dLen, c_dLen, b_dLen]
    exact ⟨[], [], [], ⟨rfl, rfl⟩, ⟨rfl, rfl⟩, ⟨by simp, by simp⟩, by simp, rfl, rfl, ⟨_, rfl, by (try simp only [List.map_cons, List.map_nil, fin_secs, fin_devK]) <;> (try rfl)⟩, ⟨_, rfl, rfl⟩, id rfl⟩
  · rename_i off cut w k r
    refine ⟨by simp, Nat.le_of_ble_eq_true rfl, ?_⟩
    simp (config := {dsimp := false}) only [↓vp0, vz, vn, nq, tys, cellD, wideIR, sliceWR, makeWR, appendWR, copyR, conv3R, wideT, isArrN, if_true, if_false, implies_true, forall_const, ne_eq, reduceIte, reduceCtorEq, Nat.reduceEqDiff, Nat.reduceAdd, Nat.reduceMul, Nat.reduceLT, Nat.reduceSub, Nat.reduceLeDiff, Nat.reduceBNe, Nat.reduceBEq, Nat.reduceBeqDiff, List.range, List.range.loop, Try.ntmps11, Try.results11, retB, vb, decide_true, spec_dLen, sp_dLen, c_dLen, b_dLen]
    exact ⟨[], [], [], ⟨rfl, rfl⟩, ⟨rfl, rfl⟩, ⟨by simp, by simp⟩, by simp, rfl, rfl, ⟨_, rfl, rfl⟩, ⟨_, rfl, rfl⟩, id rfl⟩
theorem c_dWrites : Contract E 13 := by
  refine contract_boxT hE hgl (show E.P.funcs[13]? = some Try.f13 from Try.func13) rfl (p := sp_dWrites) (fun _ _ _ => rfl) ?_
  intro args ds tv hv hdl htl
  unfold sp_dWrites at hv ⊢
  split at hv
  case h_4 => exact hv.elim
  · rename_i n m off cut w k r ps
    refine ⟨by simp, Nat.le_of_ble_eq_true rfl, ?_⟩
    obtain ⟨l, rfl, hl, rfl, rfl, h0, h1⟩ := hv
    simp (config := {dsimp := false}) only [↓vp0, vz, vn, nq, tys, cellD, wideIR, sliceWR, makeWR, appendWR, copyR, conv3R, wideT, isArrN, if_true, if_false, implies_true, forall_const, ne_eq, reduceIte, reduceCtorEq, Nat.reduceEqDiff, Nat.reduceAdd, Nat.reduceMul, Nat.reduceLT, Nat.reduceSub, Nat.reduceLeDiff, Nat.reduceBNe, Nat.reduceBEq, Nat.reduceBeqDiff, List.range, List.range.loop, Try.ntmps13, Try.results13, retB, vb, hs_secs, ren_secs, rens_secs, strips_secs, id_secs, ids_secs, tk_secs, tks_secs, secs_length, nil_1]
    exact ⟨[], [], [], ⟨rfl, rfl⟩, ⟨rfl, rfl⟩, ⟨by simp, by simp⟩, by simp, rfl, rfl, ⟨_, rfl, by (try simp only [List.map_cons, List.map_nil, fin_secs, fin_devK]) <;> (try rfl)⟩, ⟨_, rfl, rfl⟩, id rfl⟩
  · rename_i z es off cut w k r
    refine ⟨by simp, Nat.le_of_ble_eq_true rfl, ?_⟩
    obtain ⟨l, rfl, hl, rfl, h0, h1⟩ := hv
    simp (config := {dsimp := false}) only [↓vp0, vz, vn, nq, tys, cellD, wideIR, sliceWR, makeWR, appendWR, copyR, conv3R, wideT, isArrN, if_true, if_false, implies_true, forall_const, ne_eq, reduceIte, reduceCtorEq, Nat.reduceEqDiff, Nat.reduceAdd, Nat.reduceMul, Nat.reduceLT, Nat.reduceSub, Nat.reduceLeDiff, Nat.reduceBNe, Nat.reduceBEq, Nat.reduceBeqDiff, List.range, List.range.loop, Try.ntmps13, Try.results13, retB, vb, hs_secs, ren_secs, rens_secs, strips_secs, id_secs, ids_secs, tk_secs, tks_secs, secs_length, nil_1]
    exact ⟨[], [], [], ⟨rfl, rfl⟩, ⟨rfl, rfl⟩, ⟨by simp, by simp⟩, by simp, rfl, rfl, ⟨_, rfl, by (try simp only [List.map_cons, List.map_nil, fin_secs, fin_devK]) <;> (try rfl)⟩, ⟨_, rfl, rfl⟩, id rfl⟩
  · rename_i off cut w k r
    refine ⟨by simp, Nat.le_of_ble_eq_true rfl, ?_⟩
    simp (config := {dsimp := false}) only [↓vp0, vz, vn, nq, tys, cellD, wideIR, sliceWR, makeWR, appendWR, copyR, conv3R, wideT, isArrN, if_true, if_false, implies_true, forall_const, ne_eq, reduceIte, reduceCtorEq, Nat.reduceEqDiff, Nat.reduceAdd, Nat.reduceMul, Nat.reduceLT, Nat.reduceSub, Nat.reduceLeDiff, Nat.reduceBNe, Nat.reduceBEq, Nat.reduceBeqDiff, List.range, List.range.loop, Try.ntmps13, Try.results13, retB, vb, nil_1]
    exact ⟨[], [], [], ⟨rfl, rfl⟩, ⟨rfl, rfl⟩, ⟨by simp, by simp⟩, by simp, rfl, rfl, ⟨_, rfl, rfl⟩, ⟨_, rfl, rfl⟩, id rfl⟩
theorem c_dCut : Contract E 8 := by
  refine contract_boxT hE hgl (show E.P.funcs[8]? = some Try.f8 from Try.func8) rfl (p := sp_dCut) (fun _ _ _ => rfl) ?_
  intro args ds tv hv hdl htl
  unfold sp_dCut at hv ⊢
  split at hv
  case h_3 => exact hv.elim
  · rename_i a b n m off cut w k r ps
    refine ⟨by simp, Nat.le_of_ble_eq_true rfl, ?_⟩
    obtain ⟨l, rfl, hl, rfl, rfl, h0, h1⟩ := hv
    have e0 : decide (((l.length : Nat) : Int) = 0) = false := decide_eq_false (by omega)
    have hs := sec_ok l hl h0 h1
    by_cases c1 : a < 0
    · have d1 : decide (a < 0) = true := decide_eq_true c1
      have c3 : (a < 0 ∨ b < 0) = True := by simp [c1]
      simp (config := {dsimp := false}) only [↓vp0, vz, vn, nq, tys, cellD, wideIR, sliceWR, makeWR, appendWR, copyR, conv3R, wideT, isArrN, if_true, if_false, implies_true, forall_const, ne_eq, reduceIte, reduceCtorEq, Nat.reduceEqDiff, Nat.reduceAdd, Nat.reduceMul, Nat.reduceLT, Nat.reduceSub, Nat.reduceLeDiff, Nat.reduceBNe, Nat.reduceBEq, Nat.reduceBeqDiff, List.range, List.range.loop, Try.ntmps8, Try.results8, retB, vb, hs_secs, ren_secs, rens_secs, strips_secs, id_secs, ids_secs, tk_secs, tks_secs, secs_length, hs, e0, d1, c3, spec_dLen, sp_dLen, c_dLen, b_dLen]
      exact ⟨[], [], [], ⟨rfl, rfl⟩, ⟨rfl, rfl⟩, ⟨by simp, by simp⟩, by simp, rfl, rfl, ⟨_, rfl, by (try simp only [List.map_cons, List.map_nil, fin_secs, fin_devK]) <;> (try rfl)⟩, ⟨_, rfl, rfl⟩, id rfl⟩
    have d1 : decide (a < 0) = false := decide_eq_false c1
    by_cases c2 : b < 0
    · have d2 : decide (b < 0) = true := decide_eq_true c2
      have c3 : (a < 0 ∨ b < 0) = True := by simp [c2]
      simp (config := {dsimp := false}) only [↓vp0, vz, vn, nq, tys, cellD, wideIR, sliceWR, makeWR, appendWR, copyR, conv3R, wideT, isArrN, if_true, if_false, implies_true, forall_const, ne_eq, reduceIte, reduceCtorEq, Nat.reduceEqDiff, Nat.reduceAdd, Nat.reduceMul, Nat.reduceLT, Nat.reduceSub, Nat.reduceLeDiff, Nat.reduceBNe, Nat.reduceBEq, Nat.reduceBeqDiff, List.range, List.range.loop, Try.ntmps8, Try.results8, retB, vb, hs_secs, ren_secs, rens_secs, strips_secs, id_secs, ids_secs, tk_secs, tks_secs, secs_length, hs, e0, d1, d2, c3, spec_dLen, sp_dLen, c_dLen, b_dLen]
      exact ⟨[], [], [], ⟨rfl, rfl⟩, ⟨rfl, rfl⟩, ⟨by simp, by simp⟩, by simp, rfl, rfl, ⟨_, rfl, by (try simp only [List.map_cons, List.map_nil, fin_secs, fin_devK]) <;> (try rfl)⟩, ⟨_, rfl, rfl⟩, id rfl⟩
    have d2 : decide (b < 0) = false := decide_eq_false c2
    have c3 : (a < 0 ∨ b < 0) = False := by simp; omega
    simp (config := {dsimp := false}) only [↓vp0, vz, vn, nq, tys, cellD, wideIR, sliceWR, makeWR, appendWR, copyR, conv3R, wideT, isArrN, if_true, if_false, implies_true, forall_const, ne_eq, reduceIte, reduceCtorEq, Nat.reduceEqDiff, Nat.reduceAdd, Nat.reduceMul, Nat.reduceLT, Nat.reduceSub, Nat.reduceLeDiff, Nat.reduceBNe, Nat.reduceBEq, Nat.reduceBeqDiff, List.range, List.range.loop, Try.ntmps8, Try.results8, retB, vb, hs_secs, ren_secs, rens_secs, strips_secs, id_secs, ids_secs, tk_secs, tks_secs, secs_length, hs, e0, d1, d2, c3, spec_dLen, sp_dLen, c_dLen, b_dLen]
    exact ⟨[], [], [], ⟨rfl, rfl⟩, ⟨rfl, rfl⟩, ⟨by simp, by simp⟩, by simp, rfl, rfl, ⟨_, rfl, by (try simp only [List.map_cons, List.map_nil, fin_secs, fin_devK]) <;> (try rfl)⟩, ⟨_, rfl, rfl⟩, id rfl⟩
  · rename_i a b
    refine ⟨by simp, Nat.le_of_ble_eq_true rfl, ?_⟩
    simp (config := {dsimp := false}) only [↓vp0, vz, vn, nq, tys, cellD, wideIR, sliceWR, makeWR, appendWR, copyR, conv3R, wideT, isArrN, if_true, if_false, implies_true, forall_const, ne_eq, reduceIte, reduceCtorEq, Nat.reduceEqDiff, Nat.reduceAdd, Nat.reduceMul, Nat.reduceLT, Nat.reduceSub, Nat.reduceLeDiff, Nat.reduceBNe, Nat.reduceBEq, Nat.reduceBeqDiff, List.range, List.range.loop, Try.ntmps8, Try.results8, retB, vb, decide_true, spec_dLen, sp_dLen, c_dLen, b_dLen]
    exact ⟨[], [], [], ⟨rfl, rfl⟩, ⟨rfl, rfl⟩, ⟨by simp, by simp⟩, by simp, rfl, rfl, ⟨_, rfl, rfl⟩, ⟨_, rfl, rfl⟩, id rfl⟩
end Go.Vi.DV
end

section
set_option linter.unusedVariables false
set_option linter.unusedSimpArgs false
set_option maxHeartbeats 0
set_option maxRecDepth 20000
namespace Go.Vi.DV
open Go.Proofs

theorem c_dNew : Contract E 7 := by
  refine contract_boxT hE hgl (show E.P.funcs[7]? = some Try.f7 from Try.func7) rfl (p := sp_dNew) (fun _ _ _ => rfl) ?_
  intro args ds tv hv hdl htl
  unfold sp_dNew at hv ⊢
  split at hv
  case h_2 => exact hv.elim
  rename_i n
  refine ⟨by simp, Nat.le_of_ble_eq_true rfl, ?_⟩
  by_cases c1 : n < 1
  · have d1 : decide (n < 1) = true := decide_eq_true c1
    have c3 : (n < 1 ∨ n > 32768) = True := by simp [c1]
    simp (config := {dsimp := false}) only [↓vp0, vz, vn, nq, tys, cellD, wideIR, sliceWR, makeWR, appendWR, copyR, conv3R, wideT, isArrN, if_true, if_false, implies_true, forall_const, ne_eq, reduceIte, reduceCtorEq, Nat.reduceEqDiff, Nat.reduceAdd, Nat.reduceMul, Nat.reduceLT, Nat.reduceSub, Nat.reduceLeDiff, Nat.reduceBNe, Nat.reduceBEq, Nat.reduceBeqDiff, List.range, List.range.loop, Try.ntmps7, Try.results7, retB, vb, d1, c3]
    exact ⟨[], [], [], ⟨rfl, rfl⟩, ⟨rfl, rfl⟩, ⟨by simp, by simp⟩, by simp, rfl, rfl, ⟨_, rfl, rfl⟩, ⟨_, rfl, rfl⟩, id rfl⟩
  have d1 : decide (n < 1) = false := decide_eq_false c1
  by_cases c2 : 32768 < n
  · have d2 : decide (32768 < n) = true := decide_eq_true c2
    have c3 : (n < 1 ∨ n > 32768) = True := by simp; omega
    simp (config := {dsimp := false}) only [↓vp0, vz, vn, nq, tys, cellD, wideIR, sliceWR, makeWR, appendWR, copyR, conv3R, wideT, isArrN, if_true, if_false, implies_true, forall_const, ne_eq, reduceIte, reduceCtorEq, Nat.reduceEqDiff, Nat.reduceAdd, Nat.reduceMul, Nat.reduceLT, Nat.reduceSub, Nat.reduceLeDiff, Nat.reduceBNe, Nat.reduceBEq, Nat.reduceBeqDiff, List.range, List.range.loop, Try.ntmps7, Try.results7, retB, vb, d1, d2, c3]
    exact ⟨[], [], [], ⟨rfl, rfl⟩, ⟨rfl, rfl⟩, ⟨by simp, by simp⟩, by simp, rfl, rfl, ⟨_, rfl, rfl⟩, ⟨_, rfl, rfl⟩, id rfl⟩
  have d2 : decide (32768 < n) = false := decide_eq_false c2
  have c3 : (n < 1 ∨ n > 32768) = False := by simp; omega
  simp (config := {dsimp := false}) only [↓vp0, vz, vn, nq, tys, cellD, wideIR, sliceWR, makeWR, appendWR, copyR, conv3R, wideT, isArrN, if_true, if_false, implies_true, forall_const, ne_eq, reduceIte, reduceCtorEq, Nat.reduceEqDiff, Nat.reduceAdd, Nat.reduceMul, Nat.reduceLT, Nat.reduceSub, Nat.reduceLeDiff, Nat.reduceBNe, Nat.reduceBEq, Nat.reduceBeqDiff, List.range, List.range.loop, Try.ntmps7, Try.results7, retB, vb, d1, d2, c3, secs_replicate]
  refine ⟨by omega, by omega, [52, 44], [], [], ⟨rfl, rfl⟩, ⟨rfl, rfl⟩, ⟨by simp, by simp⟩, by simp, rfl, rfl, ⟨_, rfl, rfl⟩, ⟨_, rfl, ?_⟩, id rfl⟩
  simp only [List.map_cons, List.map_nil, fin_secs]
  rfl
theorem ones_step (n i : Nat) (h : i < n) : (List.replicate i (1 : Int) ++ List.replicate (n - i) 0).set i 1 = List.replicate (i + 1) 1 ++ List.replicate (n - (i + 1)) 0 := by
  rw [List.set_append_right _ _ (by simp), List.length_replicate, Nat.sub_self, show n - i = (n - (i + 1)) + 1 by omega, List.replicate_succ, List.set_cons_zero, List.replicate_succ', List.append_assoc]
  rfl
theorem c_ones : Contract E 19 := by
  refine contract_boxT hE hgl (show E.P.funcs[19]? = some Try.f19 from Try.func19) rfl (p := sp_ones) (fun _ _ _ => rfl) ?_
  intro args ds tv hv hdl htl
  unfold sp_ones at hv ⊢
  split at hv
  case h_2 => exact hv.elim
  rename_i n
  refine ⟨by simp, Nat.le_of_ble_eq_true rfl, ?_⟩
  obtain ⟨n, rfl⟩ : ∃ k : Nat, n = (k : Int) := ⟨n.toNat, by have := hv.1; omega⟩
  have hn := hv.2
  simp (config := {dsimp := false}) only [↓vp0, vz, vn, nq, tys, cellD, wideIR, sliceWR, makeWR, appendWR, copyR, conv3R, wideT, isArrN, if_true, if_false, implies_true, forall_const, ne_eq, reduceIte, reduceCtorEq, Nat.reduceEqDiff, Nat.reduceAdd, Nat.reduceMul, Nat.reduceLT, Nat.reduceSub, Nat.reduceLeDiff, Nat.reduceBNe, Nat.reduceBEq, Nat.reduceBeqDiff, List.range, List.range.loop, Try.ntmps19, Try.results19, retB, vb, Int.toNat_natCast]
  refine ⟨by omega, by omega, ?_⟩
  refine loopI (Fin (n + 1)) (fun k => [(4, .int .i64 (k.1 : Nat)), (3, .bsl 16 0 n 0 (n : Nat)), (0, .int .i64 (n : Nat))]) (fun k => ⟨[(16, .arr .u8 n (List.replicate k.1 1 ++ List.replicate (n - k.1) 0))], [], 28⟩) (fun k => n - k.1) 0 (fun _ => rfl) ⟨⟨wkD_eq rfl, rfl, wkD_eq rfl, rfl, wkD_eq rfl, rfl, trivial⟩, ⟨rfl, Nat.le_of_ble_eq_true rfl, rfl, trivial⟩, trivial⟩ ?_
  rintro ⟨k, hk⟩
  simp (config := {dsimp := false}) only [↓vp0, vz, vn, nq, tys, cellD, wideIR, sliceWR, makeWR, appendWR, copyR, conv3R, wideT, isArrN, if_true, if_false, implies_true, forall_const, ne_eq, reduceIte, reduceCtorEq, Nat.reduceEqDiff, Nat.reduceAdd, Nat.reduceMul, Nat.reduceLT, Nat.reduceSub, Nat.reduceLeDiff, Nat.reduceBNe, Nat.reduceBEq, Nat.reduceBeqDiff, List.range, List.range.loop, Try.ntmps19, Try.results19, vb]
  refine ⟨fun h => ?_, fun h => ?_⟩
  · have h := of_decide_eq_true h
    have e1 := ones_step n k (by omega)
    refine ⟨by omega, by omega, ⟨k + 1, by omega⟩, ⟨⟨wkD_eq ?_, rfl, wkD_eq rfl, rfl, wkD_eq rfl, rfl, trivial⟩, ⟨?_, Nat.le_of_ble_eq_true rfl, rfl, trivial⟩, trivial⟩, by (try simp only); omega⟩
    · exact some_i64 (by (try simp only); omega)
    · exact some_arr (by rw [show ((0 : Int) + ((k : Nat) : Int)).toNat = k by omega, e1])
  · have h := of_decide_eq_false h
    obtain rfl : k = n := by omega
    simp (config := {dsimp := false}) only [↓vp0, vz, vn, nq, tys, cellD, wideIR, sliceWR, makeWR, appendWR, copyR, conv3R, wideT, isArrN, if_true, if_false, implies_true, forall_const, ne_eq, reduceIte, reduceCtorEq, Nat.reduceEqDiff, Nat.reduceAdd, Nat.reduceMul, Nat.reduceLT, Nat.reduceSub, Nat.reduceLeDiff, Nat.reduceBNe, Nat.reduceBEq, Nat.reduceBeqDiff, List.range, List.range.loop, Try.ntmps19, Try.results19, retB, vb, Int.toNat_natCast]
    refine ⟨[], [], [16, 16], ⟨rfl, rfl⟩, ⟨rfl, rfl⟩, ⟨by simp, by simp⟩, fun i hi => by simp at hi; subst hi; exact ⟨by decide, by simp, rfl⟩, rfl, rfl, ⟨_, rfl, rfl⟩, ⟨_, rfl, rfl⟩, ?_⟩
    change finD _ 0 0 [] [] [16, 16] (.bsl 16 0 _ 0 _) = _
    unfold finD
    have e : D.frz ⟨[(16, D.arr .u8 k (List.replicate k 1 ++ List.replicate (k - k) 0))], [], 48⟩ [16, 16] (.bsl 16 0 k 0 (k : Nat)) = .sli .full .u8 (List.replicate k 1) := by
      simp [D.frz, S.box, look]
    rw [e]
    rfl
theorem c_dClone : Contract E 24 := by
  refine contract_boxT hE hgl (show E.P.funcs[24]? = some Try.f24 from Try.func24) rfl (p := sp_dClone) (fun _ _ _ => rfl) ?_
  intro args ds tv hv hdl htl
  unfold sp_dClone at hv ⊢
  split at hv
  case h_3 => exact hv.elim
  · rename_i n m ps
    refine ⟨by simp, Nat.le_of_ble_eq_true rfl, ?_⟩
    obtain ⟨l, rfl, hl, rfl, rfl, h0, h1⟩ := hv
    have ha := arrAll_secs l
    have hne : ((l.length : Nat) : Int) ≠ 0 := by omega
    simp (config := {dsimp := false}) only [↓vp0, vz, vn, nq, tys, cellD, wideIR, sliceWR, makeWR, appendWR, copyR, conv3R, wideT, isArrN, if_true, if_false, implies_true, forall_const, ne_eq, reduceIte, reduceCtorEq, Nat.reduceEqDiff, Nat.reduceAdd, Nat.reduceMul, Nat.reduceLT, Nat.reduceSub, Nat.reduceLeDiff, Nat.reduceBNe, Nat.reduceBEq, Nat.reduceBeqDiff, List.range, List.range.loop, Try.ntmps24, Try.results24, retB, vb, hs_secs, ren_secs, rens_secs, strips_secs, id_secs, ids_secs, tk_secs, tks_secs, secs_length, ha, hne]
    exact ⟨by omega, .inl trivial, [], [], [], ⟨rfl, rfl⟩, ⟨rfl, rfl⟩, ⟨by simp, by simp⟩, by simp, rfl, rfl, ⟨_, rfl, by (try simp only [List.map_cons, List.map_nil, fin_secs, fin_devK]) <;> (try rfl)⟩, ⟨_, rfl, rfl⟩, id (fin_row _ _ _ _ (by decide) l 128)⟩
  · rename_i z es
    refine ⟨by simp, Nat.le_of_ble_eq_true rfl, ?_⟩
    obtain ⟨l, rfl, hl, rfl, h0, h1⟩ := hv
    have hne : secs l ≠ [] := by intro e; have := congrArg List.length e; rw [secs_length] at this; simp at this; subst this; simp at h0
    simp (config := {dsimp := false}) only [↓vp0, vz, vn, nq, tys, cellD, wideIR, sliceWR, makeWR, appendWR, copyR, conv3R, wideT, isArrN, if_true, if_false, implies_true, forall_const, ne_eq, reduceIte, reduceCtorEq, Nat.reduceEqDiff, Nat.reduceAdd, Nat.reduceMul, Nat.reduceLT, Nat.reduceSub, Nat.reduceLeDiff, Nat.reduceBNe, Nat.reduceBEq, Nat.reduceBeqDiff, List.range, List.range.loop, Try.ntmps24, Try.results24, retB, vb, hs_secs, ren_secs, rens_secs, strips_secs, id_secs, ids_secs, tk_secs, tks_secs, secs_length, hne]
    exact ⟨by omega, .inl trivial, .inr trivial, [], [], [], ⟨rfl, rfl⟩, ⟨rfl, rfl⟩, ⟨by simp, by simp⟩, by simp, rfl, rfl, ⟨_, rfl, by (try simp only [List.map_cons, List.map_nil, fin_secs, fin_devK]) <;> (try rfl)⟩, ⟨_, rfl, rfl⟩, id (fin_row _ _ _ _ (by decide) l 128)⟩
theorem c_dCopy : Contract E 15 := by
  refine contract_boxT hE hgl (show E.P.funcs[15]? = some Try.f15 from Try.func15) rfl (p := sp_dCopy) (fun _ _ _ => rfl) ?_
  intro args ds tv hv hdl htl
  unfold sp_dCopy at hv ⊢
  split at hv
  case h_4 => exact hv.elim
  · rename_i n m off cut w k r ps
    refine ⟨by simp, Nat.le_of_ble_eq_true rfl, ?_⟩
    obtain ⟨l, rfl, hl, rfl, rfl, h0, h1⟩ := hv
    have e0 : decide (((l.length : Nat) : Int) = 0) = false := decide_eq_false (by omega)
    have hs := sec_ok l hl h0 h1
    simp (config := {dsimp := false}) only [↓vp0, vz, vn, nq, tys, cellD, wideIR, sliceWR, makeWR, appendWR, copyR, conv3R, wideT, isArrN, if_true, if_false, implies_true, forall_const, ne_eq, reduceIte, reduceCtorEq, Nat.reduceEqDiff, Nat.reduceAdd, Nat.reduceMul, Nat.reduceLT, Nat.reduceSub, Nat.reduceLeDiff, Nat.reduceBNe, Nat.reduceBEq, Nat.reduceBeqDiff, List.range, List.range.loop, Try.ntmps15, Try.results15, retB, vb, hs_secs, ren_secs, rens_secs, strips_secs, id_secs, ids_secs, tk_secs, tks_secs, secs_length, hs, e0, spec_dLen, sp_dLen, c_dLen, b_dLen, spec_dClone, sp_dClone, c_dClone, b_dClone]
    exact ⟨[36], [], [], ⟨rfl, rfl⟩, ⟨rfl, rfl⟩, ⟨by simp, by simp⟩, by simp, rfl, rfl, ⟨_, rfl, by (try simp only [List.map_cons, List.map_nil, fin_secs, fin_devK]) <;> (try rfl)⟩, ⟨_, rfl, by simp only [List.map_cons, List.map_nil, fin_devK]⟩, id rfl⟩
  · rename_i z es off cut w k r
    refine ⟨by simp, Nat.le_of_ble_eq_true rfl, ?_⟩
    obtain ⟨l, rfl, hl, rfl, h0, h1⟩ := hv
    have e0 : decide (((l.length : Nat) : Int) = 0) = false := decide_eq_false (by omega)
    have hs := secK_ok l hl h0 h1
    simp (config := {dsimp := false}) only [↓vp0, vz, vn, nq, tys, cellD, wideIR, sliceWR, makeWR, appendWR, copyR, conv3R, wideT, isArrN, if_true, if_false, implies_true, forall_const, ne_eq, reduceIte, reduceCtorEq, Nat.reduceEqDiff, Nat.reduceAdd, Nat.reduceMul, Nat.reduceLT, Nat.reduceSub, Nat.reduceLeDiff, Nat.reduceBNe, Nat.reduceBEq, Nat.reduceBeqDiff, List.range, List.range.loop, Try.ntmps15, Try.results15, retB, vb, hs_secs, ren_secs, rens_secs, strips_secs, id_secs, ids_secs, tk_secs, tks_secs, secs_length, hs, e0, spec_dLen, sp_dLen, c_dLen, b_dLen, spec_dClone, sp_dClone, c_dClone, b_dClone]
    exact ⟨[36], [], [], ⟨rfl, rfl⟩, ⟨rfl, rfl⟩, ⟨by simp, by simp⟩, by simp, rfl, rfl, ⟨_, rfl, by (try simp only [List.map_cons, List.map_nil, fin_secs, fin_devK]) <;> (try rfl)⟩, ⟨_, rfl, by simp only [List.map_cons, List.map_nil, fin_devK]⟩, id rfl⟩
  · refine ⟨by simp, Nat.le_of_ble_eq_true rfl, ?_⟩
    simp (config := {dsimp := false}) only [↓vp0, vz, vn, nq, tys, cellD, wideIR, sliceWR, makeWR, appendWR, copyR, conv3R, wideT, isArrN, if_true, if_false, implies_true, forall_const, ne_eq, reduceIte, reduceCtorEq, Nat.reduceEqDiff, Nat.reduceAdd, Nat.reduceMul, Nat.reduceLT, Nat.reduceSub, Nat.reduceLeDiff, Nat.reduceBNe, Nat.reduceBEq, Nat.reduceBeqDiff, List.range, List.range.loop, Try.ntmps15, Try.results15, retB, vb, decide_true, spec_dLen, sp_dLen, c_dLen, b_dLen]
    exact ⟨[], [], [], ⟨rfl, rfl⟩, ⟨rfl, rfl⟩, ⟨by simp, by simp⟩, by simp, rfl, rfl, ⟨_, rfl, rfl⟩, ⟨_, rfl, rfl⟩, id rfl⟩
end Go.Vi.DV
end

section
set_option linter.unusedVariables false
set_option linter.unusedSimpArgs false
namespace Go.Proofs
open Go.RowKit Go.Shelf
attribute [local go_sem] Oper.semAt_some

set_option maxRecDepth 100000 in
set_option maxHeartbeats 2000000 in
theorem Try.chunk1_in (F : Fence) (n : Nat) (h60 : F.fn 34) (hro : F.round = none) (hn : 1 ≤ n) (l B0 B1 o1 B2 o2 b off len cap : Nat) (Kp : World → World → Prop) (hlen : len ≤ cap) (hb : len < 1000000000) (J Jx : List Nat → World → Prop)
    (hK1 : ∀ A B, Kp A B → B.cell? ⟨B1, o1, none⟩ = A.cell? ⟨B1, o1, none⟩) (hK2 : ∀ A B, Kp A B → B.cell? ⟨B2, o2, none⟩ = A.cell? ⟨B2, o2, none⟩)
    (hJ : AbidesFrom B0 J)
    (hY : ∀ pre i W, J pre W → pre.length = i → 128 * i < len → YieldAt F (n - 1) Try.prog l #[.slice (some ⟨b, off + 128 * i, none⟩) (min 128 (len - 128 * i)) (min 128 (len - 128 * i))] W fun e W' =>
      (e = .returned (.bool true) ∧ J (pre ++ [i]) W' ∧ Kp W W') ∨ (e = .returned (.bool false) ∧ Jx (pre ++ [i]) W'))
    (W : World) (h1 : W.cell? ⟨B1, o1, none⟩ = some (.slice (some ⟨b, off, none⟩) len cap)) (h2 : W.cell? ⟨B2, o2, none⟩ = some (.int .i64 128)) (h0 : J [] W) :
    CallsIn F n Try.prog 34 #[.func (.yield l) #[] #[], .pointer (some ⟨B1, o1, none⟩), .pointer (some ⟨B2, o2, none⟩)] W fun e W' => (∃ v, e = .returned v) ∧
      ((∃ k, (len ≤ 128 * k ∧ 128 * k < len + 128) ∧ J (List.range k) W') ∨ (∃ k, 128 * k < len ∧ Jx (List.range k ++ [k]) W')) := by
  refine callsIn_of_wp Try.func34 rfl h60 ?_ hro
  simp only [Try.ntmps34, List.size_toArray, List.length_cons, List.length_nil, Nat.reduceAdd, Nat.reduceSub, Array.replicate_succ, Array.replicate_zero, List.push_toArray, List.append_toArray, List.nil_append, List.cons_append]
  gi_wp2
  gi_loopw [4] (fun i wr => ∃ k : Nat, 128 * k < len + 128 ∧ i = .int .i64 (128 * k : Int) ∧ J (List.range k) wr ∧ wr.cell? ⟨B1, o1, none⟩ = some (.slice (some ⟨b, off, none⟩) len cap) ∧ wr.cell? ⟨B2, o2, none⟩ = some (.int .i64 128))
    (fun i _ => len + 128 - (intOf i).toNat)
  case atStart => exact ⟨0, by omega, rfl, h0, h1, h2⟩
  case round =>
    obtain ⟨k, hk, rfl, hJs, hc1, hc2⟩ := hrel
    by_cases hlt : 128 * k < len
    · have hD : J (List.range k) wr.drew := hJ _ _ _ none hJs ⟨rfl, rfl, rfl, Nat.le_refl _, fun _ _ _ => rfl⟩ (fun r e => by cases e)
      have hcD1 : wr.drew.cell? ⟨B1, o1, none⟩ = some (.slice (some ⟨b, off, none⟩) len cap) := hc1
      have hcD2 : wr.drew.cell? ⟨B2, o2, none⟩ = some (.int .i64 128) := hc2
      by_cases h2 : 128 * k + 128 ≤ len
      · obtain ⟨fn, tmps, assign, body, hy, hR⟩ := hY _ k wr.drew hD (by simp) hlt
        rw [show min 128 (len - 128 * k) = 128 by omega] at hy
        gi_wp2
        refine wpIn_mono (Q := fun e a w' => e = .normal ∧ (∃ u6 u7 u8 u9 u10 u11 u12 u13 u14 u15 u16 u17 u18 u19 u20 u21 u22 u23 u24 u25 u26 u27 u28 u29 u30, a = { tmps := #[Value.func (Fn.yield l) #[] #[], Value.pointer (some ⟨B1, o1, none⟩), Value.pointer (some ⟨B2, o2, none⟩), undef, Value.int IntKind.i64 (128 * (k : Int)), Value.int IntKind.i64 128, u6, u7, u8, u9, u10, u11, u12, u13, u14, u15, u16, u17, u18, u19, u20, u21, u22, u23, u24, u25, u26, u27, u28, u29, u30], defers := [] }) ∧ w' = wr.drew) ?_ ?_
        · gi_region
          all_goals rw [if_neg (by omega)]
          
          all_goals exact ⟨rfl, ⟨_, _, _, _, _, _, _, _, _, _, _, _, _, _, _, _, _, _, _, _, _, _, _, _, _, rfl⟩, rfl⟩
        rintro e a w' ⟨rfl, ⟨u6, u7, u8, u9, u10, u11, u12, u13, u14, u15, u16, u17, u18, u19, u20, u21, u22, u23, u24, u25, u26, u27, u28, u29, u30, rfl⟩, rfl⟩
        gi_wp2
        refine hR.mono ?_
        rintro e W3 (⟨rfl, hJ3, hk3⟩ | ⟨rfl, hJx3⟩)
        · have hd1 : W3.cell? ⟨B1, o1, none⟩ = some (.slice (some ⟨b, off, none⟩) len cap) := (hK1 _ _ hk3).trans hc1
          have hd2 : W3.cell? ⟨B2, o2, none⟩ = some (.int .i64 128) := (hK2 _ _ hk3).trans hc2
          gi_wp2
          go_roundw
          case rel => exact ⟨k + 1, by omega, by simp; omega, by rw [List.range_succ]; exact hJ3, hd1, hd2⟩
          case measure => simp [intOf]; omega
        · gi_wp2
          refine bodyPost_ret (results_none rfl _ _ _) rfl ?_
          exact ⟨⟨_, rfl⟩, .inr ⟨k, hlt, hJx3⟩⟩
      · obtain ⟨fn, tmps, assign, body, hy, hR⟩ := hY _ k wr.drew hD (by simp) hlt
        rw [show min 128 (len - 128 * k) = len - 128 * k by omega] at hy
        gi_wp2
        refine wpIn_mono (Q := fun e a w' => e = .normal ∧ (∃ u6 u7 u8 u9 u10 u11 u12 u13 u14 u15 u16 u17 u18 u19 u20 u21 u22 u23 u24 u25 u26 u27 u28 u29 u30, a = { tmps := #[Value.func (Fn.yield l) #[] #[], Value.pointer (some ⟨B1, o1, none⟩), Value.pointer (some ⟨B2, o2, none⟩), undef, Value.int IntKind.i64 (128 * (k : Int)), Value.int IntKind.i64 ((len - 128 * k : Nat) : Int), u6, u7, u8, u9, u10, u11, u12, u13, u14, u15, u16, u17, u18, u19, u20, u21, u22, u23, u24, u25, u26, u27, u28, u29, u30], defers := [] }) ∧ w' = wr.drew) ?_ ?_
        · gi_region
          all_goals rw [if_pos (by omega)]
          all_goals exact ⟨rfl, ⟨_, _, _, _, _, _, _, _, _, _, _, _, _, _, _, _, _, _, _, _, _, _, _, _, _, rfl⟩, rfl⟩
        rintro e a w' ⟨rfl, ⟨u6, u7, u8, u9, u10, u11, u12, u13, u14, u15, u16, u17, u18, u19, u20, u21, u22, u23, u24, u25, u26, u27, u28, u29, u30, rfl⟩, rfl⟩
        gi_wp2
        refine hR.mono ?_
        rintro e W3 (⟨rfl, hJ3, hk3⟩ | ⟨rfl, hJx3⟩)
        · have hd1 : W3.cell? ⟨B1, o1, none⟩ = some (.slice (some ⟨b, off, none⟩) len cap) := (hK1 _ _ hk3).trans hc1
          have hd2 : W3.cell? ⟨B2, o2, none⟩ = some (.int .i64 128) := (hK2 _ _ hk3).trans hc2
          gi_wp2
          go_roundw
          case rel => exact ⟨k + 1, by omega, by simp; omega, by rw [List.range_succ]; exact hJ3, hd1, hd2⟩
          case measure => simp [intOf]; omega
        · gi_wp2
          refine bodyPost_ret (results_none rfl _ _ _) rfl ?_
          exact ⟨⟨_, rfl⟩, .inr ⟨k, hlt, hJx3⟩⟩
    · gi_wp2
      go_end0
      exact ⟨⟨_, rfl⟩, .inl ⟨k, ⟨by omega, hk⟩, hJs⟩⟩
end Go.Proofs
end

section
set_option linter.unusedVariables false
namespace Go.Vi
open Go.Proofs Go.RowKit

theorem at_partC {w : World} {b off : Nat} {cs : List Value} (h : At w b off cs) (i n : Nat) : At w b (off + i) ((cs.take n).drop i) := by
  intro j v hv
  rw [List.getElem?_drop, List.getElem?_take] at hv
  split at hv
  · have := h (i + j) v hv
    rwa [← Nat.add_assoc] at this
  · cases hv

def chunkEl (es : List Int) (i : Nat) : D := .sli .full .u8 (chunkI es i)

theorem iter_chunk {E : Env} (hP : E.P = Try.prog) (es : List Int) (h0 : es ≠ []) (hb : es.length < 1000000000) : IterP E 34 [.ip (.sli .no .u8 es) 0, .ip (.int .i64 128) 0] (m := (es.length + 127) / 128) (fun i => [chunkEl es i.1]) := by
  refine ⟨by rw [hP, Try.func34]; simp, fun g w vs n hn hl hr => ?_⟩
  obtain ⟨c1, c2, rfl, ⟨B1, o1, vs1, rfl, ⟨a, c, rfl, hc, hrow, _⟩, hl1, ha1⟩, ⟨c3, c4, rfl, ⟨B2, o2, vs2, rfl, h2, hl2, ha2⟩, h4⟩⟩ := hr
  have h2 : vs2 = [.int .i64 128] := h2
  subst h2
  have h4 : c4 = [] := h4
  subst h4
  have hlen : (ints .u8 es).length = es.length := by simp [ints]
  have hpos : 0 < es.length := List.length_pos_iff.2 h0
  obtain ⟨b, off, rfl, hlb, hat⟩ := hrow (by intro e; rw [e] at hlen; simp at hlen; omega)
  have k1 : w.cell? ⟨B1, o1, none⟩ = some (.slice (some ⟨b, off, none⟩) es.length c) := ha1 0 _ rfl
  have k2 : w.cell? ⟨B2, o2, none⟩ = some (.int .i64 128) := ha2 0 _ rfl
  have hB1 : B1 < w.heap.size := by
    rcases Nat.lt_or_ge B1 w.heap.size with h | h
    · exact h
    · rw [hl B1 h] at hl1; simp at hl1
  have hB2 : B2 < w.heap.size := by
    rcases Nat.lt_or_ge B2 w.heap.size with h | h
    · exact h
    · rw [hl B2 h] at hl2; simp at hl2
  refine ⟨fun args w => (by rw [hP]; exact enters_of Try.func34 (by kernel_rfl) rfl args w), fun i => #[.slice (some ⟨b, off + 128 * i.1, none⟩) (min 128 (es.length - 128 * i.1)) (min 128 (es.length - 128 * i.1))], fun i => ?_, ?_⟩
  · have hil : 128 * i.1 < es.length := by have := i.2; omega
    have hcl := chunk_len es i.1
    refine ⟨_, [], rfl, ?_, rfl⟩
    show RepC g w (chunkEl es i.1) _
    unfold chunkEl
    have e1 := hlen
    have hlb2 : off + (ints .u8 es).length ≤ g.lim b := hlb
    have ei : ints .u8 (chunkI es i.1) = ((ints .u8 es).take (128 * i.1 + 128)).drop (128 * i.1) := by simp [ints, chunkI, List.map_take, List.map_drop]
    refine ⟨some ⟨b, off + 128 * i.1, none⟩, min 128 (es.length - 128 * i.1), by rw [hcl], by rw [hcl]; exact Nat.le_refl _, fun _ => ⟨b, _, rfl, ?_, by rw [ei]; exact at_partC hat _ _⟩, by simp only [OwnOk]; exact hcl.symm⟩
    rw [ei]
    simp only [List.length_drop, List.length_take]
    omega
  · intro l J Jx W hW hJ hJx hY hJ0
    have kW1 : W.cell? ⟨B1, o1, none⟩ = some (.slice (some ⟨b, off, none⟩) es.length c) := (hW.cell (p := ⟨B1, o1, none⟩) hB1).trans k1
    have kW2 : W.cell? ⟨B2, o2, none⟩ = some (.int .i64 128) := (hW.cell (p := ⟨B2, o2, none⟩) hB2).trans k2
    let up : List Nat → List (Fin ((es.length + 127) / 128)) := fun l => l.filterMap fun i => if h : i < (es.length + 127) / 128 then some ⟨i, h⟩ else none
    have up_snoc : ∀ l i (h : i < (es.length + 127) / 128), up (l ++ [i]) = up l ++ [⟨i, h⟩] := fun l i h => by simp [up, h]
    rw [hP] at hY ⊢
    refine (Try.chunk1_in (FR none) n trivial rfl hn l W.heap.size B1 o1 B2 o2 b off es.length c (KpOf g w) hc hb (fun l W => (∀ i ∈ l, i < (es.length + 127) / 128) ∧ J (up l) W) (fun l W => Jx (up l) W)
      (fun A B h => h B1 o1 hB1 (by simp at hl1; omega)) (fun A B h => h B2 o2 hB2 (by simp at hl2; omega))
      (fun s A B row hs hg hr => ⟨hs.1, hJ _ A B row hs.2 hg hr⟩) ?_ W kW1 kW2 ⟨by simp, hJ0⟩).mono ?_
    · rintro pre i W1 ⟨hp, hj⟩ hpi hi
      have hlt : i < (es.length + 127) / 128 := by omega
      have hul : (up pre).length = pre.length := by
        have : ∀ l : List Nat, (∀ i ∈ l, i < (es.length + 127) / 128) → (up l).length = l.length := by
          intro l
          induction l with
          | nil => intro _; rfl
          | cons x r ih =>
            intro h
            have hx := h x (List.mem_cons_self ..)
            have := ih fun i hi => h i (List.mem_cons_of_mem _ hi)
            simp only [up, List.filterMap_cons, hx, dif_pos, List.length_cons]
            exact congrArg (· + 1) this
        exact this pre hp
      have := hY (up pre) ⟨i, hlt⟩ W1 hj (by rw [hul, hpi]; exact hlt)
      obtain ⟨fn, tmps, assign, body, hy, hR⟩ := this
      refine ⟨fn, tmps, assign, body, hy, hR.mono ?_⟩
      rintro e W' (⟨rfl, h1, h2⟩ | ⟨rfl, h1⟩)
      · refine .inl ⟨rfl, ⟨fun j hj => ?_, by rw [up_snoc pre i hlt]; exact h1⟩, h2⟩
        rcases List.mem_append.1 hj with h | h
        · exact hp j h
        · simp at h; subst h; exact hlt
      · exact .inr ⟨rfl, by rw [up_snoc pre i hlt]; exact h1⟩
    · have hup : ∀ k, k ≤ (es.length + 127) / 128 → up (List.range k) = (List.finRange ((es.length + 127) / 128)).take k := by
        intro k
        induction k with
        | zero => intro _; rfl
        | succ k ih =>
          intro h
          rw [List.range_succ, up_snoc _ k (by omega), ih (by omega), List.take_add_one]
          simp [show k < (es.length + 127) / 128 by omega]
      rintro e W' ⟨hv, ⟨k, ⟨hk1, hk2⟩, _, hj⟩ | ⟨k, hk, hj⟩⟩
      · refine ⟨hv, .inl ⟨_, ?_, hj⟩⟩
        obtain rfl : k = (es.length + 127) / 128 := by omega
        rw [hup _ (Nat.le_refl _)]
        exact List.take_of_length_le (by simp)
      · refine ⟨hv, .inr ⟨_, ⟨k + 1, ?_⟩, hj⟩⟩
        rw [← List.range_succ, hup _ (by omega)]
end Go.Vi
end

section
set_option linter.unusedVariables false
namespace Go.Proofs
open Go.RowKit Go.Shelf
attribute [local go_sem] Oper.semAt_some
set_option maxHeartbeats 1000000 in
theorem Try.Chunk_in (F : Fence) (n : Nat) (h5 : F.fn 30) (hro : F.round = none) (a : Option Addr) (len cap : Nat) (w : World) :
    CallsIn F n Try.prog 30 #[.slice a len cap, .int .i64 128] w fun e w' => e = .returned (.func (.func 34) #[] #[.pointer (some ⟨w.heap.size, 0, none⟩), .pointer (some ⟨w.heap.size + 1, 0, none⟩)]) ∧ w' = (w.alloc (.cells #[.slice a len cap] 29)).alloc (.cells #[.int .i64 128] 3) := by
  refine callsIn_of_wp Try.func30 rfl h5 ?_ hro
  simp only [Try.ntmps30, List.size_toArray, List.length_cons, List.length_nil, Nat.reduceAdd, Nat.reduceSub, Array.replicate_succ, Array.replicate_zero, List.push_toArray, List.append_toArray, List.nil_append, List.cons_append]
  gi_wp2
  go_ret
  exact ⟨rfl, rfl⟩
end Go.Proofs
namespace Go.Vi.DV
open Go.Proofs Go.RowKit
theorem c_chunk : Contract E 30 := by
  refine contract_callsT (p := sp_chunkB 34) (fun args s nm => spec_chunk args s nm) ?_
  · intro xs hv g w vs hl0 hr
    unfold sp_chunkB at hv ⊢
    split at hv
    case h_2 => exact hv.elim
    rename_i es
    obtain ⟨v1, r1, rfl, ⟨a, c, e1, hc, hrow, _⟩, v2, r2, rfl, e2, e3⟩ := hr
    have e2 : [v2] = [.int .i64 128] := e2
    have e3 : r2 = [] := e3
    simp only [List.cons.injEq, and_true] at e1 e2
    subst e1 e2 e3
    refine (callsIn_wide (n := 0)).1 ((Try.Chunk_in Fence.wide 0 trivial rfl a es.length c w).mono ?_)
    rintro e w' ⟨rfl, rfl⟩
    have hb : Below w.heap.size w ((w.alloc (.cells #[.slice a es.length c] 29)).alloc (.cells #[.int .i64 128] 3)) := ((Below.refl _ w).alloc (Nat.le_refl _) _).alloc (by simp) _
    refine ⟨_, rfl, ?_, hb⟩
    have hx : Ext g w (g.newer w ((w.alloc (.cells #[.slice a es.length c] 29)).alloc (.cells #[.int .i64 128] 3))) _ := Gh.newer_ext hl0 hb
    have c1 : ((w.alloc (.cells #[.slice a es.length c] 29)).alloc (.cells #[.int .i64 128] 3)).heap[w.heap.size]? = some (.cells #[.slice a es.length c] 29) := by
      rw [Below.heap_alloc _ _ _ (by simp)]; exact World.alloc_heap_new w _
    have c2 : ((w.alloc (.cells #[.slice a es.length c] 29)).alloc (.cells #[.int .i64 128] 3)).heap[w.heap.size + 1]? = some (.cells #[.int .i64 128] 3) := by
      have := World.alloc_heap_new (w.alloc (.cells #[.slice a es.length c] 29)) (.cells #[.int .i64 128] 3)
      rwa [World.size_alloc] at this
    generalize ((w.alloc (.cells #[.slice a es.length c] 29)).alloc (.cells #[.int .i64 128] 3)) = w' at hx c1 c2
    refine ⟨[.pointer (some ⟨w.heap.size, 0, none⟩), .pointer (some ⟨w.heap.size + 1, 0, none⟩)], rfl, [.pointer (some ⟨w.heap.size, 0, none⟩)], [.pointer (some ⟨w.heap.size + 1, 0, none⟩)], rfl,
      ⟨w.heap.size, 0, [.slice a es.length c], rfl, ⟨a, c, rfl, hc, Row.ext (g := g.bare) (g' := (g.newer w w').bare) hx.bare hrow, trivial⟩, ?_, ?_⟩,
      [.pointer (some ⟨w.heap.size + 1, 0, none⟩)], [], rfl, ⟨w.heap.size + 1, 0, [.int .i64 128], rfl, rfl, ?_, ?_⟩, rfl⟩
    · simp [Gh.newer, rowSize, c1]
    · intro i v hv
      cases i with
      | zero => simp at hv; subst hv; simp [World.cell?, c1]
      | succ i => simp at hv
    · simp [Gh.newer, rowSize, c2, show ¬ (w.heap.size + 1 < w.heap.size) by omega]
    · intro i v hv
      cases i with
      | zero => simp at hv; subst hv; simp [World.cell?, c2]
      | succ i => simp at hv
end Go.Vi.DV
end

section
set_option linter.unusedVariables false
set_option linter.unusedSimpArgs false
set_option maxHeartbeats 0
set_option maxRecDepth 20000
namespace Go.Vi.DV
open Go.Proofs

theorem c_dPut : Contract E 23 := by
  refine contract_boxT hE hgl (show E.P.funcs[23]? = some Try.f23 from Try.func23) rfl (p := sp_dPut) (fun _ _ _ => rfl) ?_
  intro args ds tv hv hdl htl
  unfold sp_dPut at hv ⊢
  split at hv
  case h_2 => exact hv.elim
  rename_i a b most n m off cut w k r ps
  refine ⟨by simp, Nat.le_of_ble_eq_true rfl, ?_⟩
  obtain ⟨⟨l, rfl, hl, rfl, rfl, h0, h1⟩, ha, hm, hn, hsum, hb0, hbl⟩ := hv
  obtain ⟨a, rfl⟩ : ∃ x : Nat, a = (x : Int) := ⟨a.toNat, by omega⟩
  obtain ⟨q, rfl⟩ : ∃ x : Nat, most = (x : Int) := ⟨most.toNat, by omega⟩
  have hq : q ≤ needI b := by omega
  have hal : a + q ≤ l.length := by omega
  simp (config := {dsimp := false}) only [↓vp0, vz, vn, nq, tys, cellD, wideIR, sliceWR, makeWR, appendWR, copyR, conv3R, wideT, isArrN, if_true, if_false, implies_true, forall_const, ne_eq, reduceIte, reduceCtorEq, Nat.reduceEqDiff, Nat.reduceAdd, Nat.reduceMul, Nat.reduceLT, Nat.reduceSub, Nat.reduceLeDiff, Nat.reduceBNe, Nat.reduceBEq, Nat.reduceBeqDiff, List.range, List.range.loop, Try.ntmps23, Try.results23, retB, vb, hs_secs, ren_secs, rens_secs, strips_secs, id_secs, ids_secs, tk_secs, tks_secs, secs_length, PF.toR, gives, Int.toNat_natCast, spec_chunk, sp_chunkB, c_chunk, b_chunk]
  refine rangeO [(11, .fn 34 [.ip (.sli .no .u8 b) 0, .ip (.int .i64 128) 0]), (4, .bp 8 0), (5, .bp 12 0), (7, .bp 16 0)]
    (fun pre => ⟨[(0, .agg [.bsl 1 0 l.length 0 (l.length : Nat), .bool off, .bool cut, .int .i64 w, .int .i64 k, .int .i64 r]), (1, .agg (secs (putL l a b (pre.take q)))), (8, .bp 0 0), (12, .int .i64 ((a + (pre.take q).length : Nat) : Int)), (16, .int .i64 ((q - (pre.take q).length : Nat) : Int))], [], 28⟩)
    [(8, .tmp 12)] (iter_chunk rfl b hb0 hbl) rfl (fun _ => rfl) ⟨rfl, by kernel_rfl, by kernel_rfl, by kernel_rfl⟩ (fun _ => rfl) ⟨⟨wkD_eq rfl, rfl, wkD_eq rfl, rfl, wkD_eq rfl, rfl, wkD_eq rfl, rfl, trivial⟩, ⟨rfl, Nat.le_of_ble_eq_true rfl, rfl, ?_, Nat.le_of_ble_eq_true rfl, under_sec _ _, rfl, Nat.le_of_ble_eq_true rfl, rfl, ?_, Nat.le_of_ble_eq_true rfl, rfl, ?_, Nat.le_of_ble_eq_true rfl, rfl, trivial⟩, trivial⟩ ?_ ?_
  iterate 3 (· rw [List.take_nil]; rfl)
  · rintro pre i hpre
    by_cases hp : pre.length < q
    · have e1 : pre.take q = pre := List.take_of_length_le (by omega)
      have e2 : (pre ++ [i]).take q = pre ++ [i] := List.take_of_length_le (by simp; omega)
      simp (config := {dsimp := false}) only [e1, e2, putL_snoc]
      generalize hL : putL l a b pre = L
      have hLl : L.length = l.length := by rw [← hL]; exact putL_len ..
      have d1 : decide (((q - pre.length : Nat) : Int) = 0) = false := decide_eq_false (by omega)
      have hc := chunk_len b i.1
      have hil : 128 * i.1 < b.length := by have := i.2; omega
      have hset : puts .arr 128 (.arr .u8 128 (padS (chunkI b i.1))) (secs L) (128 * (a + pre.length)) = some (secs (L.set (a + pre.length) (padS (chunkI b i.1)))) := puts_secs _ L _ (by omega)
      generalize hC : chunkI b i.1 = C at *
      simp (config := {dsimp := false}) only [↓vp0, vz, vn, nq, tys, cellD, wideIR, sliceWR, makeWR, appendWR, copyR, conv3R, wideT, isArrN, if_true, if_false, implies_true, forall_const, ne_eq, reduceIte, reduceCtorEq, Nat.reduceEqDiff, Nat.reduceAdd, Nat.reduceMul, Nat.reduceLT, Nat.reduceSub, Nat.reduceLeDiff, Nat.reduceBNe, Nat.reduceBEq, Nat.reduceBeqDiff, List.range, List.range.loop, Try.ntmps23, Try.results23, d1, chunkEl, Int.toNat_natCast, hC]
      refine ⟨Int.le_refl _, by decide, by decide, by omega, by omega, ?_⟩
      rw [show List.take (Int.toNat 0) (List.replicate 128 (0 : Int)) ++ C ++ List.drop (Int.toNat 0 + C.length) (List.replicate 128 0) = padS C by rw [padS, show Int.toNat 0 = 0 from rfl, List.take_zero, List.nil_append, Nat.zero_add, List.drop_replicate]]
      refine drawI [4, 5, 7, 9, 11] (by kernel_rfl) ?_
      simp (config := {dsimp := false}) only [↓vp0, vz, vn, nq, tys, cellD, wideIR, sliceWR, makeWR, appendWR, copyR, conv3R, wideT, isArrN, if_true, if_false, implies_true, forall_const, ne_eq, reduceIte, reduceCtorEq, Nat.reduceEqDiff, Nat.reduceAdd, Nat.reduceMul, Nat.reduceLT, Nat.reduceSub, Nat.reduceLeDiff, Nat.reduceBNe, Nat.reduceBEq, Nat.reduceBeqDiff, List.range, List.range.loop, Try.ntmps23, Try.results23, vb, Int.toNat_natCast, Nat.zero_add, hset]
      refine ⟨by omega, by omega, by kernel_rfl, ⟨trivial, ⟨rfl, Nat.le_of_ble_eq_true rfl, rfl, rfl, Nat.le_of_ble_eq_true rfl, under_sec _ _, rfl, Nat.le_of_ble_eq_true rfl, rfl, ?_, Nat.le_of_ble_eq_true rfl, rfl, ?_, Nat.le_of_ble_eq_true rfl, rfl, trivial⟩, trivial⟩⟩
      · refine some_i64 ?_
        simp only [List.length_append, List.length_cons, List.length_nil]
        omega
      · refine some_i64 ?_
        simp only [List.length_append, List.length_cons, List.length_nil]
        omega
    · have e0 : (pre.take q).length = q := by rw [List.length_take]; omega
      have d1 : decide (((q - q : Nat) : Int) = 0) = true := decide_eq_true (by omega)
      have key : ∀ hk : (∃ k, pre ++ [i] = List.take k (List.finRange ((b.length + 127) / 128))), putL l a b (pre.take q) = putN l a b q := by
        rintro ⟨k, hk⟩
        have h2 := congrArg (List.take q) hk
        rw [List.take_append_of_le_length (by omega), List.take_take] at h2
        have h3 := congrArg List.length h2
        rw [e0, List.length_take, List.length_finRange] at h3
        rw [h2, show min q k = q by omega]
        exact putL_range l a b q hq
      generalize hL : putL l a b (pre.take q) = L at key
      simp (config := {dsimp := false}) only [↓vp0, vz, vn, nq, tys, cellD, wideIR, sliceWR, makeWR, appendWR, copyR, conv3R, wideT, isArrN, if_true, if_false, implies_true, forall_const, ne_eq, reduceIte, reduceCtorEq, Nat.reduceEqDiff, Nat.reduceAdd, Nat.reduceMul, Nat.reduceLT, Nat.reduceSub, Nat.reduceLeDiff, Nat.reduceBNe, Nat.reduceBEq, Nat.reduceBeqDiff, List.range, List.range.loop, Try.ntmps23, Try.results23, e0, hL, d1, chunkEl, Int.toNat_natCast]
      refine ⟨⟨[(0, .agg [.bsl 1 0 l.length 0 (l.length : Nat), .bool off, .bool cut, .int .i64 w, .int .i64 k, .int .i64 r]), (1, .agg (secs L))], [], 28⟩, rfl, ⟨trivial, ⟨rfl, Nat.le_of_ble_eq_true rfl, rfl, rfl, Nat.le_of_ble_eq_true rfl, under_sec _ _, trivial⟩, trivial⟩, fun hk => ?_⟩
      have hk := key hk
      subst hk
      simp (config := {dsimp := false}) only [↓vp0, vz, vn, nq, tys, cellD, wideIR, sliceWR, makeWR, appendWR, copyR, conv3R, wideT, isArrN, if_true, if_false, implies_true, forall_const, ne_eq, reduceIte, reduceCtorEq, Nat.reduceEqDiff, Nat.reduceAdd, Nat.reduceMul, Nat.reduceLT, Nat.reduceSub, Nat.reduceLeDiff, Nat.reduceBNe, Nat.reduceBEq, Nat.reduceBeqDiff, List.range, List.range.loop, Try.ntmps23, Try.results23, retB, vb, hs_secs, ren_secs, rens_secs, strips_secs, id_secs, ids_secs, tk_secs, tks_secs, secs_length, Int.toNat_natCast]
      exact ⟨[], [], [], ⟨rfl, rfl⟩, ⟨rfl, rfl⟩, ⟨by simp, by simp⟩, by simp, rfl, rfl, ⟨_, rfl, by (try simp only [List.map_cons, List.map_nil, fin_secs, fin_devK]) <;> (try rfl)⟩, ⟨_, rfl, rfl⟩, id rfl⟩
  · have e1 : putL l a b ((List.finRange ((b.length + 127) / 128)).take q) = putN l a b q := putL_range l a b q hq
    simp (config := {dsimp := false}) only [↓vp0, vz, vn, nq, tys, cellD, wideIR, sliceWR, makeWR, appendWR, copyR, conv3R, wideT, isArrN, if_true, if_false, implies_true, forall_const, ne_eq, reduceIte, reduceCtorEq, Nat.reduceEqDiff, Nat.reduceAdd, Nat.reduceMul, Nat.reduceLT, Nat.reduceSub, Nat.reduceLeDiff, Nat.reduceBNe, Nat.reduceBEq, Nat.reduceBeqDiff, List.range, List.range.loop, Try.ntmps23, Try.results23, retB, vb, hs_secs, ren_secs, rens_secs, strips_secs, id_secs, ids_secs, tk_secs, tks_secs, secs_length, Int.toNat_natCast, e1]
    exact ⟨[], [], [], ⟨rfl, rfl⟩, ⟨rfl, rfl⟩, ⟨by simp, by simp⟩, by simp, rfl, rfl, ⟨_, rfl, by (try simp only [List.map_cons, List.map_nil, fin_secs, fin_devK]) <;> (try rfl)⟩, ⟨_, rfl, rfl⟩, id rfl⟩
end Go.Vi.DV
end

section
set_option linter.unusedVariables false
set_option linter.unusedSimpArgs false
set_option maxHeartbeats 0
set_option maxRecDepth 20000
namespace Go.Vi.DV
open Go.Proofs

theorem may_zero {m a many : Int} {off : Bool} (h : mayI m a many off = 0) : m ≠ 0 ∧ 1 ≤ many ∧ 0 ≤ a ∧ a ≤ m ∧ many ≤ m - a ∧ off = false := by
  unfold mayI at h
  split at h
  · cases h
  split at h
  · cases h
  split at h
  · cases h
  · rename_i h1 h2 h3
    have h4 : ¬ many < 1 := fun h => h2 (.inl h)
    have h5 : ¬ a < 0 := fun h => h2 (.inr (.inl h))
    have h6 : ¬ a > m := fun h => h2 (.inr (.inr (.inl h)))
    have h7 : ¬ many > m - a := fun h => h2 (.inr (.inr (.inr h)))
    exact ⟨h1, by omega, by omega, by omega, by omega, by simpa using h3⟩
theorem need_w {b : List Int} (h : b.length < 1000000000) : IntKind.wrap .i64 ((b.length : Nat) + 128) = (b.length : Nat) + 128 ∧ IntKind.wrap .i64 (((b.length : Nat) : Int) + 128 - 1) = (b.length : Nat) + 127 ∧ IntKind.wrap .i64 ((((b.length : Nat) : Int) + 127).tdiv 128) = (needI b : Nat) := by
  refine ⟨by rw [IntWalk.i64_in _ (by omega)], by rw [IntWalk.i64_in _ (by omega)]; omega, ?_⟩
  rw [Int.tdiv_eq_ediv_of_nonneg (by omega)]
  unfold needI
  rw [IntWalk.i64_in _ (by omega)]
  omega
theorem n128 : ((128 : Int) = 0) = False := by simp
theorem c_dWrite : Contract E 9 := by
  refine contract_boxT hE hgl (show E.P.funcs[9]? = some Try.f9 from Try.func9) rfl (p := sp_dWrite) (fun _ _ _ => rfl) ?_
  intro args ds tv hv hdl htl
  unfold sp_dWrite at hv ⊢
  split at hv
  case h_3 => exact hv.elim
  · rename_i a b n m off cut w k r ps
    refine ⟨by simp, Nat.le_of_ble_eq_true rfl, ?_⟩
    obtain ⟨⟨l, rfl, hl, rfl, rfl, h0, h1⟩, hbl, hw, hk, hr⟩ := hv
    have hs := sec_ok l hl h0 h1
    obtain ⟨w1, w2, w3⟩ := need_w hbl
    by_cases c0 : mayI (l.length : Nat) a (needI b : Nat) off = 0
    case neg =>
      have d0 : decide (mayI (l.length : Nat) a (needI b : Nat) off = 0) = false := decide_eq_false c0
      simp (config := {dsimp := false}) only [↓vp0, vz, vn, nq, tys, cellD, wideIR, sliceWR, makeWR, appendWR, copyR, conv3R, wideT, isArrN, if_true, if_false, implies_true, forall_const, ne_eq, reduceIte, reduceCtorEq, Nat.reduceEqDiff, Nat.reduceAdd, Nat.reduceMul, Nat.reduceLT, Nat.reduceSub, Nat.reduceLeDiff, Nat.reduceBNe, Nat.reduceBEq, Nat.reduceBeqDiff, List.range, List.range.loop, Try.ntmps9, Try.results9, retB, vb, hs_secs, ren_secs, rens_secs, strips_secs, id_secs, ids_secs, tk_secs, tks_secs, secs_length, hs, w1, w2, w3, n128, decide_true, decide_false, d0, c0, spec_dMay, sp_dMay, c_dMay, b_dMay]
      exact ⟨[], [], [], ⟨rfl, rfl⟩, ⟨rfl, rfl⟩, ⟨by simp, by simp⟩, by simp, rfl, rfl, ⟨_, rfl, by (try simp only [List.map_cons, List.map_nil, fin_secs, fin_devK]) <;> (try rfl)⟩, ⟨_, rfl, rfl⟩, id rfl⟩
    have d0 : decide (mayI (l.length : Nat) a (needI b : Nat) off = 0) = true := decide_eq_true c0
    obtain ⟨-, m1, m2, m3, m4, rfl⟩ := may_zero c0
    have hb0 : b ≠ [] := by rintro rfl; exact absurd m1 (by decide)
    have hr1 : IntKind.wrap .i64 (r + 1) = r + 1 := IntWalk.i64_in _ (by have := hr.1; have := hr.2; omega)
    obtain ⟨a, rfl⟩ : ∃ x : Nat, a = (x : Int) := ⟨a.toNat, by omega⟩
    obtain ⟨k, rfl⟩ : ∃ x : Nat, k = (x : Int) := ⟨k.toNat, by omega⟩
    have hmn : (if ((needI b : Nat) : Int) < ((k : Nat) : Int) then ((needI b : Nat) : Int) else ((k : Nat) : Int)) = ((min k (needI b) : Nat) : Int) := by split <;> omega
    cases cut
    · simp (config := {dsimp := false}) only [↓vp0, vz, vn, nq, tys, cellD, wideIR, sliceWR, makeWR, appendWR, copyR, conv3R, wideT, isArrN, if_true, if_false, implies_true, forall_const, ne_eq, reduceIte, reduceCtorEq, Nat.reduceEqDiff, Nat.reduceAdd, Nat.reduceMul, Nat.reduceLT, Nat.reduceSub, Nat.reduceLeDiff, Nat.reduceBNe, Nat.reduceBEq, Nat.reduceBeqDiff, List.range, List.range.loop, Try.ntmps9, Try.results9, retB, vb, hs_secs, ren_secs, rens_secs, strips_secs, id_secs, ids_secs, tk_secs, tks_secs, secs_length, hs, w1, w2, w3, n128, decide_true, decide_false, d0, c0, hr1, keptI, Int.toNat_natCast, spec_dMay, sp_dMay, c_dMay, b_dMay, spec_dPut, sp_dPut, c_dPut, b_dPut]
      exact ⟨by omega, by omega, by omega, by omega, hb0, hbl, ⟨[], [], [], ⟨rfl, rfl⟩, ⟨rfl, rfl⟩, ⟨by simp, by simp⟩, by simp, rfl, rfl, ⟨_, rfl, by (try simp only [List.map_cons, List.map_nil, fin_secs, fin_devK]) <;> (try rfl)⟩, ⟨_, rfl, rfl⟩, id rfl⟩⟩
    by_cases c1 : w = 0
    · subst c1
      simp (config := {dsimp := false}) only [↓vp0, vz, vn, nq, tys, cellD, wideIR, sliceWR, makeWR, appendWR, copyR, conv3R, wideT, isArrN, if_true, if_false, implies_true, forall_const, ne_eq, reduceIte, reduceCtorEq, Nat.reduceEqDiff, Nat.reduceAdd, Nat.reduceMul, Nat.reduceLT, Nat.reduceSub, Nat.reduceLeDiff, Nat.reduceBNe, Nat.reduceBEq, Nat.reduceBeqDiff, List.range, List.range.loop, Try.ntmps9, Try.results9, retB, vb, hs_secs, ren_secs, rens_secs, strips_secs, id_secs, ids_secs, tk_secs, tks_secs, secs_length, hs, w1, w2, w3, n128, decide_true, decide_false, d0, c0, hr1, hmn, keptI, Int.toNat_natCast, spec_dMay, sp_dMay, c_dMay, b_dMay, spec_dPut, sp_dPut, c_dPut, b_dPut]
      exact ⟨by omega, by omega, by omega, by omega, hb0, hbl, ⟨[], [], [], ⟨rfl, rfl⟩, ⟨rfl, rfl⟩, ⟨by simp, by simp⟩, by simp, rfl, rfl, ⟨_, rfl, by (try simp only [List.map_cons, List.map_nil, fin_secs, fin_devK]) <;> (try rfl)⟩, ⟨_, rfl, rfl⟩, id rfl⟩⟩
    · have d1 : decide (w = 0) = false := decide_eq_false c1
      have hw1 : IntKind.wrap .i64 (w - 1) = w - 1 := IntWalk.i64_in _ (by have := hw.1; have := hw.2; omega)
      simp (config := {dsimp := false}) only [↓vp0, vz, vn, nq, tys, cellD, wideIR, sliceWR, makeWR, appendWR, copyR, conv3R, wideT, isArrN, if_true, if_false, implies_true, forall_const, ne_eq, reduceIte, reduceCtorEq, Nat.reduceEqDiff, Nat.reduceAdd, Nat.reduceMul, Nat.reduceLT, Nat.reduceSub, Nat.reduceLeDiff, Nat.reduceBNe, Nat.reduceBEq, Nat.reduceBeqDiff, List.range, List.range.loop, Try.ntmps9, Try.results9, retB, vb, hs_secs, ren_secs, rens_secs, strips_secs, id_secs, ids_secs, tk_secs, tks_secs, secs_length, hs, w1, w2, w3, n128, decide_true, decide_false, d0, d1, c0, c1, hr1, hw1, keptI, Int.toNat_natCast, spec_dMay, sp_dMay, c_dMay, b_dMay, spec_dPut, sp_dPut, c_dPut, b_dPut]
      exact ⟨by omega, by omega, by omega, by omega, hb0, hbl, ⟨[], [], [], ⟨rfl, rfl⟩, ⟨rfl, rfl⟩, ⟨by simp, by simp⟩, by simp, rfl, rfl, ⟨_, rfl, by (try simp only [List.map_cons, List.map_nil, fin_secs, fin_devK]) <;> (try rfl)⟩, ⟨_, rfl, rfl⟩, id rfl⟩⟩
  · rename_i a b off cut w k r
    refine ⟨by simp, Nat.le_of_ble_eq_true rfl, ?_⟩
    obtain ⟨w1, w2, w3⟩ := need_w hv
    simp (config := {dsimp := false}) only [↓vp0, vz, vn, nq, tys, cellD, wideIR, sliceWR, makeWR, appendWR, copyR, conv3R, wideT, isArrN, if_true, if_false, implies_true, forall_const, ne_eq, reduceIte, reduceCtorEq, Nat.reduceEqDiff, Nat.reduceAdd, Nat.reduceMul, Nat.reduceLT, Nat.reduceSub, Nat.reduceLeDiff, Nat.reduceBNe, Nat.reduceBEq, Nat.reduceBeqDiff, List.range, List.range.loop, Try.ntmps9, Try.results9, retB, vb, hs_secs, ren_secs, rens_secs, strips_secs, id_secs, ids_secs, tk_secs, tks_secs, secs_length, w1, w2, w3, n128, decide_true, decide_false, show decide ((1 : Int) = 0) = false from rfl, spec_dMay, sp_dMay, c_dMay, b_dMay]
    exact ⟨[], [], [], ⟨rfl, rfl⟩, ⟨rfl, rfl⟩, ⟨by simp, by simp⟩, by simp, rfl, rfl, ⟨_, rfl, rfl⟩, ⟨_, rfl, rfl⟩, id rfl⟩
end Go.Vi.DV
end

section
set_option linter.unusedVariables false
set_option linter.unusedSimpArgs false
set_option maxHeartbeats 0
set_option maxRecDepth 20000
namespace Go.Vi.DV
open Go.Proofs

theorem out_step (l : L2) (a i : Nat) (h : a + i < l.length) : outS l a (i + 1) = outS l a i ++ l.getD (a + i) [] := by
  unfold outS
  rw [show a + (i + 1) = (a + i) + 1 by omega, List.take_add_one, List.drop_append_of_le_length (by rw [List.length_take]; omega), List.flatten_append]
  simp [List.getD, h]
theorem out_len {l : L2} (hl : h128 l) (a : Nat) : ∀ i, a + i ≤ l.length → (outS l a i).length = 128 * i
  | 0, _ => by simp [outS, List.drop_take]
  | i + 1, h => by
    rw [out_step l a i (by omega), List.length_append, out_len hl a i (by omega), hl _ (getD_mem (by omega))]
    omega
theorem wr_add {a b : Nat} (h : a + b ≤ 32768) : IntKind.wrap .i64 (((a : Nat) : Int) + ((b : Nat) : Int)) = ((a + b : Nat) : Int) := by rw [IntWalk.i64_in _ (by omega)]; omega
theorem c_dRead : Contract E 12 := by
  refine contract_boxT hE hgl (show E.P.funcs[12]? = some Try.f12 from Try.func12) rfl (p := sp_dRead) (fun _ _ _ => rfl) ?_
  intro args ds tv hv hdl htl
  unfold sp_dRead at hv ⊢
  split at hv
  case h_4 => exact hv.elim
  · rename_i a many n m off cut w k r ps
    refine ⟨by simp, Nat.le_of_ble_eq_true rfl, ?_⟩
    obtain ⟨l, rfl, hl, rfl, rfl, h0, h1⟩ := hv
    have hs := sec_ok l hl h0 h1
    by_cases c0 : mayI (l.length : Nat) a many off = 0
    case neg =>
      simp (config := {dsimp := false}) only [↓vp0, vz, vn, nq, tys, cellD, wideIR, sliceWR, makeWR, appendWR, copyR, conv3R, wideT, isArrN, if_true, if_false, implies_true, forall_const, ne_eq, reduceIte, reduceCtorEq, Nat.reduceEqDiff, Nat.reduceAdd, Nat.reduceMul, Nat.reduceLT, Nat.reduceSub, Nat.reduceLeDiff, Nat.reduceBNe, Nat.reduceBEq, Nat.reduceBeqDiff, List.range, List.range.loop, Try.ntmps12, Try.results12, retB, vb, hs_secs, ren_secs, rens_secs, strips_secs, id_secs, ids_secs, tk_secs, tks_secs, secs_length, hs, decide_true, decide_false, c0, readV, spec_dMay, sp_dMay, c_dMay, b_dMay]
      exact ⟨[], [], [], ⟨rfl, rfl⟩, ⟨rfl, rfl⟩, ⟨by simp, by simp⟩, by simp, rfl, rfl, ⟨_, rfl, by (try simp only [List.map_cons, List.map_nil, fin_secs, fin_devK]) <;> (try rfl)⟩, ⟨_, rfl, rfl⟩, id rfl⟩
    obtain ⟨-, m1, m2, m3, m4, rfl⟩ := may_zero c0
    obtain ⟨a, rfl⟩ : ∃ x : Nat, a = (x : Int) := ⟨a.toNat, by omega⟩
    obtain ⟨q, rfl⟩ : ∃ x : Nat, many = (x : Int) := ⟨many.toNat, by omega⟩
    have w1 := wr_add (a := a) (b := q) (by omega)
    have e2 : ((a + q : Nat) : Int) - ((a : Nat) : Int) = ((q : Nat) : Int) := by omega
    simp (config := {dsimp := false}) only [↓vp0, vz, vn, nq, tys, cellD, wideIR, sliceWR, makeWR, appendWR, copyR, conv3R, wideT, isArrN, if_true, if_false, implies_true, forall_const, ne_eq, reduceIte, reduceCtorEq, Nat.reduceEqDiff, Nat.reduceAdd, Nat.reduceMul, Nat.reduceLT, Nat.reduceSub, Nat.reduceLeDiff, Nat.reduceBNe, Nat.reduceBEq, Nat.reduceBeqDiff, List.range, List.range.loop, Try.ntmps12, Try.results12, retB, vb, hs_secs, ren_secs, rens_secs, strips_secs, id_secs, ids_secs, tk_secs, tks_secs, secs_length, hs, decide_true, decide_false, c0, readV, w1, e2, Int.toNat_natCast, spec_dMay, sp_dMay, c_dMay, b_dMay]
    refine ⟨by omega, by omega, by omega, ?_⟩
    refine loopA [(6, some .u8, 0)] ?_
    simp (config := {dsimp := false}) only [↓vp0, vz, vn, nq, tys, cellD, wideIR, sliceWR, makeWR, appendWR, copyR, conv3R, wideT, isArrN, if_true, if_false, implies_true, forall_const, ne_eq, reduceIte, reduceCtorEq, Nat.reduceEqDiff, Nat.reduceAdd, Nat.reduceMul, Nat.reduceLT, Nat.reduceSub, Nat.reduceLeDiff, Nat.reduceBNe, Nat.reduceBEq, Nat.reduceBeqDiff, List.range, List.range.loop, Try.ntmps12, Try.results12, adopt]
    refine ⟨Fin (q + 1), (fun i => [(6, .sli (.tok 88) .u8 (outS l a i.1)), (26, .bsl 1 (0 + 128 * a) l.length 0 (q : Nat)), (27, .int .i64 (q : Nat)), (28, .int .i64 (i.1 : Nat))]), (fun i => ⟨[(0, .agg [.bsl 1 0 l.length 0 (l.length : Nat), .bool false, .bool cut, .int .i64 w, .int .i64 k, .int .i64 r]), (1, .agg (secs l))], [(88, ((outS l a i.1).length, 1))], 92⟩), (fun i => q - i.1), 0, (fun _ => rfl), ⟨⟨wkD_eq ?_, rfl, wkD_eq rfl, rfl, wkD_eq rfl, rfl, wkD_eq rfl, rfl, trivial⟩, ⟨rfl, Nat.le_of_ble_eq_true rfl, rfl, rfl, Nat.le_of_ble_eq_true rfl, under_sec _ _, trivial⟩, ⟨?_, Nat.le_of_ble_eq_true rfl, trivial⟩⟩, ?_⟩
    · have : outS l a 0 = [] := List.eq_nil_of_length_eq_zero (out_len hl a 0 (by omega))
      exact some_sli this.symm
    · exact some_tok (out_len hl a 0 (by omega)).symm
    rintro ⟨i, hi⟩
    simp (config := {dsimp := false}) only [↓vp0, vz, vn, nq, tys, cellD, wideIR, sliceWR, makeWR, appendWR, copyR, conv3R, wideT, isArrN, if_true, if_false, implies_true, forall_const, ne_eq, reduceIte, reduceCtorEq, Nat.reduceEqDiff, Nat.reduceAdd, Nat.reduceMul, Nat.reduceLT, Nat.reduceSub, Nat.reduceLeDiff, Nat.reduceBNe, Nat.reduceBEq, Nat.reduceBeqDiff, List.range, List.range.loop, Try.ntmps12, Try.results12]
    refine ⟨fun h => ?_, fun h => ?_⟩
    · have h := of_decide_eq_true h
      have hsub : subs .arr 128 (secs l) (0 + 128 * a + 128 * i) = some (.arr .u8 128 (l.getD (a + i) [])) := by
        rw [show 0 + 128 * a + 128 * i = 128 * (a + i) by omega]
        exact subs_secs l (a + i) (by omega)
      have hst := out_step l a i (by omega)
      have hln := out_len hl a i (by omega)
      have hx := hl _ (getD_mem (show a + i < l.length by omega))
      generalize l.getD (a + i) [] = X at hsub hst hx
      have htk : List.take (((128 : Nat) : Int) - 0).toNat (List.drop (Int.toNat 0) X) = X := List.take_of_length_le (by rw [show Int.toNat 0 = 0 from rfl, List.drop_zero, hx]; decide)
      simp (config := {dsimp := false}) only [↓vp0, vz, vn, nq, tys, cellD, wideIR, sliceWR, makeWR, appendWR, copyR, conv3R, wideT, isArrN, if_true, if_false, implies_true, forall_const, ne_eq, reduceIte, reduceCtorEq, Nat.reduceEqDiff, Nat.reduceAdd, Nat.reduceMul, Nat.reduceLT, Nat.reduceSub, Nat.reduceLeDiff, Nat.reduceBNe, Nat.reduceBEq, Nat.reduceBeqDiff, List.range, List.range.loop, Try.ntmps12, Try.results12, Int.toNat_natCast, hsub, htk]
      refine ⟨by omega, by omega, Int.le_refl _, by decide, by decide, by rw [hln, hx]; omega, ⟨i + 1, by omega⟩, ⟨⟨wkD_eq ?_, rfl, wkD_eq rfl, rfl, wkD_eq rfl, rfl, wkD_eq ?_, rfl, trivial⟩, ⟨rfl, Nat.le_of_ble_eq_true rfl, rfl, rfl, Nat.le_of_ble_eq_true rfl, under_sec _ _, trivial⟩, ⟨?_, Nat.le_of_ble_eq_true rfl, trivial⟩⟩, by (try simp only); omega⟩
      · exact some_sli hst.symm
      · exact some_i64 (by (try simp only); omega)
      · exact some_tok (by rw [hst, List.length_append])
    · have h := of_decide_eq_false h
      obtain rfl : i = q := by omega
      have hrv : readV l (a : Nat) (i : Nat) false = .tup [.sli .no .u8 (outS l a i), .int .i64 0] := by
        unfold readV
        rw [if_neg (fun h => h c0)]
        rfl
      simp (config := {dsimp := false}) only [↓vp0, vz, vn, nq, tys, cellD, wideIR, sliceWR, makeWR, appendWR, copyR, conv3R, wideT, isArrN, if_true, if_false, implies_true, forall_const, ne_eq, reduceIte, reduceCtorEq, Nat.reduceEqDiff, Nat.reduceAdd, Nat.reduceMul, Nat.reduceLT, Nat.reduceSub, Nat.reduceLeDiff, Nat.reduceBNe, Nat.reduceBEq, Nat.reduceBeqDiff, List.range, List.range.loop, Try.ntmps12, Try.results12, retB, vb, hs_secs, ren_secs, rens_secs, strips_secs, id_secs, ids_secs, tk_secs, tks_secs, secs_length, Int.toNat_natCast, hrv]
      exact ⟨[], [], [], ⟨rfl, rfl⟩, ⟨rfl, rfl⟩, ⟨by simp, by simp⟩, by simp, rfl, rfl, ⟨_, rfl, by (try simp only [List.map_cons, List.map_nil, fin_secs, fin_devK]) <;> (try rfl)⟩, ⟨_, rfl, rfl⟩, id rfl⟩
  · rename_i a many z es off cut w k r
    refine ⟨by simp, Nat.le_of_ble_eq_true rfl, ?_⟩
    obtain ⟨l, rfl, hl, rfl, h0, h1⟩ := hv
    have hs := secK_ok l hl h0 h1
    by_cases c0 : mayI (l.length : Nat) a many off = 0
    case neg =>
      simp (config := {dsimp := false}) only [↓vp0, vz, vn, nq, tys, cellD, wideIR, sliceWR, makeWR, appendWR, copyR, conv3R, wideT, isArrN, if_true, if_false, implies_true, forall_const, ne_eq, reduceIte, reduceCtorEq, Nat.reduceEqDiff, Nat.reduceAdd, Nat.reduceMul, Nat.reduceLT, Nat.reduceSub, Nat.reduceLeDiff, Nat.reduceBNe, Nat.reduceBEq, Nat.reduceBeqDiff, List.range, List.range.loop, Try.ntmps12, Try.results12, retB, vb, hs_secs, ren_secs, rens_secs, strips_secs, id_secs, ids_secs, tk_secs, tks_secs, secs_length, hs, decide_true, decide_false, c0, readV, spec_dMay, sp_dMay, c_dMay, b_dMay]
      exact ⟨[], [], [], ⟨rfl, rfl⟩, ⟨rfl, rfl⟩, ⟨by simp, by simp⟩, by simp, rfl, rfl, ⟨_, rfl, by (try simp only [List.map_cons, List.map_nil, fin_secs, fin_devK]) <;> (try rfl)⟩, ⟨_, rfl, rfl⟩, id rfl⟩
    obtain ⟨-, m1, m2, m3, m4, rfl⟩ := may_zero c0
    obtain ⟨a, rfl⟩ : ∃ x : Nat, a = (x : Int) := ⟨a.toNat, by omega⟩
    obtain ⟨q, rfl⟩ : ∃ x : Nat, many = (x : Int) := ⟨many.toNat, by omega⟩
    have w1 := wr_add (a := a) (b := q) (by omega)
    have e2 : ((a + q : Nat) : Int) - ((a : Nat) : Int) = ((q : Nat) : Int) := by omega
    have e3 : ((secs l).take (a + q)).drop a = secs ((l.take (a + q)).drop a) := by simp [secs, List.map_take, List.map_drop]
    have e4 : ((l.take (a + q)).drop a).length = q := by simp; omega
    simp (config := {dsimp := false}) only [↓vp0, vz, vn, nq, tys, cellD, wideIR, sliceWR, makeWR, appendWR, copyR, conv3R, wideT, isArrN, if_true, if_false, implies_true, forall_const, ne_eq, reduceIte, reduceCtorEq, Nat.reduceEqDiff, Nat.reduceAdd, Nat.reduceMul, Nat.reduceLT, Nat.reduceSub, Nat.reduceLeDiff, Nat.reduceBNe, Nat.reduceBEq, Nat.reduceBeqDiff, List.range, List.range.loop, Try.ntmps12, Try.results12, retB, vb, hs_secs, ren_secs, rens_secs, strips_secs, id_secs, ids_secs, tk_secs, tks_secs, secs_length, hs, decide_true, decide_false, c0, readV, w1, e2, e3, e4, Int.toNat_natCast, spec_dMay, sp_dMay, c_dMay, b_dMay]
    refine ⟨by omega, by omega, by omega, Int.le_refl _, .inr trivial, ?_⟩
    refine loopA [(6, some .u8, 0)] ?_
    simp (config := {dsimp := false}) only [↓vp0, vz, vn, nq, tys, cellD, wideIR, sliceWR, makeWR, appendWR, copyR, conv3R, wideT, isArrN, if_true, if_false, implies_true, forall_const, ne_eq, reduceIte, reduceCtorEq, Nat.reduceEqDiff, Nat.reduceAdd, Nat.reduceMul, Nat.reduceLT, Nat.reduceSub, Nat.reduceLeDiff, Nat.reduceBNe, Nat.reduceBEq, Nat.reduceBeqDiff, List.range, List.range.loop, Try.ntmps12, Try.results12, adopt]
    refine ⟨Fin (q + 1), (fun i => [(6, .sli (.tok 88) .u8 (outS l a i.1)), (26, .sl .no 128 (secs ((l.take (a + q)).drop a))), (27, .int .i64 (q : Nat)), (28, .int .i64 (i.1 : Nat))]), (fun i => ⟨[(0, .agg [.sl .no 128 (secs l), .bool false, .bool cut, .int .i64 w, .int .i64 k, .int .i64 r])], [(88, ((outS l a i.1).length, 1))], 92⟩), (fun i => q - i.1), 0, (fun _ => rfl), ⟨⟨wkD_eq ?_, rfl, wkD_eq rfl, rfl, wkD_eq rfl, rfl, wkD_eq rfl, rfl, trivial⟩, ⟨rfl, Nat.le_of_ble_eq_true rfl, rfl, trivial⟩, ⟨?_, Nat.le_of_ble_eq_true rfl, trivial⟩⟩, ?_⟩
    · have : outS l a 0 = [] := List.eq_nil_of_length_eq_zero (out_len hl a 0 (by omega))
      exact some_sli this.symm
    · exact some_tok (out_len hl a 0 (by omega)).symm
    rintro ⟨i, hi⟩
    simp (config := {dsimp := false}) only [↓vp0, vz, vn, nq, tys, cellD, wideIR, sliceWR, makeWR, appendWR, copyR, conv3R, wideT, isArrN, if_true, if_false, implies_true, forall_const, ne_eq, reduceIte, reduceCtorEq, Nat.reduceEqDiff, Nat.reduceAdd, Nat.reduceMul, Nat.reduceLT, Nat.reduceSub, Nat.reduceLeDiff, Nat.reduceBNe, Nat.reduceBEq, Nat.reduceBeqDiff, List.range, List.range.loop, Try.ntmps12, Try.results12]
    refine ⟨fun h => ?_, fun h => ?_⟩
    · have h := of_decide_eq_true h
      have hst := out_step l a i (by omega)
      have hln := out_len hl a i (by omega)
      have hx := hl _ (getD_mem (show a + i < l.length by omega))
      have hget : (secs ((l.take (a + q)).drop a)).getD i .any = .arr .u8 128 (l.getD (a + i) []) := by
        rw [secs_getD _ i (by omega)]
        congr 1
        simp [List.getD, List.getElem?_drop, List.getElem?_take, show a + i < a + q by omega]
      generalize l.getD (a + i) [] = X at hget hst hx
      have htk : List.take (((128 : Nat) : Int) - 0).toNat (List.drop (Int.toNat 0) X) = X := List.take_of_length_le (by rw [show Int.toNat 0 = 0 from rfl, List.drop_zero, hx]; decide)
      simp (config := {dsimp := false}) only [↓vp0, vz, vn, nq, tys, cellD, wideIR, sliceWR, makeWR, appendWR, copyR, conv3R, wideT, isArrN, if_true, if_false, implies_true, forall_const, ne_eq, reduceIte, reduceCtorEq, Nat.reduceEqDiff, Nat.reduceAdd, Nat.reduceMul, Nat.reduceLT, Nat.reduceSub, Nat.reduceLeDiff, Nat.reduceBNe, Nat.reduceBEq, Nat.reduceBeqDiff, List.range, List.range.loop, Try.ntmps12, Try.results12, Int.toNat_natCast, hs_secs, ren_secs, rens_secs, strips_secs, id_secs, ids_secs, tk_secs, tks_secs, secs_length, e4, hget, htk]
      refine ⟨by omega, by omega, Int.le_refl _, by decide, by decide, by rw [hln, hx]; omega, ⟨i + 1, by omega⟩, ⟨⟨wkD_eq ?_, rfl, wkD_eq rfl, rfl, wkD_eq rfl, rfl, wkD_eq ?_, rfl, trivial⟩, ⟨rfl, Nat.le_of_ble_eq_true rfl, rfl, trivial⟩, ⟨?_, Nat.le_of_ble_eq_true rfl, trivial⟩⟩, by (try simp only); omega⟩
      · exact some_sli hst.symm
      · exact some_i64 (by (try simp only); omega)
      · exact some_tok (by rw [hst, List.length_append])
    · have h := of_decide_eq_false h
      obtain rfl : i = q := by omega
      have hrv : readV l (a : Nat) (i : Nat) false = .tup [.sli .no .u8 (outS l a i), .int .i64 0] := by
        unfold readV
        rw [if_neg (fun h => h c0)]
        rfl
      simp (config := {dsimp := false}) only [↓vp0, vz, vn, nq, tys, cellD, wideIR, sliceWR, makeWR, appendWR, copyR, conv3R, wideT, isArrN, if_true, if_false, implies_true, forall_const, ne_eq, reduceIte, reduceCtorEq, Nat.reduceEqDiff, Nat.reduceAdd, Nat.reduceMul, Nat.reduceLT, Nat.reduceSub, Nat.reduceLeDiff, Nat.reduceBNe, Nat.reduceBEq, Nat.reduceBeqDiff, List.range, List.range.loop, Try.ntmps12, Try.results12, retB, vb, hs_secs, ren_secs, rens_secs, strips_secs, id_secs, ids_secs, tk_secs, tks_secs, secs_length, Int.toNat_natCast, hrv]
      exact ⟨[], [], [], ⟨rfl, rfl⟩, ⟨rfl, rfl⟩, ⟨by simp, by simp⟩, by simp, rfl, rfl, ⟨_, rfl, by (try simp only [List.map_cons, List.map_nil, fin_secs, fin_devK]) <;> (try rfl)⟩, ⟨_, rfl, rfl⟩, id rfl⟩
  · refine ⟨by simp, Nat.le_of_ble_eq_true rfl, ?_⟩
    simp (config := {dsimp := false}) only [↓vp0, vz, vn, nq, tys, cellD, wideIR, sliceWR, makeWR, appendWR, copyR, conv3R, wideT, isArrN, if_true, if_false, implies_true, forall_const, ne_eq, reduceIte, reduceCtorEq, Nat.reduceEqDiff, Nat.reduceAdd, Nat.reduceMul, Nat.reduceLT, Nat.reduceSub, Nat.reduceLeDiff, Nat.reduceBNe, Nat.reduceBEq, Nat.reduceBeqDiff, List.range, List.range.loop, Try.ntmps12, Try.results12, retB, vb, show decide ((1 : Int) = 0) = false from rfl, spec_dMay, sp_dMay, c_dMay, b_dMay]
    exact ⟨[], [], [], ⟨rfl, rfl⟩, ⟨rfl, rfl⟩, ⟨by simp, by simp⟩, by simp, rfl, rfl, ⟨_, rfl, rfl⟩, ⟨_, rfl, rfl⟩, id rfl⟩
end Go.Vi.DV
end

section
set_option linter.unusedVariables false
set_option linter.unusedSimpArgs false
set_option maxHeartbeats 0
set_option maxRecDepth 20000
namespace Go.Vi.DV
open Go.Proofs

theorem bytes_rep (n : Nat) (x : Int) (h : 0 ≤ x ∧ x < 256) : bytes (List.replicate n x) := fun y hy => by
  rw [List.eq_of_mem_replicate hy]; exact h
theorem bytes_out {l : L2} (h : ∀ x ∈ l, bytes x) (a q : Nat) : bytes (outS l a q) := fun x hx => by
  obtain ⟨s, h1, h2⟩ := List.mem_flatten.1 hx
  exact h s (List.mem_of_mem_take (List.mem_of_mem_drop h1)) x h2
theorem c_reads : Contract E 20 := by
  refine contract_boxT hE hgl (show E.P.funcs[20]? = some Try.f20 from Try.func20) rfl (p := sp_reads) (fun _ _ _ => rfl) ?_
  intro args ds tv hv hdl htl
  unfold sp_reads at hv ⊢
  split at hv
  case h_2 => exact hv.elim
  rename_i a many f n m off cut w k r ps
  refine ⟨by simp, Nat.le_of_ble_eq_true rfl, ?_⟩
  obtain ⟨⟨l, rfl, hl, rfl, rfl, h0, h1⟩, ⟨hf0, hf1⟩, ⟨hfm, hm⟩, hby⟩ := hv
  rw [hs_secs] at hby
  have hs := sec_ok l hl h0 h1
  by_cases c0 : mayI (l.length : Nat) a many off = 0
  case neg =>
    have hrv : readV l a many off = .tup [.sl .full 0 [], .int .i64 (mayI (l.length : Nat) a many off)] := by
      unfold readV
      rw [if_pos c0]
    have d0 : decide (mayI (l.length : Nat) a many off = 0) = false := decide_eq_false c0
    simp (config := {dsimp := false}) only [↓vp0, vz, vn, nq, tys, cellD, wideIR, sliceWR, makeWR, appendWR, copyR, conv3R, wideT, isArrN, if_true, if_false, implies_true, forall_const, ne_eq, reduceIte, reduceCtorEq, Nat.reduceEqDiff, Nat.reduceAdd, Nat.reduceMul, Nat.reduceLT, Nat.reduceSub, Nat.reduceLeDiff, Nat.reduceBNe, Nat.reduceBEq, Nat.reduceBeqDiff, List.range, List.range.loop, Try.ntmps20, Try.results20, retB, vb, hs_secs, ren_secs, rens_secs, strips_secs, id_secs, ids_secs, tk_secs, tks_secs, secs_length, hs, hrv, PF.toR, spec_dRead, sp_dRead, c_dRead, b_dRead]
    refine drawX [10, 9, 2, 3, 0] [(11, [3, 4])] [] (by kernel_rfl) (wild_of rfl) ?_
    simp (config := {dsimp := false}) only [↓vp0, vz, vn, nq, tys, cellD, wideIR, sliceWR, makeWR, appendWR, copyR, conv3R, wideT, isArrN, if_true, if_false, implies_true, forall_const, ne_eq, reduceIte, reduceCtorEq, Nat.reduceEqDiff, Nat.reduceAdd, Nat.reduceMul, Nat.reduceLT, Nat.reduceSub, Nat.reduceLeDiff, Nat.reduceBNe, Nat.reduceBEq, Nat.reduceBeqDiff, List.range, List.range.loop, Try.ntmps20, Try.results20, retB, vb, ↓vy0, vx0, hs_secs, ren_secs, rens_secs, strips_secs, id_secs, ids_secs, tk_secs, tks_secs, secs_length, d0]
    exact ⟨[], [], [], ⟨rfl, rfl⟩, ⟨rfl, rfl⟩, ⟨by simp, by simp⟩, by simp, rfl, rfl, ⟨_, rfl, by (try simp only [List.map_cons, List.map_nil, fin_secs, fin_devK]) <;> (try rfl)⟩, ⟨_, rfl, rfl⟩, id rfl⟩
  have hrv : readV l a many off = .tup [.sli .no .u8 (outS l a.toNat many.toNat), .int .i64 0] := by
    unfold readV
    rw [if_neg (fun h => h c0)]
  have d0 : decide (mayI (l.length : Nat) a many off = 0) = true := decide_eq_true c0
  have hw1 : IntKind.wrap .i64 (128 * many) = 128 * many := IntWalk.i64_in _ (by omega)
  have hw2 : IntKind.wrap .i64 (128 * many - f) = 128 * many - f := IntWalk.i64_in _ (by omega)
  have hin := strN_inj (bytes_out hby a.toNat many.toNat) (bytes_app (bytes_rep f.toNat 1 (by decide)) (bytes_rep (128 * many - f).toNat 0 (by decide)))
  simp (config := {dsimp := false}) only [↓vp0, vz, vn, nq, tys, cellD, wideIR, sliceWR, makeWR, appendWR, copyR, conv3R, wideT, isArrN, if_true, if_false, implies_true, forall_const, ne_eq, reduceIte, reduceCtorEq, Nat.reduceEqDiff, Nat.reduceAdd, Nat.reduceMul, Nat.reduceLT, Nat.reduceSub, Nat.reduceLeDiff, Nat.reduceBNe, Nat.reduceBEq, Nat.reduceBeqDiff, List.range, List.range.loop, Try.ntmps20, Try.results20, retB, vb, hs_secs, ren_secs, rens_secs, strips_secs, id_secs, ids_secs, tk_secs, tks_secs, secs_length, hs, hrv, PF.toR, spec_dRead, sp_dRead, c_dRead, b_dRead]
  refine drawX [10, 9, 2, 3, 0] [(11, [3, 4])] [] (by kernel_rfl) (wild_of rfl) ?_
  simp (config := {dsimp := false}) only [↓vp0, vz, vn, nq, tys, cellD, wideIR, sliceWR, makeWR, appendWR, copyR, conv3R, wideT, isArrN, if_true, if_false, implies_true, forall_const, ne_eq, reduceIte, reduceCtorEq, Nat.reduceEqDiff, Nat.reduceAdd, Nat.reduceMul, Nat.reduceLT, Nat.reduceSub, Nat.reduceLeDiff, Nat.reduceBNe, Nat.reduceBEq, Nat.reduceBeqDiff, List.range, List.range.loop, Try.ntmps20, Try.results20, retB, vb, ↓vy0, vx0, hs_secs, ren_secs, rens_secs, strips_secs, id_secs, ids_secs, tk_secs, tks_secs, secs_length, d0, hw1, hw2, hin, List.length_append, List.length_replicate, decide_true, spec_ones, sp_ones, c_ones, b_ones]
  exact ⟨hf0, hf1, by omega, fun kk m h => by cases h; omega, by first | exact okUps_all rfl (by kernel_rfl) | exact okUps_of (by kernel_rfl) rfl, ⟨[], [], [], ⟨rfl, rfl⟩, ⟨rfl, rfl⟩, ⟨by simp, by simp⟩, by simp, rfl, rfl, ⟨_, rfl, by (try simp only [List.map_cons, List.map_nil, fin_secs, fin_devK]) <;> (try rfl)⟩, ⟨_, rfl, rfl⟩, id rfl⟩⟩
end Go.Vi.DV
end

section
set_option linter.unusedVariables false
set_option linter.unusedSimpArgs false
set_option maxHeartbeats 0
set_option maxRecDepth 20000
namespace Go.Vi.DV
open Go.Proofs

theorem n4 : ((4 : Int) < 1 ∨ (4 : Int) > 32768) = False := by simp
theorem t4 : Int.toNat 4 = 4 := rfl
theorem need200 : needI (List.replicate (Int.toNat 200) 1) = 2 := rfl
def aw1 : L2 := putN (zeroS 4) 1 (List.replicate 200 1) 2
theorem zero_bytes (n : Nat) : ∀ x ∈ zeroS n, bytes x := fun x hx => by
  rw [List.eq_of_mem_replicate hx]
  exact bytes_rep _ _ (by decide)
theorem pad_bytes {p : List Int} (h : bytes p) : bytes (padS p) := bytes_app h (bytes_rep _ _ (by decide))
theorem chunk_bytes {b : List Int} (h : bytes b) (i : Nat) : bytes (chunkI b i) := fun x hx => h x (List.mem_of_mem_take (List.mem_of_mem_drop hx))
theorem putN_bytes {l : L2} {b : List Int} (hl : ∀ x ∈ l, bytes x) (hb : bytes b) (i : Nat) : ∀ k, ∀ x ∈ putN l i b k, bytes x
  | 0 => hl
  | k + 1 => fun x hx => by
    rcases List.mem_or_eq_of_mem_set hx with h1 | h1
    · exact putN_bytes hl hb i k x h1
    · subst h1
      exact pad_bytes (chunk_bytes hb k)
theorem aw1_ok : h128 aw1 := putN_h _ _ _ (zeroS_h 4) _
theorem aw1_by : ∀ x ∈ aw1, bytes x := putN_bytes (zero_bytes 4) (bytes_rep _ _ (by decide)) _ _
theorem zero_sec : isSec (secs (zeroS 4)) 4 4 := sec_ok (zeroS 4) (zeroS_h 4) (by decide) (by decide)
theorem aw1_sec : isSec (secs aw1) 4 4 := sec_ok aw1 aw1_ok (by decide) (by decide)
theorem mA : mayI 4 1 ((2 : Nat) : Int) false = 0 := rfl
theorem mB : mayI 4 2 1 false = 0 := rfl
theorem mC : mayI 4 1 2 false = 0 := rfl
theorem mD : mayI 4 0 1 false = 0 := rfl
theorem pA : putN (zeroS 4) (Int.toNat 1) (List.replicate (Int.toNat 200) 1) (keptI false 0 0 (List.replicate (Int.toNat 200) 1)) = aw1 := rfl
theorem oB : decide (outS aw1 (Int.toNat 2) (Int.toNat 1) = List.replicate (Int.toNat 72) 1 ++ List.replicate ((128 : Int) * 1 - 72).toNat 0) = true := decide_eq_true (by kernel_rfl)
theorem oC : decide (outS aw1 (Int.toNat 1) (Int.toNat 2) = List.replicate (Int.toNat 200) 1 ++ List.replicate ((128 : Int) * 2 - 200).toNat 0) = true := decide_eq_true (by kernel_rfl)
theorem oD : decide (outS aw1 (Int.toNat 0) (Int.toNat 1) = List.replicate (Int.toNat 0) 1 ++ List.replicate ((128 : Int) * 1 - 0).toNat 0) = true := decide_eq_true (by kernel_rfl)
theorem len200 : ((List.replicate (Int.toNat 200) (1 : Int)).length < 1000000000) = True := by simp
theorem c_dawake : Contract E 6 := by
  refine contract_seeT hE hgl (show E.P.funcs[6]? = some Try.f6 from Try.func6) rfl (p := sp_dawake) (fun _ _ _ => rfl) ?_
  intro args hv
  unfold sp_dawake at hv ⊢
  split at hv
  case h_2 => exact hv.elim
  refine ⟨by simp, Nat.le_of_ble_eq_true rfl, ?_⟩
  simp (config := {dsimp := false}) only [↓vp0, vz, vn, nq, tys, cellD, wideIR, sliceWR, makeWR, appendWR, copyR, conv3R, wideT, isArrN, if_true, if_false, implies_true, forall_const, ne_eq, reduceIte, reduceCtorEq, Nat.reduceEqDiff, Nat.reduceAdd, Nat.reduceMul, Nat.reduceLT, Nat.reduceSub, Nat.reduceLeDiff, Nat.reduceBNe, Nat.reduceBEq, Nat.reduceBeqDiff, List.range, List.range.loop, Try.ntmps6, Try.results6, vb, PF.toR, gives, hs_secs, ren_secs, rens_secs, strips_secs, id_secs, ids_secs, tk_secs, tks_secs, secs_length, nil_2, nil_1, n4, t4, need200, mA, mB, mC, mD, pA, oB, oC, oD, aw1_sec, zero_sec, len200, decide_true, spec_dNew, sp_dNew, c_dNew, b_dNew, spec_dWrite, sp_dWrite, c_dWrite, b_dWrite, spec_ones, sp_ones, c_ones, b_ones, spec_reads, sp_reads, c_reads, b_reads]
  (repeat' apply And.intro) <;> first | exact aw1_by | decide
end Go.Vi.DV
end

section
set_option linter.unusedVariables false
set_option linter.unusedSimpArgs false
set_option maxHeartbeats 0
set_option maxRecDepth 20000
namespace Go.Vi.DV
open Go.Proofs

def aw2 : L2 := putN aw1 0 (List.replicate 200 1) 2
def aw3 : L2 := putN aw2 2 (List.replicate 200 1) 1
theorem aw1_len : aw1.length = 4 := putN_len _ _ _ _
theorem aw2_len : aw2.length = 4 := (putN_len _ _ _ _).trans aw1_len
theorem aw3_len : aw3.length = 4 := (putN_len _ _ _ _).trans aw2_len
theorem read_err {l : L2} {a q e : Int} {off : Bool} (h4 : l.length = 4) (h : mayI 4 a q off = e) (he : e ≠ 0) : readV l a q off = .tup [.sl .full 0 [], .int .i64 e] := by
  unfold readV
  rw [h4, show (((4 : Nat) : Int)) = 4 from rfl, h, if_pos he]
theorem k1 : readV aw1 3 2 false = .tup [.sl .full 0 [], .int .i64 2] := read_err aw1_len rfl (by decide)
theorem k2 : readV aw1 0 0 false = .tup [.sl .full 0 [], .int .i64 2] := read_err aw1_len rfl (by decide)
theorem k3 : readV aw3 0 1 true = .tup [.sl .full 0 [], .int .i64 36] := read_err aw3_len rfl (by decide)
theorem m4 : mayI 4 3 ((2 : Nat) : Int) false = 2 := rfl
theorem n0 : ((0 : Int) < 1 ∨ (0 : Int) > 32768) = True := by simp
end Go.Vi.DV
end

section
set_option linter.unusedVariables false
set_option linter.unusedSimpArgs false
set_option maxHeartbeats 0
set_option maxRecDepth 20000
namespace Go.Vi.DV
open Go.Proofs

theorem secsR_sec {N : Nat} (P : List PutR) (h0 : 1 ≤ N) (h1 : N ≤ 32768) : isSec (secs (secsR N P)) N (N : Nat) := ⟨secsR N P, rfl, secsR_h N P, (secsR_len N P).symm, by rw [secsR_len], by rw [secsR_len]; omega, by rw [secsR_len]; omega⟩
theorem secsR_secK {N : Nat} (P : List PutR) (h0 : 1 ≤ N) (h1 : N ≤ 32768) : isSecK (secs (secsR N P)) 128 := ⟨secsR N P, rfl, secsR_h N P, rfl, by rw [secsR_len]; omega, by rw [secsR_len]; omega⟩
theorem read_one {N : Nat} (P : List PutR) (i : Nat) (h0 : 1 ≤ N) (hi : i < N) : readV (secsR N P) (i : Nat) 1 false = .tup [.sli .no .u8 (secR P (i : Nat)), .int .i64 0] := by
  have c0 : mayI (N : Nat) (i : Nat) 1 false = 0 := by
    unfold mayI
    rw [if_neg (by omega), if_neg (by omega)]
    rfl
  unfold readV
  rw [secsR_len, c0, if_neg (by simp), Int.toNat_natCast, show Int.toNat 1 = 1 from rfl, outS_outR N P i 1 (by omega)]
  simp [outR]
theorem c_alike : Contract E 18 := by
  refine contract_boxT hE hgl (show E.P.funcs[18]? = some Try.f18 from Try.func18) rfl (p := sp_alike) (fun _ _ _ => rfl) ?_
  intro args ds tv hv hdl htl
  unfold sp_alike at hv ⊢
  split at hv
  case h_3 => exact hv.elim
  · rename_i n m off cut w k r d ps
    refine ⟨by simp, Nat.le_of_ble_eq_true rfl, ?_⟩
    obtain ⟨⟨n, P, g, t, w, k, r⟩, ho, rfl, hS⟩ := hv
    have hrf := isRf_box ho
    obtain ⟨hn, hP, hl, hw, hk, hr⟩ := ho
    simp only at hn hP hl hw hk hr
    obtain ⟨N, rfl⟩ : ∃ x : Nat, n = (x : Int) := ⟨n.toNat, by omega⟩
    simp only [Same, Int.toNat_natCast] at hS
    have h0 : 1 ≤ N := by omega
    have h1 : N ≤ 32768 := by omega
    obtain ⟨rfl, rfl, rfl, rfl, rfl, rfl, rfl, rfl⟩ := hS
    have hs := secsR_sec P h0 h1
    have hsK := secsR_secK P h0 h1
    simp only [rf_open] at hrf ⊢
    simp (config := {dsimp := false}) only [↓vp0, vz, vn, nq, tys, cellD, wideIR, sliceWR, makeWR, appendWR, copyR, conv3R, wideT, isArrN, if_true, if_false, implies_true, forall_const, ne_eq, reduceIte, reduceCtorEq, Nat.reduceEqDiff, Nat.reduceAdd, Nat.reduceMul, Nat.reduceLT, Nat.reduceSub, Nat.reduceLeDiff, Nat.reduceBNe, Nat.reduceBEq, Nat.reduceBeqDiff, List.range, List.range.loop, Try.ntmps18, Try.results18, retB, vb, hs_secs, ren_secs, rens_secs, strips_secs, id_secs, ids_secs, tk_secs, tks_secs, secs_length, id_rf, tk_rf, ren_rf, strips_prs, prsD_length, deRf_D, deRf_open, hrf, hs, hsK]
    refine drawX [0, 1] [(1, [2, 3, 4, 5]), (9, [10, 11, 12, 13]), (18, [19, 20, 21, 22])] [(1, [0, 2]), (9, [0, 2]), (18, [0, 2])] (by kernel_rfl) (wild_of rfl) ?_
    simp (config := {dsimp := false}) only [↓vp0, vz, vn, nq, tys, cellD, wideIR, sliceWR, makeWR, appendWR, copyR, conv3R, wideT, isArrN, if_true, if_false, implies_true, forall_const, ne_eq, reduceIte, reduceCtorEq, Nat.reduceEqDiff, Nat.reduceAdd, Nat.reduceMul, Nat.reduceLT, Nat.reduceSub, Nat.reduceLeDiff, Nat.reduceBNe, Nat.reduceBEq, Nat.reduceBeqDiff, List.range, List.range.loop, Try.ntmps18, Try.results18, retB, vb, ↓vy0, vx0, hs_secs, ren_secs, rens_secs, strips_secs, id_secs, ids_secs, tk_secs, tks_secs, secs_length, id_rf, tk_rf, ren_rf, strips_prs, prsD_length, deRf_D, deRf_open, hrf, hs, hsK, decide_true, secsR_len, spec_dOff, sp_dOff, c_dOff, b_dOff, spec_dWrites, sp_dWrites, c_dWrites, b_dWrites, spec_dLen, sp_dLen, c_dLen, b_dLen, spec_dCopy, sp_dCopy, c_dCopy, b_dCopy, spec_dRestart, sp_dRestart, c_dRestart, b_dRestart]
    refine ⟨by exact okUps_of (by kernel_rfl) rfl, by exact okUps_of (by kernel_rfl) rfl, by exact okUps_of (by kernel_rfl) rfl, ?_⟩
    refine loopI {i : Nat // i ≤ 12} (fun i => [(0, .bp 0 0), (1, .bp 1 0), (5, .bp 116 0), (6, .int .i64 (i.1 : Nat))]) (fun _ => ⟨[(0, .agg [.bsl 2 0 n 0 (n : Nat), .bool off, .bool cut, .int .i64 w, .int .i64 k, .int .i64 r]), (1, .agg [.int .i64 (n : Nat), .sl .no 3 (prsD P), .bool off, .bool cut, .int .i64 w, .int .i64 k, .int .i64 r]), (2, .agg (secs (secsR n P))), (116, .agg [.sl .no 128 (secs (secsR n P)), .bool false, .bool false, .int .i64 w, .int .i64 k, .int .i64 r])], [], 136⟩) (fun i => 12 - i.1) ⟨0, by omega⟩ (fun _ => rfl) ⟨⟨wkD_eq rfl, rfl, wkD_eq rfl, rfl, wkD_eq rfl, rfl, wkD_eq rfl, rfl, trivial⟩, ⟨rfl, Nat.le_of_ble_eq_true rfl, rfl, rfl, Nat.le_of_ble_eq_true rfl, rfl, rfl, Nat.le_of_ble_eq_true rfl, under_sec _ _, rfl, Nat.le_of_ble_eq_true rfl, rfl, trivial⟩, trivial⟩ ?_
    rintro ⟨i, hi⟩
    by_cases c1 : i < 12
    case neg =>
      have d1 : decide (((i : Nat) : Int) < 12) = false := decide_eq_false (by omega)
      simp (config := {dsimp := false}) only [↓vp0, vz, vn, nq, tys, cellD, wideIR, sliceWR, makeWR, appendWR, copyR, conv3R, wideT, isArrN, if_true, if_false, implies_true, forall_const, ne_eq, reduceIte, reduceCtorEq, Nat.reduceEqDiff, Nat.reduceAdd, Nat.reduceMul, Nat.reduceLT, Nat.reduceSub, Nat.reduceLeDiff, Nat.reduceBNe, Nat.reduceBEq, Nat.reduceBeqDiff, List.range, List.range.loop, Try.ntmps18, Try.results18, retB, vb, hs_secs, ren_secs, rens_secs, strips_secs, id_secs, ids_secs, tk_secs, tks_secs, secs_length, id_rf, tk_rf, ren_rf, strips_prs, prsD_length, deRf_D, deRf_open, d1]
      exact ⟨[], [], [], ⟨rfl, rfl⟩, ⟨rfl, rfl⟩, ⟨by simp, by simp⟩, by simp, rfl, rfl, ⟨_, rfl, by simp only [List.map_cons, List.map_nil, fin_rfX, fin_secs, fin_devK] <;> rfl⟩, ⟨_, rfl, rfl⟩, id rfl⟩
    have d1 : decide (((i : Nat) : Int) < 12) = true := decide_eq_true (by omega)
    by_cases c2 : i < n
    case neg =>
      have d2 : decide (((i : Nat) : Int) < (n : Nat)) = false := decide_eq_false (by omega)
      simp (config := {dsimp := false}) only [↓vp0, vz, vn, nq, tys, cellD, wideIR, sliceWR, makeWR, appendWR, copyR, conv3R, wideT, isArrN, if_true, if_false, implies_true, forall_const, ne_eq, reduceIte, reduceCtorEq, Nat.reduceEqDiff, Nat.reduceAdd, Nat.reduceMul, Nat.reduceLT, Nat.reduceSub, Nat.reduceLeDiff, Nat.reduceBNe, Nat.reduceBEq, Nat.reduceBeqDiff, List.range, List.range.loop, Try.ntmps18, Try.results18, retB, vb, hs_secs, ren_secs, rens_secs, strips_secs, id_secs, ids_secs, tk_secs, tks_secs, secs_length, id_rf, tk_rf, ren_rf, strips_prs, prsD_length, deRf_D, deRf_open, d1, d2]
      exact ⟨[], [], [], ⟨rfl, rfl⟩, ⟨rfl, rfl⟩, ⟨by simp, by simp⟩, by simp, rfl, rfl, ⟨_, rfl, by simp only [List.map_cons, List.map_nil, fin_rfX, fin_secs, fin_devK] <;> rfl⟩, ⟨_, rfl, rfl⟩, id rfl⟩
    have d2 : decide (((i : Nat) : Int) < (n : Nat)) = true := decide_eq_true (by omega)
    have hrv := read_one P i h0 c2
    have hs0 : (0 ≤ ((i : Nat) : Int)) = True := by simp
    have hs1 : (((i : Nat) : Int) ≤ 100000) = True := by simp; omega
    simp (config := {dsimp := false}) only [↓vp0, vz, vn, nq, tys, cellD, wideIR, sliceWR, makeWR, appendWR, copyR, conv3R, wideT, isArrN, if_true, if_false, implies_true, forall_const, ne_eq, reduceIte, reduceCtorEq, Nat.reduceEqDiff, Nat.reduceAdd, Nat.reduceMul, Nat.reduceLT, Nat.reduceSub, Nat.reduceLeDiff, Nat.reduceBNe, Nat.reduceBEq, Nat.reduceBeqDiff, List.range, List.range.loop, Try.ntmps18, Try.results18, retB, vb, hs_secs, ren_secs, rens_secs, strips_secs, id_secs, ids_secs, tk_secs, tks_secs, secs_length, id_rf, tk_rf, ren_rf, strips_prs, prsD_length, deRf_D, deRf_open, hrf, hsK, hrv, d1, d2, hs0, hs1, decide_true, spec_dRead, sp_dRead, c_dRead, b_dRead]
    refine drawX [0, 1, 5, 6, 7, 8] [(7, [3, 4])] [(7, [1])] (by kernel_rfl) (wild_of rfl) ?_
    simp (config := {dsimp := false}) only [↓vp0, vz, vn, nq, tys, cellD, wideIR, sliceWR, makeWR, appendWR, copyR, conv3R, wideT, isArrN, if_true, if_false, implies_true, forall_const, ne_eq, reduceIte, reduceCtorEq, Nat.reduceEqDiff, Nat.reduceAdd, Nat.reduceMul, Nat.reduceLT, Nat.reduceSub, Nat.reduceLeDiff, Nat.reduceBNe, Nat.reduceBEq, Nat.reduceBeqDiff, List.range, List.range.loop, Try.ntmps18, Try.results18, retB, vb, ↓vy0, vx0, hs_secs, ren_secs, rens_secs, strips_secs, id_secs, ids_secs, tk_secs, tks_secs, secs_length, id_rf, tk_rf, ren_rf, strips_prs, prsD_length, deRf_D, deRf_open, hrf, hs0, hs1, decide_true, spec_rSector, sp_rSector, c_rSector, b_rSector]
    refine ⟨by exact okUps_of (by kernel_rfl) rfl, ⟨i + 1, by omega⟩, ⟨⟨wkD_eq rfl, rfl, wkD_eq rfl, rfl, wkD_eq rfl, rfl, wkD_eq ?_, rfl, trivial⟩, ⟨rfl, Nat.le_of_ble_eq_true rfl, rfl, rfl, Nat.le_of_ble_eq_true rfl, rfl, rfl, Nat.le_of_ble_eq_true rfl, under_sec _ _, rfl, Nat.le_of_ble_eq_true rfl, rfl, trivial⟩, trivial⟩, by (try simp only); omega⟩
    exact some_i64 (by (try simp only); omega)
  · rename_i z ps off cut w k r d
    refine ⟨by simp, Nat.le_of_ble_eq_true rfl, ?_⟩
    obtain ⟨⟨⟨n, P, g, t, w, k, r⟩, ho, rfl, hS⟩, rfl⟩ := hv
    have hrf := isRf_box ho
    obtain ⟨hn, hP, hl, hw, hk, hr⟩ := ho
    simp only at hn hP hl hw hk hr
    obtain ⟨N, rfl⟩ : ∃ x : Nat, n = (x : Int) := ⟨n.toNat, by omega⟩
    simp only [Same, Int.toNat_natCast] at hS
    have h0 : 1 ≤ N := by omega
    have h1 : N ≤ 32768 := by omega
    obtain ⟨-, -, rfl, rfl, rfl, rfl, rfl, rfl⟩ := hS
    have hs := secsR_sec P h0 h1
    have hsK := secsR_secK P h0 h1
    simp only [rf_open] at hrf ⊢
    simp (config := {dsimp := false}) only [↓vp0, vz, vn, nq, tys, cellD, wideIR, sliceWR, makeWR, appendWR, copyR, conv3R, wideT, isArrN, if_true, if_false, implies_true, forall_const, ne_eq, reduceIte, reduceCtorEq, Nat.reduceEqDiff, Nat.reduceAdd, Nat.reduceMul, Nat.reduceLT, Nat.reduceSub, Nat.reduceLeDiff, Nat.reduceBNe, Nat.reduceBEq, Nat.reduceBeqDiff, List.range, List.range.loop, Try.ntmps18, Try.results18, retB, vb, hs_secs, ren_secs, rens_secs, strips_secs, id_secs, ids_secs, tk_secs, tks_secs, secs_length, id_rf, tk_rf, ren_rf, strips_prs, prsD_length, deRf_D, deRf_open, hrf, hs, hsK]
    refine drawX [0, 1] [(1, [2, 3, 4, 5]), (9, [10, 11, 12, 13]), (18, [19, 20, 21, 22])] [(1, [0]), (9, [0]), (18, [0])] (by kernel_rfl) (wild_of rfl) ?_
    simp (config := {dsimp := false}) only [↓vp0, vz, vn, nq, tys, cellD, wideIR, sliceWR, makeWR, appendWR, copyR, conv3R, wideT, isArrN, if_true, if_false, implies_true, forall_const, ne_eq, reduceIte, reduceCtorEq, Nat.reduceEqDiff, Nat.reduceAdd, Nat.reduceMul, Nat.reduceLT, Nat.reduceSub, Nat.reduceLeDiff, Nat.reduceBNe, Nat.reduceBEq, Nat.reduceBeqDiff, List.range, List.range.loop, Try.ntmps18, Try.results18, retB, vb, ↓vy0, vx0, hs_secs, ren_secs, rens_secs, strips_secs, id_secs, ids_secs, tk_secs, tks_secs, secs_length, id_rf, tk_rf, ren_rf, strips_prs, prsD_length, deRf_D, deRf_open, hrf, hs, hsK, decide_true, secsR_len, spec_dOff, sp_dOff, c_dOff, b_dOff, spec_dWrites, sp_dWrites, c_dWrites, b_dWrites, spec_dLen, sp_dLen, c_dLen, b_dLen, spec_dCopy, sp_dCopy, c_dCopy, b_dCopy, spec_dRestart, sp_dRestart, c_dRestart, b_dRestart]
    refine ⟨by exact okUps_of (by kernel_rfl) rfl, by exact okUps_of (by kernel_rfl) rfl, by exact okUps_of (by kernel_rfl) rfl, ?_⟩
    refine loopI {i : Nat // i ≤ 12} (fun i => [(0, .bp 0 0), (1, .bp 1 0), (5, .bp 116 0), (6, .int .i64 (i.1 : Nat))]) (fun _ => ⟨[(0, .agg [.sl .no 128 (secs (secsR N P)), .bool off, .bool cut, .int .i64 w, .int .i64 k, .int .i64 r]), (1, .agg [.int .i64 (N : Nat), .sl .no 3 (prsD P), .bool off, .bool cut, .int .i64 w, .int .i64 k, .int .i64 r]), (116, .agg [.sl .no 128 (secs (secsR N P)), .bool false, .bool false, .int .i64 w, .int .i64 k, .int .i64 r])], [], 136⟩) (fun i => 12 - i.1) ⟨0, by omega⟩ (fun _ => rfl) ⟨⟨wkD_eq rfl, rfl, wkD_eq rfl, rfl, wkD_eq rfl, rfl, wkD_eq rfl, rfl, trivial⟩, ⟨rfl, Nat.le_of_ble_eq_true rfl, rfl, rfl, Nat.le_of_ble_eq_true rfl, rfl, rfl, Nat.le_of_ble_eq_true rfl, rfl, trivial⟩, trivial⟩ ?_
    rintro ⟨i, hi⟩
    by_cases c1 : i < 12
    case neg =>
      have d1 : decide (((i : Nat) : Int) < 12) = false := decide_eq_false (by omega)
      simp (config := {dsimp := false}) only [↓vp0, vz, vn, nq, tys, cellD, wideIR, sliceWR, makeWR, appendWR, copyR, conv3R, wideT, isArrN, if_true, if_false, implies_true, forall_const, ne_eq, reduceIte, reduceCtorEq, Nat.reduceEqDiff, Nat.reduceAdd, Nat.reduceMul, Nat.reduceLT, Nat.reduceSub, Nat.reduceLeDiff, Nat.reduceBNe, Nat.reduceBEq, Nat.reduceBeqDiff, List.range, List.range.loop, Try.ntmps18, Try.results18, retB, vb, hs_secs, ren_secs, rens_secs, strips_secs, id_secs, ids_secs, tk_secs, tks_secs, secs_length, id_rf, tk_rf, ren_rf, strips_prs, prsD_length, deRf_D, deRf_open, d1]
      exact ⟨[], [], [], ⟨rfl, rfl⟩, ⟨rfl, rfl⟩, ⟨by simp, by simp⟩, by simp, rfl, rfl, ⟨_, rfl, by simp only [List.map_cons, List.map_nil, fin_rfX, fin_secs, fin_devK] <;> rfl⟩, ⟨_, rfl, rfl⟩, id rfl⟩
    have d1 : decide (((i : Nat) : Int) < 12) = true := decide_eq_true (by omega)
    by_cases c2 : i < N
    case neg =>
      have d2 : decide (((i : Nat) : Int) < (N : Nat)) = false := decide_eq_false (by omega)
      simp (config := {dsimp := false}) only [↓vp0, vz, vn, nq, tys, cellD, wideIR, sliceWR, makeWR, appendWR, copyR, conv3R, wideT, isArrN, if_true, if_false, implies_true, forall_const, ne_eq, reduceIte, reduceCtorEq, Nat.reduceEqDiff, Nat.reduceAdd, Nat.reduceMul, Nat.reduceLT, Nat.reduceSub, Nat.reduceLeDiff, Nat.reduceBNe, Nat.reduceBEq, Nat.reduceBeqDiff, List.range, List.range.loop, Try.ntmps18, Try.results18, retB, vb, hs_secs, ren_secs, rens_secs, strips_secs, id_secs, ids_secs, tk_secs, tks_secs, secs_length, id_rf, tk_rf, ren_rf, strips_prs, prsD_length, deRf_D, deRf_open, d1, d2]
      exact ⟨[], [], [], ⟨rfl, rfl⟩, ⟨rfl, rfl⟩, ⟨by simp, by simp⟩, by simp, rfl, rfl, ⟨_, rfl, by simp only [List.map_cons, List.map_nil, fin_rfX, fin_secs, fin_devK] <;> rfl⟩, ⟨_, rfl, rfl⟩, id rfl⟩
    have d2 : decide (((i : Nat) : Int) < (N : Nat)) = true := decide_eq_true (by omega)
    have hrv := read_one P i h0 c2
    have hs0 : (0 ≤ ((i : Nat) : Int)) = True := by simp
    have hs1 : (((i : Nat) : Int) ≤ 100000) = True := by simp; omega
    simp (config := {dsimp := false}) only [↓vp0, vz, vn, nq, tys, cellD, wideIR, sliceWR, makeWR, appendWR, copyR, conv3R, wideT, isArrN, if_true, if_false, implies_true, forall_const, ne_eq, reduceIte, reduceCtorEq, Nat.reduceEqDiff, Nat.reduceAdd, Nat.reduceMul, Nat.reduceLT, Nat.reduceSub, Nat.reduceLeDiff, Nat.reduceBNe, Nat.reduceBEq, Nat.reduceBeqDiff, List.range, List.range.loop, Try.ntmps18, Try.results18, retB, vb, hs_secs, ren_secs, rens_secs, strips_secs, id_secs, ids_secs, tk_secs, tks_secs, secs_length, id_rf, tk_rf, ren_rf, strips_prs, prsD_length, deRf_D, deRf_open, hrf, hsK, hrv, d1, d2, hs0, hs1, decide_true, spec_dRead, sp_dRead, c_dRead, b_dRead]
    refine drawX [0, 1, 5, 6, 7, 8] [(7, [3, 4])] [(7, [1])] (by kernel_rfl) (wild_of rfl) ?_
    simp (config := {dsimp := false}) only [↓vp0, vz, vn, nq, tys, cellD, wideIR, sliceWR, makeWR, appendWR, copyR, conv3R, wideT, isArrN, if_true, if_false, implies_true, forall_const, ne_eq, reduceIte, reduceCtorEq, Nat.reduceEqDiff, Nat.reduceAdd, Nat.reduceMul, Nat.reduceLT, Nat.reduceSub, Nat.reduceLeDiff, Nat.reduceBNe, Nat.reduceBEq, Nat.reduceBeqDiff, List.range, List.range.loop, Try.ntmps18, Try.results18, retB, vb, ↓vy0, vx0, hs_secs, ren_secs, rens_secs, strips_secs, id_secs, ids_secs, tk_secs, tks_secs, secs_length, id_rf, tk_rf, ren_rf, strips_prs, prsD_length, deRf_D, deRf_open, hrf, hs0, hs1, decide_true, spec_rSector, sp_rSector, c_rSector, b_rSector]
    refine ⟨by exact okUps_of (by kernel_rfl) rfl, ⟨i + 1, by omega⟩, ⟨⟨wkD_eq rfl, rfl, wkD_eq rfl, rfl, wkD_eq rfl, rfl, wkD_eq ?_, rfl, trivial⟩, ⟨rfl, Nat.le_of_ble_eq_true rfl, rfl, rfl, Nat.le_of_ble_eq_true rfl, rfl, rfl, Nat.le_of_ble_eq_true rfl, rfl, trivial⟩, trivial⟩, by (try simp only); omega⟩
    exact some_i64 (by (try simp only); omega)
end Go.Vi.DV
end

section
/-
  A SLICE THAT THE GHOST DOES NOT KNOW: its block is new and its own; it may be written in place. Regions and pieces of code while there is one.
-/
set_option linter.unusedVariables false
set_option linter.unusedSimpArgs false
namespace Go.Vi
open Go.RowKit

/-- A slice of numbers that the ghost does not know: its block is new, all of it numbers, no one else's. -/
def HV (B0 : Nat) (k : IntKind) (v : Value) (xs : List Int) (g : Gh) (w : World) : Prop :=
  (xs = [] ∧ ∃ a, v = .slice a 0 0) ∨ ∃ b ty zs, v = .slice (some ⟨b, 0, none⟩) xs.length (xs ++ zs).length ∧ B0 ≤ b ∧ g.own b = none ∧ g.lim b = 0 ∧ w.heap[b]? = some (.cells (ints k (xs ++ zs)).toArray ty (0, 0))
/-- What lasts while the ghost's part does. -/
def Stab (H : Gh → World → Prop) : Prop := ∀ g w g' w', Keeps g w g' w' → H g w → H g' w'
theorem stab_hv (B0 : Nat) (k : IntKind) (v : Value) (xs : List Int) : Stab (HV B0 k v xs) := by
  rintro g w g' w' hk (h | ⟨b, ty, zs, h1, h2, h3, h4, h5⟩)
  · exact .inl h
  · have hb := lt_of_heap h5
    exact .inr ⟨b, ty, zs, h1, h2, by rw [hk.own b hb]; exact h3, by rw [hk.limo b hb h3]; exact h4, by rw [hk.block b hb h3]; exact h5⟩
theorem stab_true : Stab fun _ _ => True := fun _ _ _ _ _ h => h

/-- A world's step that the ghost does not see, but for new blocks. -/
structure Hush (B0 : Nat) (g : Gh) (w w' : World) : Prop where
  ext : Ext g w g w'
  size : w.heap.size ≤ w'.heap.size
  os : w'.os = w.os
  tape : w'.tape = w.tape
  output : w'.output = w.output
  low : ∀ b, b < B0 → w'.heap[b]? = w.heap[b]?
  oth : ∀ (k : Nat) (o : Obj), w.heap[k]? = some o → o.isCells = false → w'.heap[k]? = some o
theorem Keeps.hush {B0 : Nat} {g0 g : Gh} {w0 w w' : World} (h : Keeps g0 w0 g w) (h0 : w0.heap.size ≤ B0) (hh : Hush B0 g w w') : Keeps g0 w0 g w' where
  ext := h.ext.trans hh.ext
  size := Nat.le_trans h.size hh.size
  os := hh.os.trans h.os
  tape := hh.tape.trans h.tape
  output := hh.output.trans h.output
  own := h.own
  block := fun b hb ho => (hh.low b (by omega)).trans (h.block b hb ho)
  limo := h.limo
  oth := fun k o hk ho => hh.oth k o (h.oth k o hk ho) ho

/-- A write into a block that the ghost does not know. -/
theorem hush_set {B0 : Nat} {g : Gh} {s : S} {w : World} {F : Nat → Prop} (hi : Inv g s w F) {b : Nat} {cs : Array Value} {ty : TypeId} (hB : B0 ≤ b) (hh : w.heap[b]? = some (.cells cs ty (0, 0))) (ho : g.own b = none) (hl : g.lim b = 0) (new : Array Value) :
    Hush B0 g w (w.setRow b new) ∧ Inv g s (w.setRow b new) F := by
  have hbl := lt_of_heap hh
  have hx : Ext g w g (w.setRow b new) := {
    lim := fun _ => Nat.le_refl _
    cell := fun b' off h' => cell_setRow_other w b new ⟨b', off, none⟩ (fun e => by simp at e; subst e; omega)
    box := fun _ _ h => h
    tok := fun t a m c h => ⟨a, m, c, h, Nat.le_refl _, fun _ => ⟨rfl, rfl⟩⟩
    own := fun _ _ h => h }
  refine ⟨⟨hx, by simp, rfl, rfl, rfl, fun b' hb' => setRow_other w b b' new (by omega), oth_of (fun b' _ hb' => setRow_other w b b' new hb') (fun o ho => by rw [hh] at ho; cases ho; rfl)⟩, ⟨fun id d h => ?_, fun t n sz h => ?_, hi.fresh, fun b' h' => hi.lim b' (by simpa using h'), fun b' h' => hi.own b' (by simpa using h')⟩⟩
  · obtain ⟨b', cs', ty', h1, h2, h3, h4, h5⟩ := hi.box id d h
    have hbb : b' ≠ b := fun e => by subst e; rw [ho] at h2; cases h2
    exact ⟨b', cs', ty', h1, h2, h3, by rw [setRow_other w b b' new hbb]; exact h4, h5.ext hx⟩
  · obtain ⟨a, c, h1, h2, h3⟩ := hi.tok t n sz h
    refine ⟨a, c, h1, h2, h3.imp id ?_⟩
    rintro ⟨b', off, cs', ty', e1, e2, e3, e4, e5⟩
    have hbb : b' ≠ b := fun e => by subst e; rw [ho] at e2; cases e2
    exact ⟨b', off, cs', ty', e1, e2, e3, by rw [setRow_other w b b' new hbb]; exact e4, e5⟩
/-- A new block that the ghost does not know. -/
theorem hush_alloc {B0 : Nat} {g : Gh} {s : S} {w : World} {F : Nat → Prop} (hi : Inv g s w F) (hB : B0 ≤ w.heap.size) (o : Obj) : Hush B0 g w (w.drew.alloc o) ∧ Inv g s (w.drew.alloc o) F := by
  have hid := hi.drew
  have hkd := drew_keeps g w
  have hk := keeps_alloc (g' := g) hid o (fun _ _ h => h) (fun _ _ h => h) (fun _ _ => rfl) (fun _ _ => rfl)
  have hx := hkd.trans hk
  have hs : w.drew.heap.size = w.heap.size := rfl
  exact ⟨⟨hx.ext, hx.size, hx.os, hx.tape, hx.output, fun b hb => by rw [alloc_old (by rw [hs]; omega)]; rfl, hx.oth⟩, inv_alloc hid o hk hi.fresh (fun _ _ => rfl) (fun _ _ => rfl) (fun _ _ h => h)⟩

theorem ints_app (k : IntKind) (a b : List Int) : ints k (a ++ b) = ints k a ++ ints k b := by simp [ints]
/-- Appended to it: it is still such a one. -/
theorem hv_append {P : Program} {B0 : Nat} {k : IntKind} {v y : Value} {xs ys : List Int} {g : Gh} {s : S} {w : World} {F : Nat → Prop} {t t2 e ty : TypeId} {inf : TypeInfo} (hi : Inv g s w F) (hB : B0 ≤ w.heap.size) (h : HV B0 k v xs g w)
    (ht : P.underlying t = some (.slice e)) (hinf : P.info? e = some inf) (hsz : inf.size = 1) (hz : inf.zero = some (.int k 0)) (hs : Src P w t2 1 y ys.length (ints k ys))
    (hb : (xs.length + ys.length) * inf.bytes ≤ 70368744177664) (hn : xs.length + ys.length ≤ 70368744177664) :
    ∃ v' w', (Builtin.append_ #[t, t2] ty #[v, y]).run P w = .ok v' w' ∧ HV B0 k v' (xs ++ ys) g w' ∧ Hush B0 g w w' ∧ Inv g s w' F := by
  have hrefl : Hush B0 g w w := ⟨Ext.refl g w, Nat.le_refl _, rfl, rfl, rfl, fun _ _ => rfl, fun _ _ h _ => h⟩
  have hz1 : ∀ n, (Builtin.zeroCells #[Value.int k 0] n).toList = ints k (List.replicate n 0) := zero_ints k
  have out : ∀ (a : Option Addr) (c : Nat), v = .slice a xs.length c → c < xs.length + ys.length → (∀ w1, (∀ ad, w1.cell? ad = w.cell? ad) → (Builtin.firstCells 1 xs.length (.slice a xs.length c)).run P w1 = .ok (ints k xs).toArray w1) →
      ∃ v' w', (Builtin.append_ #[t, t2] ty #[v, y]).run P w = .ok v' w' ∧ HV B0 k v' (xs ++ ys) g w' ∧ Hush B0 g w w' ∧ Inv g s w' F := by
    intro a c hv hroom hold
    have hrun := run_append_out (P := P) (t := t) (ty := ty) ht hinf hsz hz hs hold hroom hb hn
    rw [← hv] at hrun
    obtain ⟨h1, h2⟩ := hush_alloc (B0 := B0) hi hB (.cells (ints k xs ++ ints k ys ++ (Builtin.zeroCells (Value.int k 0).cells (grownCap w (xs.length + ys.length) c e - (xs.length + ys.length))).toList).toArray e)
    have hg := grownCap_ge w (xs.length + ys.length) c e
    refine ⟨_, _, hrun, .inr ⟨w.heap.size, e, List.replicate (grownCap w (xs.length + ys.length) c e - (xs.length + ys.length)) 0, ?_, hB, hi.own _ (Nat.le_refl _), hi.lim _ (Nat.le_refl _), ?_⟩, h1, h2⟩
    · congr 1
      · simp
      · simp; omega
    · rw [show (Value.int k 0).cells = #[Value.int k 0] from rfl, hz1, ints_app, ints_app]
      exact heap_alloc_new w.drew _
  rcases h with ⟨rfl, a, rfl⟩ | ⟨b, tyb, zs, rfl, h2, h3, h4, h5⟩
  · by_cases hy : ys = []
    · subst hy
      have hrun := run_append_in (P := P) (t := t) (ty := ty) (a := a) (n := 0) (c := 0) ht hinf hsz hs (Nat.le_refl _)
      refine ⟨.slice a 0 0, w, ?_, .inl ⟨rfl, a, rfl⟩, hrefl, hi⟩
      rw [hrun]
      unfold roomRes
      cases a <;> simp [ints, storeCells, Result.andThen]
    · exact out a 0 rfl (by have := List.length_pos_iff.2 hy; simpa using this) (fun w1 _ => by cases a <;> simp [Builtin.firstCells, ints, loadCells, loadCellsFrom])
  · have hat : At w b 0 (ints k xs) := by
      have := at_of_row (pre := []) (mid := ints k xs) (post := ints k zs) h5 (by simp [ints_app])
      simpa using this
    by_cases hroom : xs.length + ys.length ≤ (xs ++ zs).length
    · have hrun := run_append_in (P := P) (t := t) (ty := ty) (a := some ⟨b, 0, none⟩) ht hinf hsz hs hroom
      have hst := run_storeCells_at (P := P) b (xs.length) tyb (ints k ys) 0 (ints k (xs ++ zs)).toArray w h5 (by simp [ints] at hroom ⊢; omega) (ints_plain _ _)
      obtain ⟨h6, h7⟩ := hush_set (B0 := B0) hi h2 h5 h3 h4 (ints k (xs ++ ys ++ zs.drop ys.length)).toArray
      have e1 : (ints k (xs ++ zs)).take xs.length ++ ints k ys ++ (ints k (xs ++ zs)).drop (xs.length + ys.length) = ints k (xs ++ ys ++ zs.drop ys.length) := by
        rw [ints_app, ints_app, ints_app, List.take_append_of_le_length (by simp [ints]), List.take_of_length_le (by simp [ints]), List.drop_append, List.drop_of_length_le (by simp [ints])]
        simp [ints, List.map_drop]
      refine ⟨.slice (some ⟨b, 0, none⟩) (xs.length + ys.length) (xs ++ zs).length, _, ?_, .inr ⟨b, tyb, zs.drop ys.length, ?_, h2, h3, h4, ?_⟩, h6, h7⟩
      · rw [hrun]
        unfold roomRes
        simp only [add_off, Nat.zero_add, Nat.mul_one]
        simp only [Nat.add_zero] at hst
        have e2 : (ints k ys).length = ys.length := by simp [ints]
        rw [e2] at hst
        rw [hst, e1]
        rfl
      · simp at hroom
        congr 1
        · simp
        · simp; omega
      · exact setRow_heap w b _ _ tyb _ h5
    · exact out (some ⟨b, 0, none⟩) _ rfl (by omega) (fun w1 hw => by
        have := run_loadCells_list (P := P) w1 ⟨b, 0, none⟩ (ints k xs) (fun j v hj => by
          rw [add_off, hw]
          exact hat j v hj)
        have e2 : (ints k xs).length = xs.length := by simp [ints]
        rw [e2] at this
        simp only [Builtin.firstCells, Nat.mul_one, this])

/-! ### operations within a region, while such a one is there -/
theorem aops_pre {E : Env} (hE : EnvOk E) {N : Nat} {ops : Array Oper} {K : List (Nat × D) → S → Prop} {Q : Exit → Act → World → Prop} {r : Option Nat} {m : Nat} {l2 : List Oper} :
    ∀ (rest : List Oper) (i nm : Nat) (sl : List (Nat × D)) (s : S) (g : Gh) (w : World) (a : Act), ops.toList.drop i = rest ++ l2 → aops E N ops.toList K rest nm sl s → a.tmps.size = N → Slots g w sl a → Globs E g w → Inv g s w (after nm) →
      (∀ sl' s' g' w' a', K sl' s' → a'.tmps.size = N → Slots g' w' sl' a' → Inv g' s' w' (after (nm + 4 * rest.length)) → Keeps g w g' w' → a'.defers = a.defers → wpOpsIn (FR r) m E.P ops Q (List.range' (i + rest.length) (ops.size - (i + rest.length))) a' w') → wpOpsIn (FR r) m E.P ops Q (List.range' i (ops.size - i)) a w := by
  intro rest
  induction rest with
  | nil =>
    intro i nm sl s g w a hd h hN hs hg hi hQ
    exact hQ sl s g w a h hN hs (by simpa using hi) (Keeps.refl g w) rfl
  | cons o rest ih =>
    intro i nm sl s g w a hd h hN hs hg hi hQ
    have hlt : i < ops.size := by
      have := congrArg List.length hd
      simp at this; omega
    have ho : ops[i]? = some o := by
      have := congrArg (·[0]?) hd
      simpa [List.getElem?_drop] using this
    have hd' : ops.toList.drop (i + 1) = rest ++ l2 := by
      have := congrArg (List.drop 1) hd
      simpa [List.drop_drop, Nat.add_comm] using this
    have er : ops.size - i = (ops.size - (i + 1)) + 1 := by omega
    have hQ' : ∀ sl' s' g' w' a', K sl' s' → a'.tmps.size = N → Slots g' w' sl' a' → Inv g' s' w' (after (nm + 4 + 4 * rest.length)) → Keeps g w g' w' → a'.defers = a.defers → wpOpsIn (FR r) m E.P ops Q (List.range' (i + 1 + rest.length) (ops.size - (i + 1 + rest.length))) a' w' := fun sl' s' g' w' a' h1 h2 h3 h4 h5 h6 => by
      have := hQ sl' s' g' w' a' h1 h2 h3 (by simp only [List.length_cons]; rw [show nm + 4 * (rest.length + 1) = nm + 4 + 4 * rest.length by omega]; exact h4) h5 h6
      simp only [List.length_cons] at this
      rw [show i + 1 + rest.length = i + (rest.length + 1) by omega]
      exact this
    rw [er, List.range'_succ]
    simp only [wpOpsIn, ho]
    obtain ⟨hdst, h⟩ := h
    have run : ∀ sl1, Slots g w sl1 a → (opR E s nm sl1 o.op).then (fun v u t => aops E N ops.toList K rest (nm + 4) (putS o.dst v sl1) (updS s u t)) → o.wpIn (FR r) m E.P a w (wpOpsIn (FR r) m E.P ops Q (List.range' (i + 1) (ops.size - (i + 1)))) Q := by
      intro sl1 hs1 hr
      obtain ⟨hvc, hk⟩ := hr
      refine wp_wpIn2 (opR_plain hvc) (gives_op hE hs1 hg hvc hi (oneName_after nm) _ _ fun v g' w' hrep hi' hkp => ?_)
      refine ih (i + 1) (nm + 4) _ _ g' w' _ hd' hk (by rw [put_size']; exact hN) (slots_put (hs1.ext hkp.ext) (by rw [hN]; exact hdst) hrep) (hg.ext hkp.ext) (hi'.less fun j hj => ⟨by unfold after at *; omega, by unfold after at hj; omega⟩) ?_
      intro sl' s' g2 w2 a' hK hN' hs' hi2 hk2 hdf
      exact hQ' sl' s' g2 w2 a' hK hN' hs' hi2 (hkp.trans hk2) (hdf.trans (put_defers a o.dst v))
    cases hgd : o.guard with
    | none =>
      simp only [hgd] at h
      simp only [Region.wanted, hgd, if_true]
      exact run sl hs h
    | some jw =>
      obtain ⟨j, want⟩ := jw
      simp only [hgd] at h
      unfold withY at h
      cases hy : yieldY ops.toList sl j with
      | none => simp [hy] at h
      | some r =>
        simp only [hy] at h
        cases r with
        | none =>
          simp only at h
          have hw : (none == some want) = false := rfl
          simp only [Region.wanted, hgd, yieldY_none hs hy, hw, Bool.false_eq_true, if_false]
          refine ⟨fun _ _ => trivial, ?_⟩
          refine ih (i + 1) (nm + 4) _ _ g w _ hd' h (by rw [put_size']; exact hN) (slots_put hs (by rw [hN]; exact hdst) (rep_skip _ _)) hg (hi.less fun j hj => by unfold after at *; omega) ?_
          intro sl' s' g2 w2 a' hK hN' hs' hi2 hk2 hdf
          exact hQ' sl' s' g2 w2 a' hK hN' hs' hi2 hk2 (hdf.trans (put_defers a o.dst undef))
        | some db =>
        obtain ⟨d, b⟩ := db
        simp only at h
        obtain ⟨hyl, hs1⟩ := slots_yield hs (yieldY_some hy)
        by_cases hb : b = want
        · subst hb
          simp only [Region.wanted, hgd, hyl, beq_self_eq_true, if_true]
          exact run _ hs1 (h.1 rfl)
        · have hb' : b = !want := by cases b <;> cases want <;> simp_all
          have hw : (some b == some want) = false := by subst hb'; cases want <;> rfl
          simp only [Region.wanted, hgd, hyl, hw, Bool.false_eq_true, if_false]
          subst hb'
          refine ⟨fun _ _ => trivial, ?_⟩
          refine ih (i + 1) (nm + 4) _ _ g w _ hd' (h.2 rfl) (by rw [put_size']; exact hN) (slots_put hs1 (by rw [hN]; exact hdst) (rep_skip _ _)) hg (hi.less fun j hj => by unfold after at *; omega) ?_
          intro sl' s' g2 w2 a' hK hN' hs' hi2 hk2 hdf
          exact hQ' sl' s' g2 w2 a' hK hN' hs' hi2 hk2 (hdf.trans (put_defers a o.dst undef))

/-- From an operation of a region on. -/
def GHO (H : Gh → World → Prop) (E : Env) (N : Nat) (g0 : Gh) (w0 : World) (Q : Exit → Act → World → Prop) (ops : Array Oper) (i nm : Nat) (sl : List (Nat × D)) (s : S) : Prop :=
  ∀ g w a, a.tmps.size = N → Slots g w sl a → Globs E g w → Inv g s w (after nm) → (Keeps g0 w0 g w ∧ Marked w0 w a) → H g w → wpOpsIn (FR none) 2 E.P ops Q (List.range' i (ops.size - i)) a w
/-- A piece of code. -/
def GHC (H : Gh → World → Prop) (E : Env) (N : Nat) (g0 : Gh) (w0 : World) (Post : Exit → Act → World → Prop) (c : Code) (sl : List (Nat × D)) (s : S) : Prop :=
  ∀ g w a, Know E N sl s g a w → (Keeps g0 w0 g w ∧ Marked w0 w a) → H g w → c.wp E.P Post a w
theorem gho_pre {E : Env} (hE : EnvOk E) {H : Gh → World → Prop} (hH : Stab H) {N : Nat} {g0 : Gh} {w0 : World} {Q : Exit → Act → World → Prop} {ops : Array Oper} (l1 l2 : List Oper) {i nm i' nm' : Nat} {sl : List (Nat × D)} {s : S} (hd : ops.toList.drop i = l1 ++ l2) (e1 : i + l1.length = i') (e2 : nm + 4 * l1.length = nm')
    (h : aops E N ops.toList (fun sl' s' => GHO H E N g0 w0 Q ops i' nm' sl' s') l1 nm sl s) : GHO H E N g0 w0 Q ops i nm sl s := by
  subst e1 e2
  intro g w a hN hs hg hi hp hh
  refine aops_pre hE l1 i nm sl s g w a hd h hN hs hg hi fun sl' s' g' w' a' hG h1 h2 h3 h4 h5 => ?_
  exact hG g' w' a' h1 h2 (hg.ext h4.ext) h3 ⟨hp.1.trans h4, hp.2.step h4 h5⟩ (hH _ _ _ _ h4 hh)
theorem gho_take {E : Env} (hE : EnvOk E) {H : Gh → World → Prop} (hH : Stab H) {N : Nat} {g0 : Gh} {w0 : World} {Q : Exit → Act → World → Prop} {ops : Array Oper} (n : Nat) {i nm i' nm' : Nat} {sl : List (Nat × D)} {s : S} (hn : ((ops.toList.drop i).take n).length = n) (e1 : i + n = i') (e2 : nm + 4 * n = nm')
    (h : aops E N ops.toList (fun sl' s' => GHO H E N g0 w0 Q ops i' nm' sl' s') ((ops.toList.drop i).take n) nm sl s) : GHO H E N g0 w0 Q ops i nm sl s :=
  gho_pre hE hH _ _ (List.take_append_drop n _).symm (by rw [hn]; exact e1) (by rw [hn]; exact e2) h
theorem gho_end {E : Env} (hE : EnvOk E) {H : Gh → World → Prop} (hH : Stab H) {N : Nat} {g0 : Gh} {w0 : World} {Q : Exit → Act → World → Prop} {ops : Array Oper} {i nm nx : Nat} {sl : List (Nat × D)} {s : S} (l1 : List Oper) (hd : ops.toList.drop i = l1) (e2 : nm + 4 * l1.length = nx)
    (h : aops E N ops.toList (fun sl' s' => ∀ g w a, Know E N sl' { s' with next := nx } g a w → (Keeps g0 w0 g w ∧ Marked w0 w a) → H g w → Q .normal a w) l1 nm sl s) : GHO H E N g0 w0 Q ops i nm sl s := by
  subst e2
  intro g w a hN hs hg hi hp hh
  refine aops_sound hE l1 i nm sl s g w a hd h hN hs hg hi fun sl' s' g' w' a' hG h1 h2 h3 h4 h5 => ?_
  exact hG g' w' a' ⟨h1, h2, hg.ext h4.ext, ⟨h3.box, h3.tok, h3.fresh, h3.lim, h3.own⟩⟩ ⟨hp.1.trans h4, hp.2.step h4 h5⟩ (hH _ _ _ _ h4 hh)
/-- An operation of its own kind. -/
theorem gho_wp {E : Env} {H : Gh → World → Prop} {N : Nat} {g0 : Gh} {w0 : World} {Q : Exit → Act → World → Prop} {ops : Array Oper} {i nm : Nat} {sl : List (Nat × D)} {s : S} {o : Oper} (ho : ops[i]? = some o) (hgd : o.guard = none) (hd : ∀ c, o.op ≠ .defer c)
    (h : ∀ g w a, a.tmps.size = N → Slots g w sl a → Globs E g w → Inv g s w (after nm) → (Keeps g0 w0 g w ∧ Marked w0 w a) → H g w → o.wp E.P a w (fun a' w' => wpOpsIn (FR none) 2 E.P ops Q (List.range' (i + 1) (ops.size - (i + 1))) a' w') Q) : GHO H E N g0 w0 Q ops i nm sl s := by
  intro g w a hN hs hg hi hp hh
  have hlt : i < ops.size := (Array.getElem?_eq_some_iff.1 ho).1
  have er : ops.size - i = (ops.size - (i + 1)) + 1 := by omega
  rw [er, List.range'_succ]
  simp only [wpOpsIn, ho, Region.wanted, hgd, if_true]
  exact wp_wpIn2 hd (h g w a hN hs hg hi hp hh)
theorem ghc_region {E : Env} {H : Gh → World → Prop} {N : Nat} {g0 : Gh} {w0 : World} {Post : Exit → Act → World → Prop} {id : Nat} {ops : Array Oper} {y : Code} {sl : List (Nat × D)} {s : S}
    (h : GHO H E N g0 w0 (Exit.then (fun a w => y.wp E.P Post a w) Post) ops 0 s.next sl s) : GHC H E N g0 w0 Post ((Code.region id ops false).seq y) sl s := fun g w a hk hp hh =>
  wp_seq ((wpIn_wide (n := 2)).1 (wpIn_region (by rw [List.range_eq_range']; exact h g w a hk.size hk.slots hk.globs hk.inv hp hh)))
theorem ghc_region1 {E : Env} {H : Gh → World → Prop} {N : Nat} {g0 : Gh} {w0 : World} {Post : Exit → Act → World → Prop} {id : Nat} {ops : Array Oper} {sl : List (Nat × D)} {s : S}
    (h : GHO H E N g0 w0 Post ops 0 s.next sl s) : GHC H E N g0 w0 Post (Code.region id ops false) sl s := fun g w a hk hp hh =>
  (wpIn_wide (n := 2)).1 (wpIn_region (by rw [List.range_eq_range']; exact h g w a hk.size hk.slots hk.globs hk.inv hp hh))
theorem ghc_good {E : Env} {H : Gh → World → Prop} {N : Nat} {g0 : Gh} {w0 : World} {Q : AQ} {c : Code} {sl : List (Nat × D)} {s : S} (h : Good E N g0 w0 Q c sl s) : GHC H E N g0 w0 (Conc E N g0 w0 Q) c sl s := fun g w a hk hp _ => h g w a hk hp
theorem good_ghc {E : Env} {N : Nat} {g0 : Gh} {w0 : World} {Q : AQ} {c : Code} {sl : List (Nat × D)} {s : S} (h : GHC (fun _ _ => True) E N g0 w0 (Conc E N g0 w0 Q) c sl s) : Good E N g0 w0 Q c sl s := fun g w a hk hp => h g w a hk hp trivial
/-! ### a hidden slice becomes a box -/
theorem melt {E : Env} {N B0 : Nat} {k : IntKind} {v : Value} {xs : List Int} {sl : List (Nat × D)} {s : S} {g : Gh} {a : Act} {w : World} {t : Nat} (hk : Know E N sl s g a w) (hh : HV B0 k v xs g w) (hne : xs ≠ []) (ht : look sl t = some (.raw v)) {g0 : Gh} {w0 : World} (hp : Keeps g0 w0 g w) (h0 : w0.heap.size ≤ B0) :
    ∃ g' zs, Know E N ((t, .bsl s.next 0 (xs ++ zs).length 0 xs.length) :: sl) { s with bs := setL s.bs s.next (.arr k (xs ++ zs).length (xs ++ zs)), next := s.next + 4 } g' a w ∧ Keeps g0 w0 g' w := by
  rcases hh with ⟨e, _⟩ | ⟨b, ty, zs, rfl, h2, h3, h4, h5⟩
  · exact absurd e hne
  have hb := lt_of_heap h5
  have hfr := hk.inv.fresh s.next (Nat.le_refl _)
  let g' : Gh := { g with box := fset g.box s.next (some b), own := fset g.own b (some (.inl s.next)) }
  have hbox : ∀ id x, g.box id = some x → g'.box id = some x := fun id x h => by
    have : id ≠ s.next := fun e => by subst e; rw [hfr.1] at h; cases h
    simp [g', fset_ne _ _ this, h]
  have hown : ∀ x, x ≠ b → g'.own x = g.own x := fun x h => fset_ne _ _ h
  have hx : Ext g w g' w := ⟨fun _ => Nat.le_refl _, fun _ _ _ => rfl, hbox, fun t a m c h => ⟨a, m, c, h, Nat.le_refl _, fun _ => ⟨rfl, rfl⟩⟩, fun x y h => by
    have : x ≠ b := fun e => by subst e; rw [h3] at h; cases h
    rw [hown x this]; exact h⟩
  refine ⟨g', zs, ⟨hk.size, ⟨trivial, fun t' d h => ?_⟩, hk.globs.ext hx, ⟨fun id d h => ?_, fun t n sz h => ?_, fun i hi => ?_, hk.inv.lim, fun x h => ?_⟩⟩, ?_⟩
  · simp only [look] at h
    split at h
    · rename_i e
      subst e
      cases h
      obtain ⟨q1, q2⟩ := hk.slots.2 _ _ ht
      refine ⟨q1, ?_⟩
      have q2 : a.tmps.getD t' undef = .slice (some ⟨b, 0, none⟩) xs.length (xs ++ zs).length := q2
      rw [q2]
      simp only [Rep, Rep1, RepC]
      refine ⟨b, (xs ++ zs).length, some ⟨b, 0, none⟩, by simp [g'], Int.le_refl _, by omega, by simp; omega, ⟨by simp, by simp⟩, by simp, fun _ => by simp⟩
    · obtain ⟨q1, q2⟩ := hk.slots.2 _ _ h
      exact ⟨q1, q2.ext hx⟩
  · simp only [S.box, look_setL] at h
    split at h
    · rename_i e
      subst e
      cases h
      exact ⟨b, _, ty, by simp [g'], by simp [g'], h4, h5, by simp [RepC]⟩
    · obtain ⟨b', cs', ty', q1, q2, q3, q4, q5⟩ := hk.inv.box id d h
      have hbb : b' ≠ b := fun e => by subst e; rw [h3] at q2; cases q2
      exact ⟨b', cs', ty', hbox _ _ q1, by rw [hown _ hbb]; exact q2, q3, q4, q5.ext hx⟩
  · obtain ⟨a', c, q1, q2, q3⟩ := hk.inv.tok t n sz h
    refine ⟨a', c, q1, q2, q3.imp id ?_⟩
    rintro ⟨b', off, cs', ty', e1, e2, e3, e4, e5⟩
    have hbb : b' ≠ b := fun e => by subst e; rw [h3] at e2; cases e2
    exact ⟨b', off, cs', ty', e1, by rw [hown _ hbb]; exact e2, e3, e4, e5⟩
  · have hi' : s.next + 4 ≤ i := hi
    have : i ≠ s.next := by omega
    have hf := hk.inv.fresh i (show s.next ≤ i by omega)
    exact ⟨by simp only [g', fset_ne _ _ this]; exact hf.1, hf.2⟩
  · have : x ≠ b := by omega
    rw [hown _ this]
    exact hk.inv.own x h
  · exact ⟨hp.ext.trans hx, hp.size, hp.os, hp.tape, hp.output, fun x hx' => by rw [hown x (by omega)]; exact hp.own x hx', fun x hx' ho => hp.block x hx' ho, fun x hx' ho => hp.limo x hx' ho, hp.oth⟩
theorem ghc_melt {E : Env} {N B0 : Nat} {k : IntKind} {v : Value} {xs : List Int} {sl : List (Nat × D)} {s : S} {g0 : Gh} {w0 : World} {Q : AQ} {c : Code} (t : Nat) (hne : xs ≠ []) (ht : look sl t = some (.raw v)) (h0 : w0.heap.size ≤ B0)
    (h : ∀ zs : List Int, Good E N g0 w0 Q c ((t, .bsl s.next 0 (xs ++ zs).length 0 xs.length) :: sl) { s with bs := setL s.bs s.next (.arr k (xs ++ zs).length (xs ++ zs)), next := s.next + 4 }) : GHC (HV B0 k v xs) E N g0 w0 (Conc E N g0 w0 Q) c sl s := fun g w a hk hp hh => by
  obtain ⟨g', zs, h1, h2⟩ := melt hk hh hne ht hp.1 h0
  exact h zs g' w a h1 ⟨h2, hp.2⟩
end Go.Vi
end
