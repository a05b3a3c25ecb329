/- Lemmas for the law proved in the text whose name ends with Law. -/
import Derived.Test.YtnfcnphhcgmnmaaDoorM63
import Derived.Test.YtnfcnphhcgmnmaaDoorProg

section
set_option linter.unusedVariables false
set_option linter.unusedSimpArgs false
set_option maxHeartbeats 0
set_option maxRecDepth 20000
namespace Go.Vi.C8
open Go.Proofs

def tyC (t : Nat) : Option TI :=
  match t with
  | 1 => some ⟨.other, 1, 8, .raw .nilFunc, false⟩
  | 2 => some ⟨.int .i64, 1, 8, .int .i64 0, true⟩
  | 3 => some ⟨.int .i64, 1, 8, .int .i64 0, true⟩
  | 4 => some ⟨.bool, 1, 1, .bool false, true⟩
  | 5 => some ⟨.int .u8, 1, 1, .int .u8 0, true⟩
  | 9 => some ⟨.str, 1, 16, .str ⟨#[]⟩, true⟩
  | 12 => some ⟨.int .u64, 1, 8, .int .u64 0, true⟩
  | 20 => some ⟨.other, 1, 16, .raw .nilIface, false⟩
  | 21 => some ⟨.int .i32, 1, 4, .int .i32 0, true⟩
  | 22 => some ⟨.slice 26, 1, 24, .sl .full 0 [], false⟩
  | 23 => some ⟨.other, 1, 8, .raw .nilFunc, false⟩
  | 24 => some ⟨.other, 1, 8, .raw .nilFunc, false⟩
  | 25 => some ⟨.arr 32 5, 32, 32, .arr .u8 32 (List.replicate 32 0), true⟩
  | 26 => some ⟨.arr 32 5, 32, 32, .arr .u8 32 (List.replicate 32 0), true⟩
  | 28 => some ⟨.other, 1, 8, .raw .nilFunc, false⟩
  | 29 => some ⟨.other, 1, 8, .raw .nilFunc, false⟩
  | 30 => some ⟨.other, 1, 8, .raw .nilFunc, false⟩
  | 31 => some ⟨.slice 52, 1, 24, .sl .full 0 [], false⟩
  | 32 => some ⟨.other, 1, 8, .raw .nilFunc, false⟩
  | 33 => some ⟨.other, 1, 8, .raw .nilFunc, false⟩
  | 34 => some ⟨.st [(0, 26), (32, 3), (33, 3), (34, 22)], 35, 72, .agg [.arr .u8 32 (List.replicate 32 0), .int .i64 0, .int .i64 0, .sl .full 0 []], false⟩
  | 35 => some ⟨.st [(0, 26), (32, 3), (33, 3), (34, 22)], 35, 72, .agg [.arr .u8 32 (List.replicate 32 0), .int .i64 0, .int .i64 0, .sl .full 0 []], false⟩
  | 37 => some ⟨.other, 1, 8, .raw .nilFunc, false⟩
  | 38 => some ⟨.other, 1, 8, .raw .nilFunc, false⟩
  | 39 => some ⟨.other, 1, 8, .raw .nilFunc, false⟩
  | 40 => some ⟨.other, 1, 8, .raw .nilFunc, false⟩
  | 41 => some ⟨.other, 1, 8, .raw .nilFunc, false⟩
  | 42 => some ⟨.int .u32, 1, 4, .int .u32 0, true⟩
  | 43 => some ⟨.st [(0, 42), (1, 26), (33, 26), (65, 42), (66, 42), (67, 42)], 68, 80, .agg [.int .u32 0, .arr .u8 32 (List.replicate 32 0), .arr .u8 32 (List.replicate 32 0), .int .u32 0, .int .u32 0, .int .u32 0], true⟩
  | 44 => some ⟨.st [(0, 42), (1, 26), (33, 26), (65, 42), (66, 42), (67, 42)], 68, 80, .agg [.int .u32 0, .arr .u8 32 (List.replicate 32 0), .arr .u8 32 (List.replicate 32 0), .int .u32 0, .int .u32 0, .int .u32 0], true⟩
  | 45 => some ⟨.slice 61, 1, 24, .sl .full 0 [], false⟩
  | 46 => some ⟨.st [(0, 44), (68, 45)], 69, 104, .agg [.agg [.int .u32 0, .arr .u8 32 (List.replicate 32 0), .arr .u8 32 (List.replicate 32 0), .int .u32 0, .int .u32 0, .int .u32 0], .sl .full 0 []], false⟩
  | 47 => some ⟨.st [(0, 44), (68, 45)], 69, 104, .agg [.agg [.int .u32 0, .arr .u8 32 (List.replicate 32 0), .arr .u8 32 (List.replicate 32 0), .int .u32 0, .int .u32 0, .int .u32 0], .sl .full 0 []], false⟩
  | 48 => some ⟨.other, 1, 8, .raw .nilFunc, false⟩
  | 49 => some ⟨.other, 1, 8, .raw .nilFunc, false⟩
  | 50 => some ⟨.other, 1, 8, .raw .nilFunc, false⟩
  | 51 => some ⟨.other, 1, 8, .raw .nilFunc, false⟩
  | 52 => some ⟨.slice 5, 1, 24, .sl .full 0 [], false⟩
  | 53 => some ⟨.other, 1, 8, .raw .nilFunc, false⟩
  | 54 => some ⟨.other, 1, 8, .raw .nilFunc, false⟩
  | 55 => some ⟨.other, 1, 8, .raw .nilFunc, false⟩
  | 56 => some ⟨.other, 1, 8, .raw .nilFunc, false⟩
  | 57 => some ⟨.other, 1, 8, .raw .nilFunc, false⟩
  | 58 => some ⟨.slice 65, 1, 24, .sl .full 0 [], false⟩
  | 59 => some ⟨.slice 67, 1, 24, .sl .full 0 [], false⟩
  | 60 => some ⟨.st [(0, 42), (1, 58), (2, 59), (3, 42)], 4, 64, .agg [.int .u32 0, .sl .full 0 [], .sl .full 0 [], .int .u32 0], false⟩
  | 61 => some ⟨.st [(0, 42), (1, 58), (2, 59), (3, 42)], 4, 64, .agg [.int .u32 0, .sl .full 0 [], .sl .full 0 [], .int .u32 0], false⟩
  | 62 => some ⟨.st [(0, 26), (32, 42)], 33, 36, .agg [.arr .u8 32 (List.replicate 32 0), .int .u32 0], true⟩
  | 63 => some ⟨.st [(0, 26), (32, 42)], 33, 36, .agg [.arr .u8 32 (List.replicate 32 0), .int .u32 0], true⟩
  | 64 => some ⟨.st [(0, 63), (33, 52), (34, 42), (35, 31)], 36, 96, .agg [.agg [.arr .u8 32 (List.replicate 32 0), .int .u32 0], .sl .full 0 [], .int .u32 0, .sl .full 0 []], false⟩
  | 65 => some ⟨.st [(0, 63), (33, 52), (34, 42), (35, 31)], 36, 96, .agg [.agg [.arr .u8 32 (List.replicate 32 0), .int .u32 0], .sl .full 0 [], .int .u32 0, .sl .full 0 []], false⟩
  | 66 => some ⟨.st [(0, 2), (1, 52)], 2, 32, .agg [.int .i64 0, .sl .full 0 []], false⟩
  | 67 => some ⟨.st [(0, 2), (1, 52)], 2, 32, .agg [.int .i64 0, .sl .full 0 []], false⟩
  | 68 => some ⟨.other, 1, 8, .raw .nilFunc, false⟩
  | 69 => some ⟨.other, 1, 8, .raw .nilFunc, false⟩
  | 70 => some ⟨.other, 1, 8, .raw .nilFunc, false⟩
  | 71 => some ⟨.other, 1, 8, .raw .nilFunc, false⟩
  | 72 => some ⟨.other, 1, 8, .raw .nilFunc, false⟩
  | 73 => some ⟨.other, 1, 8, .raw .nilFunc, false⟩
  | 74 => some ⟨.other, 1, 8, .raw .nilFunc, false⟩
  | 75 => some ⟨.other, 1, 8, .raw .nilFunc, false⟩
  | 76 => some ⟨.other, 1, 8, .raw .nilFunc, false⟩
  | 77 => some ⟨.other, 1, 8, .raw .nilFunc, false⟩
  | 78 => some ⟨.other, 1, 8, .raw .nilFunc, false⟩
  | 79 => some ⟨.other, 1, 8, .raw .nilFunc, false⟩
  | 80 => some ⟨.other, 1, 8, .raw .nilFunc, false⟩
  | 81 => some ⟨.st [(0, 42), (1, 42), (2, 42), (3, 42), (4, 42), (5, 42), (6, 42), (7, 42)], 8, 32, .agg [.int .u32 0, .int .u32 0, .int .u32 0, .int .u32 0, .int .u32 0, .int .u32 0, .int .u32 0, .int .u32 0], true⟩
  | 82 => some ⟨.st [(0, 42), (1, 42), (2, 42), (3, 42), (4, 42), (5, 42), (6, 42), (7, 42)], 8, 32, .agg [.int .u32 0, .int .u32 0, .int .u32 0, .int .u32 0, .int .u32 0, .int .u32 0, .int .u32 0, .int .u32 0], true⟩
  | 83 => some ⟨.other, 1, 8, .raw .nilFunc, false⟩
  | 84 => some ⟨.other, 1, 8, .raw .nilFunc, false⟩
  | 85 => some ⟨.other, 1, 8, .raw .nilFunc, false⟩
  | 86 => some ⟨.slice 42, 1, 24, .sl .full 0 [], false⟩
  | 87 => some ⟨.other, 1, 8, .raw .nilFunc, false⟩
  | 88 => some ⟨.other, 1, 8, .raw .nilFunc, false⟩
  | 89 => some ⟨.other, 1, 8, .raw .nilFunc, false⟩
  | 90 => some ⟨.int .i64, 1, 8, .int .i64 0, true⟩
  | 92 => some ⟨.other, 1, 8, .raw .nilFunc, false⟩
  | 94 => some ⟨.other, 1, 8, .raw .nilFunc, false⟩
  | 95 => some ⟨.other, 1, 8, .raw .nilFunc, false⟩
  | 96 => some ⟨.arr 8 42, 8, 32, .arr .u32 8 (List.replicate 8 0), true⟩
  | 97 => some ⟨.int .u64, 1, 8, .int .u64 0, true⟩
  | 98 => some ⟨.int .u64, 1, 8, .int .u64 0, true⟩
  | 99 => some ⟨.other, 1, 8, .raw .nilFunc, false⟩
  | 100 => some ⟨.other, 1, 8, .raw .nilFunc, false⟩
  | 101 => some ⟨.other, 1, 8, .raw .nilFunc, false⟩
  | 102 => some ⟨.other, 1, 8, .raw .nilFunc, false⟩
  | 103 => some ⟨.other, 1, 8, .raw .nilFunc, false⟩
  | 104 => some ⟨.other, 1, 8, .raw .nilFunc, false⟩
  | 105 => some ⟨.other, 1, 8, .raw .nilFunc, false⟩
  | 106 => some ⟨.other, 1, 8, .raw .nilFunc, false⟩
  | 107 => some ⟨.other, 1, 8, .raw .nilFunc, false⟩
  | 108 => some ⟨.other, 1, 8, .raw .nilFunc, false⟩
  | 109 => some ⟨.arr 64 42, 64, 256, .arr .u32 64 (List.replicate 64 0), true⟩
  | 110 => some ⟨.other, 1, 8, .raw .nilFunc, false⟩
  | 111 => some ⟨.other, 1, 8, .raw .nilFunc, false⟩
  | 112 => some ⟨.other, 1, 8, .raw .nilFunc, false⟩
  | 113 => some ⟨.other, 1, 8, .raw .nilFunc, false⟩
  | 114 => some ⟨.other, 1, 8, .raw .nilFunc, false⟩
  | 115 => some ⟨.other, 1, 8, .raw .nilFunc, false⟩
  | 116 => some ⟨.other, 1, 8, .raw .nilFunc, false⟩
  | 117 => some ⟨.other, 1, 8, .raw .nilFunc, false⟩
  | 118 => some ⟨.other, 1, 8, .raw .nilFunc, false⟩
  | 119 => some ⟨.other, 1, 8, .raw .nilFunc, false⟩
  | 120 => some ⟨.other, 1, 8, .raw .nilFunc, false⟩
  | 121 => some ⟨.other, 1, 8, .raw .nilFunc, false⟩
  | 122 => some ⟨.other, 1, 8, .raw .nilFunc, false⟩
  | 123 => some ⟨.other, 1, 8, .raw .nilFunc, false⟩
  | 124 => some ⟨.other, 1, 8, .raw .nilFunc, false⟩
  | 125 => some ⟨.other, 1, 8, .raw .nilFunc, false⟩
  | 126 => some ⟨.other, 1, 8, .raw .nilFunc, false⟩
  | 127 => some ⟨.other, 1, 8, .raw .nilFunc, false⟩
  | 128 => some ⟨.other, 1, 8, .raw .nilFunc, false⟩
  | 129 => some ⟨.other, 1, 8, .raw .nilFunc, false⟩
  | 130 => some ⟨.other, 1, 8, .raw .nilFunc, false⟩
  | 131 => some ⟨.other, 1, 8, .raw .nilFunc, false⟩
  | 132 => some ⟨.other, 1, 8, .raw .nilFunc, false⟩
  | 134 => some ⟨.other, 1, 8, .raw .nilFunc, false⟩
  | 135 => some ⟨.slice 3, 1, 24, .sl .full 0 [], false⟩
  | 136 => some ⟨.other, 1, 8, .raw .nilFunc, false⟩
  | 137 => some ⟨.other, 1, 8, .raw .nilFunc, false⟩
  | 138 => some ⟨.other, 1, 8, .raw .nilFunc, false⟩
  | 139 => some ⟨.other, 1, 8, .raw .nilFunc, false⟩
  | 145 => some ⟨.other, 1, 8, .raw .nilFunc, false⟩
  | 148 => some ⟨.other, 1, 8, .raw .nilFunc, false⟩
  | 149 => some ⟨.ptr 5, 1, 8, .raw (.pointer none), false⟩
  | 152 => some ⟨.st [(0, 12), (1, 12), (2, 42), (3, 146), (4, 5), (5, 5), (6, 147), (7, 148), (8, 149), (9, 150), (10, 151)], 11, 48, .agg [.int .u64 0, .int .u64 0, .int .u32 0, .int .u8 0, .int .u8 0, .int .u8 0, .int .u8 0, .raw .nilFunc, .raw (.pointer none), .int .i32 0, .int .i32 0], false⟩
  | _ => none
def spec (f : Nat) : FS :=
  match f with
  | 58 => .pure [] sp_first
  | 62 => .pure [] sp_refRoundNumbers
  | 63 => .pure [] sp_refFirst
  | 64 => .pure [some .u32, some .u8, some .u32] sp_refChange
  | 68 => .pure [] sp_closing
  | 70 => .pure [some .u8, some .u32] sp_refNumber
  | 71 => .pure [] sp_three
  | 72 => .pure [] sp_Right
  | 82 => .pure [] sp_Shift
  | 80 => .pure [] sp_round
  | 81 => .pure [] sp_plus
  | 100 => .pure [none, some .i64] sp_turned
  | 107 => .pure [] sp_rotl
  | 61 => .pure [] sp_refClosing
  | 51 => .pure [some .u8] sp_refSum
  | 43 => .pure [some .u8] sp_refTwice
  | 79 => .box (sp_numbers 99)
  | 99 => .box sp_next
  | 69 => .pure [none, some .u8] sp_change
  | 59 => .pure [none, none, some .u8] sp_digest
  | 49 => .pure [some .u8] sp_sum
  | 48 => .pure [] sp_again
  | 32 => .pure [some .u8] sp_twice
  | 42 => .pure [] sp_pair
  | 50 => .pure [] (sp_chunk 60)
  | 34 => .box sp_rootEach
  | 36 => .box sp_textsEach
  | 33 => .box (sp_rows 34 36 39)
  | 12 => .pure [] sp_root
  | 15 => .pure [] sp_texts
  | 11 => .pure [] sp_works
  | 10 => .pure [] sp_cut
  | 18 => .pure [] sp_same
  | 19 => .pure [] sp_clash
  | 3 => .pure [] sp_lawMTwice
  | 5 => .pure [] sp_lawMApart
  | 38 => .pure [] sp_refPartner
  | 37 => .pure [] sp_refMText
  | 35 => .pure [] sp_refAbove
  | 13 => .pure [] sp_refRoot
  | 16 => .pure [] sp_refTexts
  | 14 => .pure [] sp_refSame
  | 17 => .pure [] sp_hashes
  | 4 => .pure [] sp_lawMRoots
  | 41 => .pure [] sp_alone
  | 40 => .pure [] sp_needs
  | 22 => .pure [] sp_fold
  | 23 => .pure [] sp_refFold
  | 20 => .pure [] sp_branch
  | 21 => .pure [] sp_refBranch
  | 39 => .box sp_branchEach
  | 6 => .pure [] sp_lawMBranches
  | 24 => .pure [] sp_near
  | 25 => .pure [] sp_folded
  | 7 => .pure [] sp_lawMProves
  | 31 => .pure [] sp_join
  | 27 => .pure [] sp_commitment
  | 29 => .pure [] sp_wanted
  | 9 => .pure [] sp_lawMKnown
  | _ => .pure [] fun _ => noPF
def glC (i : Nat) : Option D :=
  match i with
  | 0 => some (.arr .u32 64 kList)
  | _ => none
noncomputable def E : Env where
  P := Tryd.prog
  ty := tyC
  gl := glC
  T := fun f args s nm => (spec f).T args s nm
theorem ty_ok : ∀ t i, E.ty t = some i → TIOk E.P t i := by
  intro t i h
  change tyC t = some i at h
  unfold tyC at h
  split at h <;> (try cases h)
  · exact ⟨⟨Tryd.t1, _, rfl, rfl, rfl, rfl, zero_ok rfl rfl, rfl⟩, ⟨_, Tryd.underlying1, rfl⟩, fun h => by cases h⟩
  · exact ⟨⟨Tryd.t2, _, rfl, rfl, rfl, rfl, zero_ok rfl rfl, rfl⟩, Tryd.underlying2, fun _ => ⟨by kernel_rfl, fun fs h => by rw [show E.P.underlying 2 = _ from Tryd.underlying2] at h; cases h⟩⟩
  · exact ⟨⟨Tryd.t3, _, rfl, rfl, rfl, rfl, zero_ok rfl rfl, rfl⟩, Tryd.underlying3, fun _ => ⟨by kernel_rfl, fun fs h => by rw [show E.P.underlying 3 = _ from Tryd.underlying3] at h; cases h⟩⟩
  · exact ⟨⟨Tryd.t4, _, rfl, rfl, rfl, rfl, zero_ok rfl rfl, rfl⟩, Tryd.underlying4, fun _ => ⟨by kernel_rfl, fun fs h => by rw [show E.P.underlying 4 = _ from Tryd.underlying4] at h; cases h⟩⟩
  · exact ⟨⟨Tryd.t5, _, rfl, rfl, rfl, rfl, zero_ok rfl rfl, rfl⟩, Tryd.underlying5, fun _ => ⟨by kernel_rfl, fun fs h => by rw [show E.P.underlying 5 = _ from Tryd.underlying5] at h; cases h⟩⟩
  · exact ⟨⟨Tryd.t9, _, rfl, rfl, rfl, rfl, zero_ok rfl rfl, rfl⟩, Tryd.underlying9, fun _ => ⟨by kernel_rfl, fun fs h => by rw [show E.P.underlying 9 = _ from Tryd.underlying9] at h; cases h⟩⟩
  · exact ⟨⟨Tryd.t12, _, rfl, rfl, rfl, rfl, zero_ok rfl rfl, rfl⟩, Tryd.underlying12, fun _ => ⟨by kernel_rfl, fun fs h => by rw [show E.P.underlying 12 = _ from Tryd.underlying12] at h; cases h⟩⟩
  · exact ⟨⟨Tryd.t20, _, rfl, rfl, rfl, rfl, zero_ok rfl rfl, rfl⟩, ⟨_, Tryd.underlying20, rfl⟩, fun h => by cases h⟩
  · exact ⟨⟨Tryd.t21, _, rfl, rfl, rfl, rfl, zero_ok rfl rfl, rfl⟩, Tryd.underlying21, fun _ => ⟨by kernel_rfl, fun fs h => by rw [show E.P.underlying 21 = _ from Tryd.underlying21] at h; cases h⟩⟩
  · exact ⟨⟨Tryd.t22, _, rfl, rfl, rfl, rfl, zero_ok rfl rfl, rfl⟩, Tryd.underlying22, fun h => by cases h⟩
  · exact ⟨⟨Tryd.t23, _, rfl, rfl, rfl, rfl, zero_ok rfl rfl, rfl⟩, ⟨_, Tryd.underlying23, rfl⟩, fun h => by cases h⟩
  · exact ⟨⟨Tryd.t24, _, rfl, rfl, rfl, rfl, zero_ok rfl rfl, rfl⟩, ⟨_, Tryd.underlying24, rfl⟩, fun h => by cases h⟩
  · exact ⟨⟨Tryd.t25, _, rfl, rfl, rfl, rfl, zero_ok rfl rfl, rfl⟩, Tryd.underlying25, fun _ => ⟨by kernel_rfl, fun fs h => by rw [show E.P.underlying 25 = _ from Tryd.underlying25] at h; cases h⟩⟩
  · exact ⟨⟨Tryd.t26, _, rfl, rfl, rfl, rfl, zero_ok rfl rfl, rfl⟩, Tryd.underlying26, fun _ => ⟨by kernel_rfl, fun fs h => by rw [show E.P.underlying 26 = _ from Tryd.underlying26] at h; cases h⟩⟩
  · exact ⟨⟨Tryd.t28, _, rfl, rfl, rfl, rfl, zero_ok rfl rfl, rfl⟩, ⟨_, Tryd.underlying28, rfl⟩, fun h => by cases h⟩
  · exact ⟨⟨Tryd.t29, _, rfl, rfl, rfl, rfl, zero_ok rfl rfl, rfl⟩, ⟨_, Tryd.underlying29, rfl⟩, fun h => by cases h⟩
  · exact ⟨⟨Tryd.t30, _, rfl, rfl, rfl, rfl, zero_ok rfl rfl, rfl⟩, ⟨_, Tryd.underlying30, rfl⟩, fun h => by cases h⟩
  · exact ⟨⟨Tryd.t31, _, rfl, rfl, rfl, rfl, zero_ok rfl rfl, rfl⟩, Tryd.underlying31, fun h => by cases h⟩
  · exact ⟨⟨Tryd.t32, _, rfl, rfl, rfl, rfl, zero_ok rfl rfl, rfl⟩, ⟨_, Tryd.underlying32, rfl⟩, fun h => by cases h⟩
  · exact ⟨⟨Tryd.t33, _, rfl, rfl, rfl, rfl, zero_ok rfl rfl, rfl⟩, ⟨_, Tryd.underlying33, rfl⟩, fun h => by cases h⟩
  · exact ⟨⟨Tryd.t34, _, rfl, rfl, rfl, rfl, zero_ok rfl rfl, rfl⟩, ⟨_, Tryd.underlying34, rfl⟩, fun h => by cases h⟩
  · exact ⟨⟨Tryd.t35, _, rfl, rfl, rfl, rfl, zero_ok rfl rfl, rfl⟩, ⟨_, Tryd.underlying35, rfl⟩, fun h => by cases h⟩
  · exact ⟨⟨Tryd.t37, _, rfl, rfl, rfl, rfl, zero_ok rfl rfl, rfl⟩, ⟨_, Tryd.underlying37, rfl⟩, fun h => by cases h⟩
  · exact ⟨⟨Tryd.t38, _, rfl, rfl, rfl, rfl, zero_ok rfl rfl, rfl⟩, ⟨_, Tryd.underlying38, rfl⟩, fun h => by cases h⟩
  · exact ⟨⟨Tryd.t39, _, rfl, rfl, rfl, rfl, zero_ok rfl rfl, rfl⟩, ⟨_, Tryd.underlying39, rfl⟩, fun h => by cases h⟩
  · exact ⟨⟨Tryd.t40, _, rfl, rfl, rfl, rfl, zero_ok rfl rfl, rfl⟩, ⟨_, Tryd.underlying40, rfl⟩, fun h => by cases h⟩
  · exact ⟨⟨Tryd.t41, _, rfl, rfl, rfl, rfl, zero_ok rfl rfl, rfl⟩, ⟨_, Tryd.underlying41, rfl⟩, fun h => by cases h⟩
  · exact ⟨⟨Tryd.t42, _, rfl, rfl, rfl, rfl, zero_ok rfl rfl, rfl⟩, Tryd.underlying42, fun _ => ⟨by kernel_rfl, fun fs h => by rw [show E.P.underlying 42 = _ from Tryd.underlying42] at h; cases h⟩⟩
  · exact ⟨⟨Tryd.t43, _, rfl, rfl, rfl, rfl, zero_ok rfl rfl, rfl⟩, ⟨_, Tryd.underlying43, rfl⟩, fun _ => ⟨by kernel_rfl, fun fs h => by rw [show E.P.underlying 43 = _ from Tryd.underlying43] at h; cases h; intro f hf; simp at hf; rcases hf with rfl | rfl | rfl | rfl | rfl | rfl <;> decide⟩⟩
  · exact ⟨⟨Tryd.t44, _, rfl, rfl, rfl, rfl, zero_ok rfl rfl, rfl⟩, ⟨_, Tryd.underlying44, rfl⟩, fun _ => ⟨by kernel_rfl, fun fs h => by rw [show E.P.underlying 44 = _ from Tryd.underlying44] at h; cases h; intro f hf; simp at hf; rcases hf with rfl | rfl | rfl | rfl | rfl | rfl <;> decide⟩⟩
  · exact ⟨⟨Tryd.t45, _, rfl, rfl, rfl, rfl, zero_ok rfl rfl, rfl⟩, Tryd.underlying45, fun h => by cases h⟩
  · exact ⟨⟨Tryd.t46, _, rfl, rfl, rfl, rfl, zero_ok rfl rfl, rfl⟩, ⟨_, Tryd.underlying46, rfl⟩, fun h => by cases h⟩
  · exact ⟨⟨Tryd.t47, _, rfl, rfl, rfl, rfl, zero_ok rfl rfl, rfl⟩, ⟨_, Tryd.underlying47, rfl⟩, fun h => by cases h⟩
  · exact ⟨⟨Tryd.t48, _, rfl, rfl, rfl, rfl, zero_ok rfl rfl, rfl⟩, ⟨_, Tryd.underlying48, rfl⟩, fun h => by cases h⟩
  · exact ⟨⟨Tryd.t49, _, rfl, rfl, rfl, rfl, zero_ok rfl rfl, rfl⟩, ⟨_, Tryd.underlying49, rfl⟩, fun h => by cases h⟩
  · exact ⟨⟨Tryd.t50, _, rfl, rfl, rfl, rfl, zero_ok rfl rfl, rfl⟩, ⟨_, Tryd.underlying50, rfl⟩, fun h => by cases h⟩
  · exact ⟨⟨Tryd.t51, _, rfl, rfl, rfl, rfl, zero_ok rfl rfl, rfl⟩, ⟨_, Tryd.underlying51, rfl⟩, fun h => by cases h⟩
  · exact ⟨⟨Tryd.t52, _, rfl, rfl, rfl, rfl, zero_ok rfl rfl, rfl⟩, Tryd.underlying52, fun h => by cases h⟩
  · exact ⟨⟨Tryd.t53, _, rfl, rfl, rfl, rfl, zero_ok rfl rfl, rfl⟩, ⟨_, Tryd.underlying53, rfl⟩, fun h => by cases h⟩
  · exact ⟨⟨Tryd.t54, _, rfl, rfl, rfl, rfl, zero_ok rfl rfl, rfl⟩, ⟨_, Tryd.underlying54, rfl⟩, fun h => by cases h⟩
  · exact ⟨⟨Tryd.t55, _, rfl, rfl, rfl, rfl, zero_ok rfl rfl, rfl⟩, ⟨_, Tryd.underlying55, rfl⟩, fun h => by cases h⟩
  · exact ⟨⟨Tryd.t56, _, rfl, rfl, rfl, rfl, zero_ok rfl rfl, rfl⟩, ⟨_, Tryd.underlying56, rfl⟩, fun h => by cases h⟩
  · exact ⟨⟨Tryd.t57, _, rfl, rfl, rfl, rfl, zero_ok rfl rfl, rfl⟩, ⟨_, Tryd.underlying57, rfl⟩, fun h => by cases h⟩
  · exact ⟨⟨Tryd.t58, _, rfl, rfl, rfl, rfl, zero_ok rfl rfl, rfl⟩, Tryd.underlying58, fun h => by cases h⟩
  · exact ⟨⟨Tryd.t59, _, rfl, rfl, rfl, rfl, zero_ok rfl rfl, rfl⟩, Tryd.underlying59, fun h => by cases h⟩
  · exact ⟨⟨Tryd.t60, _, rfl, rfl, rfl, rfl, zero_ok rfl rfl, rfl⟩, ⟨_, Tryd.underlying60, rfl⟩, fun h => by cases h⟩
  · exact ⟨⟨Tryd.t61, _, rfl, rfl, rfl, rfl, zero_ok rfl rfl, rfl⟩, ⟨_, Tryd.underlying61, rfl⟩, fun h => by cases h⟩
  · exact ⟨⟨Tryd.t62, _, rfl, rfl, rfl, rfl, zero_ok rfl rfl, rfl⟩, ⟨_, Tryd.underlying62, rfl⟩, fun _ => ⟨by kernel_rfl, fun fs h => by rw [show E.P.underlying 62 = _ from Tryd.underlying62] at h; cases h; intro f hf; simp at hf; rcases hf with rfl | rfl <;> decide⟩⟩
  · exact ⟨⟨Tryd.t63, _, rfl, rfl, rfl, rfl, zero_ok rfl rfl, rfl⟩, ⟨_, Tryd.underlying63, rfl⟩, fun _ => ⟨by kernel_rfl, fun fs h => by rw [show E.P.underlying 63 = _ from Tryd.underlying63] at h; cases h; intro f hf; simp at hf; rcases hf with rfl | rfl <;> decide⟩⟩
  · exact ⟨⟨Tryd.t64, _, rfl, rfl, rfl, rfl, zero_ok rfl rfl, rfl⟩, ⟨_, Tryd.underlying64, rfl⟩, fun h => by cases h⟩
  · exact ⟨⟨Tryd.t65, _, rfl, rfl, rfl, rfl, zero_ok rfl rfl, rfl⟩, ⟨_, Tryd.underlying65, rfl⟩, fun h => by cases h⟩
  · exact ⟨⟨Tryd.t66, _, rfl, rfl, rfl, rfl, zero_ok rfl rfl, rfl⟩, ⟨_, Tryd.underlying66, rfl⟩, fun h => by cases h⟩
  · exact ⟨⟨Tryd.t67, _, rfl, rfl, rfl, rfl, zero_ok rfl rfl, rfl⟩, ⟨_, Tryd.underlying67, rfl⟩, fun h => by cases h⟩
  · exact ⟨⟨Tryd.t68, _, rfl, rfl, rfl, rfl, zero_ok rfl rfl, rfl⟩, ⟨_, Tryd.underlying68, rfl⟩, fun h => by cases h⟩
  · exact ⟨⟨Tryd.t69, _, rfl, rfl, rfl, rfl, zero_ok rfl rfl, rfl⟩, ⟨_, Tryd.underlying69, rfl⟩, fun h => by cases h⟩
  · exact ⟨⟨Tryd.t70, _, rfl, rfl, rfl, rfl, zero_ok rfl rfl, rfl⟩, ⟨_, Tryd.underlying70, rfl⟩, fun h => by cases h⟩
  · exact ⟨⟨Tryd.t71, _, rfl, rfl, rfl, rfl, zero_ok rfl rfl, rfl⟩, ⟨_, Tryd.underlying71, rfl⟩, fun h => by cases h⟩
  · exact ⟨⟨Tryd.t72, _, rfl, rfl, rfl, rfl, zero_ok rfl rfl, rfl⟩, ⟨_, Tryd.underlying72, rfl⟩, fun h => by cases h⟩
  · exact ⟨⟨Tryd.t73, _, rfl, rfl, rfl, rfl, zero_ok rfl rfl, rfl⟩, ⟨_, Tryd.underlying73, rfl⟩, fun h => by cases h⟩
  · exact ⟨⟨Tryd.t74, _, rfl, rfl, rfl, rfl, zero_ok rfl rfl, rfl⟩, ⟨_, Tryd.underlying74, rfl⟩, fun h => by cases h⟩
  · exact ⟨⟨Tryd.t75, _, rfl, rfl, rfl, rfl, zero_ok rfl rfl, rfl⟩, ⟨_, Tryd.underlying75, rfl⟩, fun h => by cases h⟩
  · exact ⟨⟨Tryd.t76, _, rfl, rfl, rfl, rfl, zero_ok rfl rfl, rfl⟩, ⟨_, Tryd.underlying76, rfl⟩, fun h => by cases h⟩
  · exact ⟨⟨Tryd.t77, _, rfl, rfl, rfl, rfl, zero_ok rfl rfl, rfl⟩, ⟨_, Tryd.underlying77, rfl⟩, fun h => by cases h⟩
  · exact ⟨⟨Tryd.t78, _, rfl, rfl, rfl, rfl, zero_ok rfl rfl, rfl⟩, ⟨_, Tryd.underlying78, rfl⟩, fun h => by cases h⟩
  · exact ⟨⟨Tryd.t79, _, rfl, rfl, rfl, rfl, zero_ok rfl rfl, rfl⟩, ⟨_, Tryd.underlying79, rfl⟩, fun h => by cases h⟩
  · exact ⟨⟨Tryd.t80, _, rfl, rfl, rfl, rfl, zero_ok rfl rfl, rfl⟩, ⟨_, Tryd.underlying80, rfl⟩, fun h => by cases h⟩
  · exact ⟨⟨Tryd.t81, _, rfl, rfl, rfl, rfl, zero_ok rfl rfl, rfl⟩, ⟨_, Tryd.underlying81, rfl⟩, fun _ => ⟨by kernel_rfl, fun fs h => by rw [show E.P.underlying 81 = _ from Tryd.underlying81] at h; cases h; intro f hf; simp at hf; rcases hf with rfl | rfl | rfl | rfl | rfl | rfl | rfl | rfl <;> decide⟩⟩
  · exact ⟨⟨Tryd.t82, _, rfl, rfl, rfl, rfl, zero_ok rfl rfl, rfl⟩, ⟨_, Tryd.underlying82, rfl⟩, fun _ => ⟨by kernel_rfl, fun fs h => by rw [show E.P.underlying 82 = _ from Tryd.underlying82] at h; cases h; intro f hf; simp at hf; rcases hf with rfl | rfl | rfl | rfl | rfl | rfl | rfl | rfl <;> decide⟩⟩
  · exact ⟨⟨Tryd.t83, _, rfl, rfl, rfl, rfl, zero_ok rfl rfl, rfl⟩, ⟨_, Tryd.underlying83, rfl⟩, fun h => by cases h⟩
  · exact ⟨⟨Tryd.t84, _, rfl, rfl, rfl, rfl, zero_ok rfl rfl, rfl⟩, ⟨_, Tryd.underlying84, rfl⟩, fun h => by cases h⟩
  · exact ⟨⟨Tryd.t85, _, rfl, rfl, rfl, rfl, zero_ok rfl rfl, rfl⟩, ⟨_, Tryd.underlying85, rfl⟩, fun h => by cases h⟩
  · exact ⟨⟨Tryd.t86, _, rfl, rfl, rfl, rfl, zero_ok rfl rfl, rfl⟩, Tryd.underlying86, fun h => by cases h⟩
  · exact ⟨⟨Tryd.t87, _, rfl, rfl, rfl, rfl, zero_ok rfl rfl, rfl⟩, ⟨_, Tryd.underlying87, rfl⟩, fun h => by cases h⟩
  · exact ⟨⟨Tryd.t88, _, rfl, rfl, rfl, rfl, zero_ok rfl rfl, rfl⟩, ⟨_, Tryd.underlying88, rfl⟩, fun h => by cases h⟩
  · exact ⟨⟨Tryd.t89, _, rfl, rfl, rfl, rfl, zero_ok rfl rfl, rfl⟩, ⟨_, Tryd.underlying89, rfl⟩, fun h => by cases h⟩
  · exact ⟨⟨Tryd.t90, _, rfl, rfl, rfl, rfl, zero_ok rfl rfl, rfl⟩, Tryd.underlying90, fun _ => ⟨by kernel_rfl, fun fs h => by rw [show E.P.underlying 90 = _ from Tryd.underlying90] at h; cases h⟩⟩
  · exact ⟨⟨Tryd.t92, _, rfl, rfl, rfl, rfl, zero_ok rfl rfl, rfl⟩, ⟨_, Tryd.underlying92, rfl⟩, fun h => by cases h⟩
  · exact ⟨⟨Tryd.t94, _, rfl, rfl, rfl, rfl, zero_ok rfl rfl, rfl⟩, ⟨_, Tryd.underlying94, rfl⟩, fun h => by cases h⟩
  · exact ⟨⟨Tryd.t95, _, rfl, rfl, rfl, rfl, zero_ok rfl rfl, rfl⟩, ⟨_, Tryd.underlying95, rfl⟩, fun h => by cases h⟩
  · exact ⟨⟨Tryd.t96, _, rfl, rfl, rfl, rfl, zero_ok rfl rfl, rfl⟩, Tryd.underlying96, fun _ => ⟨by kernel_rfl, fun fs h => by rw [show E.P.underlying 96 = _ from Tryd.underlying96] at h; cases h⟩⟩
  · exact ⟨⟨Tryd.t97, _, rfl, rfl, rfl, rfl, zero_ok rfl rfl, rfl⟩, Tryd.underlying97, fun _ => ⟨by kernel_rfl, fun fs h => by rw [show E.P.underlying 97 = _ from Tryd.underlying97] at h; cases h⟩⟩
  · exact ⟨⟨Tryd.t98, _, rfl, rfl, rfl, rfl, zero_ok rfl rfl, rfl⟩, Tryd.underlying98, fun _ => ⟨by kernel_rfl, fun fs h => by rw [show E.P.underlying 98 = _ from Tryd.underlying98] at h; cases h⟩⟩
  · exact ⟨⟨Tryd.t99, _, rfl, rfl, rfl, rfl, zero_ok rfl rfl, rfl⟩, ⟨_, Tryd.underlying99, rfl⟩, fun h => by cases h⟩
  · exact ⟨⟨Tryd.t100, _, rfl, rfl, rfl, rfl, zero_ok rfl rfl, rfl⟩, ⟨_, Tryd.underlying100, rfl⟩, fun h => by cases h⟩
  · exact ⟨⟨Tryd.t101, _, rfl, rfl, rfl, rfl, zero_ok rfl rfl, rfl⟩, ⟨_, Tryd.underlying101, rfl⟩, fun h => by cases h⟩
  · exact ⟨⟨Tryd.t102, _, rfl, rfl, rfl, rfl, zero_ok rfl rfl, rfl⟩, ⟨_, Tryd.underlying102, rfl⟩, fun h => by cases h⟩
  · exact ⟨⟨Tryd.t103, _, rfl, rfl, rfl, rfl, zero_ok rfl rfl, rfl⟩, ⟨_, Tryd.underlying103, rfl⟩, fun h => by cases h⟩
  · exact ⟨⟨Tryd.t104, _, rfl, rfl, rfl, rfl, zero_ok rfl rfl, rfl⟩, ⟨_, Tryd.underlying104, rfl⟩, fun h => by cases h⟩
  · exact ⟨⟨Tryd.t105, _, rfl, rfl, rfl, rfl, zero_ok rfl rfl, rfl⟩, ⟨_, Tryd.underlying105, rfl⟩, fun h => by cases h⟩
  · exact ⟨⟨Tryd.t106, _, rfl, rfl, rfl, rfl, zero_ok rfl rfl, rfl⟩, ⟨_, Tryd.underlying106, rfl⟩, fun h => by cases h⟩
  · exact ⟨⟨Tryd.t107, _, rfl, rfl, rfl, rfl, zero_ok rfl rfl, rfl⟩, ⟨_, Tryd.underlying107, rfl⟩, fun h => by cases h⟩
  · exact ⟨⟨Tryd.t108, _, rfl, rfl, rfl, rfl, zero_ok rfl rfl, rfl⟩, ⟨_, Tryd.underlying108, rfl⟩, fun h => by cases h⟩
  · exact ⟨⟨Tryd.t109, _, rfl, rfl, rfl, rfl, zero_ok rfl rfl, rfl⟩, Tryd.underlying109, fun _ => ⟨by kernel_rfl, fun fs h => by rw [show E.P.underlying 109 = _ from Tryd.underlying109] at h; cases h⟩⟩
  · exact ⟨⟨Tryd.t110, _, rfl, rfl, rfl, rfl, zero_ok rfl rfl, rfl⟩, ⟨_, Tryd.underlying110, rfl⟩, fun h => by cases h⟩
  · exact ⟨⟨Tryd.t111, _, rfl, rfl, rfl, rfl, zero_ok rfl rfl, rfl⟩, ⟨_, Tryd.underlying111, rfl⟩, fun h => by cases h⟩
  · exact ⟨⟨Tryd.t112, _, rfl, rfl, rfl, rfl, zero_ok rfl rfl, rfl⟩, ⟨_, Tryd.underlying112, rfl⟩, fun h => by cases h⟩
  · exact ⟨⟨Tryd.t113, _, rfl, rfl, rfl, rfl, zero_ok rfl rfl, rfl⟩, ⟨_, Tryd.underlying113, rfl⟩, fun h => by cases h⟩
  · exact ⟨⟨Tryd.t114, _, rfl, rfl, rfl, rfl, zero_ok rfl rfl, rfl⟩, ⟨_, Tryd.underlying114, rfl⟩, fun h => by cases h⟩
  · exact ⟨⟨Tryd.t115, _, rfl, rfl, rfl, rfl, zero_ok rfl rfl, rfl⟩, ⟨_, Tryd.underlying115, rfl⟩, fun h => by cases h⟩
  · exact ⟨⟨Tryd.t116, _, rfl, rfl, rfl, rfl, zero_ok rfl rfl, rfl⟩, ⟨_, Tryd.underlying116, rfl⟩, fun h => by cases h⟩
  · exact ⟨⟨Tryd.t117, _, rfl, rfl, rfl, rfl, zero_ok rfl rfl, rfl⟩, ⟨_, Tryd.underlying117, rfl⟩, fun h => by cases h⟩
  · exact ⟨⟨Tryd.t118, _, rfl, rfl, rfl, rfl, zero_ok rfl rfl, rfl⟩, ⟨_, Tryd.underlying118, rfl⟩, fun h => by cases h⟩
  · exact ⟨⟨Tryd.t119, _, rfl, rfl, rfl, rfl, zero_ok rfl rfl, rfl⟩, ⟨_, Tryd.underlying119, rfl⟩, fun h => by cases h⟩
  · exact ⟨⟨Tryd.t120, _, rfl, rfl, rfl, rfl, zero_ok rfl rfl, rfl⟩, ⟨_, Tryd.underlying120, rfl⟩, fun h => by cases h⟩
  · exact ⟨⟨Tryd.t121, _, rfl, rfl, rfl, rfl, zero_ok rfl rfl, rfl⟩, ⟨_, Tryd.underlying121, rfl⟩, fun h => by cases h⟩
  · exact ⟨⟨Tryd.t122, _, rfl, rfl, rfl, rfl, zero_ok rfl rfl, rfl⟩, ⟨_, Tryd.underlying122, rfl⟩, fun h => by cases h⟩
  · exact ⟨⟨Tryd.t123, _, rfl, rfl, rfl, rfl, zero_ok rfl rfl, rfl⟩, ⟨_, Tryd.underlying123, rfl⟩, fun h => by cases h⟩
  · exact ⟨⟨Tryd.t124, _, rfl, rfl, rfl, rfl, zero_ok rfl rfl, rfl⟩, ⟨_, Tryd.underlying124, rfl⟩, fun h => by cases h⟩
  · exact ⟨⟨Tryd.t125, _, rfl, rfl, rfl, rfl, zero_ok rfl rfl, rfl⟩, ⟨_, Tryd.underlying125, rfl⟩, fun h => by cases h⟩
  · exact ⟨⟨Tryd.t126, _, rfl, rfl, rfl, rfl, zero_ok rfl rfl, rfl⟩, ⟨_, Tryd.underlying126, rfl⟩, fun h => by cases h⟩
  · exact ⟨⟨Tryd.t127, _, rfl, rfl, rfl, rfl, zero_ok rfl rfl, rfl⟩, ⟨_, Tryd.underlying127, rfl⟩, fun h => by cases h⟩
  · exact ⟨⟨Tryd.t128, _, rfl, rfl, rfl, rfl, zero_ok rfl rfl, rfl⟩, ⟨_, Tryd.underlying128, rfl⟩, fun h => by cases h⟩
  · exact ⟨⟨Tryd.t129, _, rfl, rfl, rfl, rfl, zero_ok rfl rfl, rfl⟩, ⟨_, Tryd.underlying129, rfl⟩, fun h => by cases h⟩
  · exact ⟨⟨Tryd.t130, _, rfl, rfl, rfl, rfl, zero_ok rfl rfl, rfl⟩, ⟨_, Tryd.underlying130, rfl⟩, fun h => by cases h⟩
  · exact ⟨⟨Tryd.t131, _, rfl, rfl, rfl, rfl, zero_ok rfl rfl, rfl⟩, ⟨_, Tryd.underlying131, rfl⟩, fun h => by cases h⟩
  · exact ⟨⟨Tryd.t132, _, rfl, rfl, rfl, rfl, zero_ok rfl rfl, rfl⟩, ⟨_, Tryd.underlying132, rfl⟩, fun h => by cases h⟩
  · exact ⟨⟨Tryd.t134, _, rfl, rfl, rfl, rfl, zero_ok rfl rfl, rfl⟩, ⟨_, Tryd.underlying134, rfl⟩, fun h => by cases h⟩
  · exact ⟨⟨Tryd.t135, _, rfl, rfl, rfl, rfl, zero_ok rfl rfl, rfl⟩, Tryd.underlying135, fun h => by cases h⟩
  · exact ⟨⟨Tryd.t136, _, rfl, rfl, rfl, rfl, zero_ok rfl rfl, rfl⟩, ⟨_, Tryd.underlying136, rfl⟩, fun h => by cases h⟩
  · exact ⟨⟨Tryd.t137, _, rfl, rfl, rfl, rfl, zero_ok rfl rfl, rfl⟩, ⟨_, Tryd.underlying137, rfl⟩, fun h => by cases h⟩
  · exact ⟨⟨Tryd.t138, _, rfl, rfl, rfl, rfl, zero_ok rfl rfl, rfl⟩, ⟨_, Tryd.underlying138, rfl⟩, fun h => by cases h⟩
  · exact ⟨⟨Tryd.t139, _, rfl, rfl, rfl, rfl, zero_ok rfl rfl, rfl⟩, ⟨_, Tryd.underlying139, rfl⟩, fun h => by cases h⟩
  · exact ⟨⟨Tryd.t145, _, rfl, rfl, rfl, rfl, zero_ok rfl rfl, rfl⟩, ⟨_, Tryd.underlying145, rfl⟩, fun h => by cases h⟩
  · exact ⟨⟨Tryd.t148, _, rfl, rfl, rfl, rfl, zero_ok rfl rfl, rfl⟩, ⟨_, Tryd.underlying148, rfl⟩, fun h => by cases h⟩
  · exact ⟨⟨Tryd.t149, _, rfl, rfl, rfl, rfl, zero_ok rfl rfl, rfl⟩, Tryd.underlying149, fun h => by cases h⟩
  · exact ⟨⟨Tryd.t152, _, rfl, rfl, rfl, rfl, zero_ok rfl rfl, rfl⟩, ⟨_, Tryd.underlying152, rfl⟩, fun h => by cases h⟩
theorem hE : EnvOk E := ⟨ty_ok, rfl, by decide⟩
theorem hgl : GlOk E := by
  intro i d h
  change glC i = some d at h
  unfold glC at h
  split at h <;> cases h <;> rfl
theorem ty1 : E.ty 1 = some ⟨.other, 1, 8, .raw .nilFunc, false⟩ := rfl
theorem ty2 : E.ty 2 = some ⟨.int .i64, 1, 8, .int .i64 0, true⟩ := rfl
theorem ty3 : E.ty 3 = some ⟨.int .i64, 1, 8, .int .i64 0, true⟩ := rfl
theorem ty4 : E.ty 4 = some ⟨.bool, 1, 1, .bool false, true⟩ := rfl
theorem ty5 : E.ty 5 = some ⟨.int .u8, 1, 1, .int .u8 0, true⟩ := rfl
theorem ty9 : E.ty 9 = some ⟨.str, 1, 16, .str ⟨#[]⟩, true⟩ := rfl
theorem ty12 : E.ty 12 = some ⟨.int .u64, 1, 8, .int .u64 0, true⟩ := rfl
theorem ty20 : E.ty 20 = some ⟨.other, 1, 16, .raw .nilIface, false⟩ := rfl
theorem ty21 : E.ty 21 = some ⟨.int .i32, 1, 4, .int .i32 0, true⟩ := rfl
theorem ty22 : E.ty 22 = some ⟨.slice 26, 1, 24, .sl .full 0 [], false⟩ := rfl
theorem ty23 : E.ty 23 = some ⟨.other, 1, 8, .raw .nilFunc, false⟩ := rfl
theorem ty24 : E.ty 24 = some ⟨.other, 1, 8, .raw .nilFunc, false⟩ := rfl
theorem ty25 : E.ty 25 = some ⟨.arr 32 5, 32, 32, .arr .u8 32 (List.replicate 32 0), true⟩ := rfl
theorem ty26 : E.ty 26 = some ⟨.arr 32 5, 32, 32, .arr .u8 32 (List.replicate 32 0), true⟩ := rfl
theorem ty28 : E.ty 28 = some ⟨.other, 1, 8, .raw .nilFunc, false⟩ := rfl
theorem ty29 : E.ty 29 = some ⟨.other, 1, 8, .raw .nilFunc, false⟩ := rfl
theorem ty30 : E.ty 30 = some ⟨.other, 1, 8, .raw .nilFunc, false⟩ := rfl
theorem ty31 : E.ty 31 = some ⟨.slice 52, 1, 24, .sl .full 0 [], false⟩ := rfl
theorem ty32 : E.ty 32 = some ⟨.other, 1, 8, .raw .nilFunc, false⟩ := rfl
theorem ty33 : E.ty 33 = some ⟨.other, 1, 8, .raw .nilFunc, false⟩ := rfl
theorem ty34 : E.ty 34 = some ⟨.st [(0, 26), (32, 3), (33, 3), (34, 22)], 35, 72, .agg [.arr .u8 32 (List.replicate 32 0), .int .i64 0, .int .i64 0, .sl .full 0 []], false⟩ := rfl
theorem ty35 : E.ty 35 = some ⟨.st [(0, 26), (32, 3), (33, 3), (34, 22)], 35, 72, .agg [.arr .u8 32 (List.replicate 32 0), .int .i64 0, .int .i64 0, .sl .full 0 []], false⟩ := rfl
theorem ty37 : E.ty 37 = some ⟨.other, 1, 8, .raw .nilFunc, false⟩ := rfl
theorem ty38 : E.ty 38 = some ⟨.other, 1, 8, .raw .nilFunc, false⟩ := rfl
theorem ty39 : E.ty 39 = some ⟨.other, 1, 8, .raw .nilFunc, false⟩ := rfl
theorem ty40 : E.ty 40 = some ⟨.other, 1, 8, .raw .nilFunc, false⟩ := rfl
theorem ty41 : E.ty 41 = some ⟨.other, 1, 8, .raw .nilFunc, false⟩ := rfl
theorem ty42 : E.ty 42 = some ⟨.int .u32, 1, 4, .int .u32 0, true⟩ := rfl
theorem ty43 : E.ty 43 = some ⟨.st [(0, 42), (1, 26), (33, 26), (65, 42), (66, 42), (67, 42)], 68, 80, .agg [.int .u32 0, .arr .u8 32 (List.replicate 32 0), .arr .u8 32 (List.replicate 32 0), .int .u32 0, .int .u32 0, .int .u32 0], true⟩ := rfl
theorem ty44 : E.ty 44 = some ⟨.st [(0, 42), (1, 26), (33, 26), (65, 42), (66, 42), (67, 42)], 68, 80, .agg [.int .u32 0, .arr .u8 32 (List.replicate 32 0), .arr .u8 32 (List.replicate 32 0), .int .u32 0, .int .u32 0, .int .u32 0], true⟩ := rfl
theorem ty45 : E.ty 45 = some ⟨.slice 61, 1, 24, .sl .full 0 [], false⟩ := rfl
theorem ty46 : E.ty 46 = some ⟨.st [(0, 44), (68, 45)], 69, 104, .agg [.agg [.int .u32 0, .arr .u8 32 (List.replicate 32 0), .arr .u8 32 (List.replicate 32 0), .int .u32 0, .int .u32 0, .int .u32 0], .sl .full 0 []], false⟩ := rfl
theorem ty47 : E.ty 47 = some ⟨.st [(0, 44), (68, 45)], 69, 104, .agg [.agg [.int .u32 0, .arr .u8 32 (List.replicate 32 0), .arr .u8 32 (List.replicate 32 0), .int .u32 0, .int .u32 0, .int .u32 0], .sl .full 0 []], false⟩ := rfl
theorem ty48 : E.ty 48 = some ⟨.other, 1, 8, .raw .nilFunc, false⟩ := rfl
theorem ty49 : E.ty 49 = some ⟨.other, 1, 8, .raw .nilFunc, false⟩ := rfl
theorem ty50 : E.ty 50 = some ⟨.other, 1, 8, .raw .nilFunc, false⟩ := rfl
theorem ty51 : E.ty 51 = some ⟨.other, 1, 8, .raw .nilFunc, false⟩ := rfl
theorem ty52 : E.ty 52 = some ⟨.slice 5, 1, 24, .sl .full 0 [], false⟩ := rfl
theorem ty53 : E.ty 53 = some ⟨.other, 1, 8, .raw .nilFunc, false⟩ := rfl
theorem ty54 : E.ty 54 = some ⟨.other, 1, 8, .raw .nilFunc, false⟩ := rfl
theorem ty55 : E.ty 55 = some ⟨.other, 1, 8, .raw .nilFunc, false⟩ := rfl
theorem ty56 : E.ty 56 = some ⟨.other, 1, 8, .raw .nilFunc, false⟩ := rfl
theorem ty57 : E.ty 57 = some ⟨.other, 1, 8, .raw .nilFunc, false⟩ := rfl
theorem ty58 : E.ty 58 = some ⟨.slice 65, 1, 24, .sl .full 0 [], false⟩ := rfl
theorem ty59 : E.ty 59 = some ⟨.slice 67, 1, 24, .sl .full 0 [], false⟩ := rfl
theorem ty60 : E.ty 60 = some ⟨.st [(0, 42), (1, 58), (2, 59), (3, 42)], 4, 64, .agg [.int .u32 0, .sl .full 0 [], .sl .full 0 [], .int .u32 0], false⟩ := rfl
theorem ty61 : E.ty 61 = some ⟨.st [(0, 42), (1, 58), (2, 59), (3, 42)], 4, 64, .agg [.int .u32 0, .sl .full 0 [], .sl .full 0 [], .int .u32 0], false⟩ := rfl
theorem ty62 : E.ty 62 = some ⟨.st [(0, 26), (32, 42)], 33, 36, .agg [.arr .u8 32 (List.replicate 32 0), .int .u32 0], true⟩ := rfl
theorem ty63 : E.ty 63 = some ⟨.st [(0, 26), (32, 42)], 33, 36, .agg [.arr .u8 32 (List.replicate 32 0), .int .u32 0], true⟩ := rfl
theorem ty64 : E.ty 64 = some ⟨.st [(0, 63), (33, 52), (34, 42), (35, 31)], 36, 96, .agg [.agg [.arr .u8 32 (List.replicate 32 0), .int .u32 0], .sl .full 0 [], .int .u32 0, .sl .full 0 []], false⟩ := rfl
theorem ty65 : E.ty 65 = some ⟨.st [(0, 63), (33, 52), (34, 42), (35, 31)], 36, 96, .agg [.agg [.arr .u8 32 (List.replicate 32 0), .int .u32 0], .sl .full 0 [], .int .u32 0, .sl .full 0 []], false⟩ := rfl
theorem ty66 : E.ty 66 = some ⟨.st [(0, 2), (1, 52)], 2, 32, .agg [.int .i64 0, .sl .full 0 []], false⟩ := rfl
theorem ty67 : E.ty 67 = some ⟨.st [(0, 2), (1, 52)], 2, 32, .agg [.int .i64 0, .sl .full 0 []], false⟩ := rfl
theorem ty68 : E.ty 68 = some ⟨.other, 1, 8, .raw .nilFunc, false⟩ := rfl
theorem ty69 : E.ty 69 = some ⟨.other, 1, 8, .raw .nilFunc, false⟩ := rfl
theorem ty70 : E.ty 70 = some ⟨.other, 1, 8, .raw .nilFunc, false⟩ := rfl
theorem ty71 : E.ty 71 = some ⟨.other, 1, 8, .raw .nilFunc, false⟩ := rfl
theorem ty72 : E.ty 72 = some ⟨.other, 1, 8, .raw .nilFunc, false⟩ := rfl
theorem ty73 : E.ty 73 = some ⟨.other, 1, 8, .raw .nilFunc, false⟩ := rfl
theorem ty74 : E.ty 74 = some ⟨.other, 1, 8, .raw .nilFunc, false⟩ := rfl
theorem ty75 : E.ty 75 = some ⟨.other, 1, 8, .raw .nilFunc, false⟩ := rfl
theorem ty76 : E.ty 76 = some ⟨.other, 1, 8, .raw .nilFunc, false⟩ := rfl
theorem ty77 : E.ty 77 = some ⟨.other, 1, 8, .raw .nilFunc, false⟩ := rfl
theorem ty78 : E.ty 78 = some ⟨.other, 1, 8, .raw .nilFunc, false⟩ := rfl
theorem ty79 : E.ty 79 = some ⟨.other, 1, 8, .raw .nilFunc, false⟩ := rfl
theorem ty80 : E.ty 80 = some ⟨.other, 1, 8, .raw .nilFunc, false⟩ := rfl
theorem ty81 : E.ty 81 = some ⟨.st [(0, 42), (1, 42), (2, 42), (3, 42), (4, 42), (5, 42), (6, 42), (7, 42)], 8, 32, .agg [.int .u32 0, .int .u32 0, .int .u32 0, .int .u32 0, .int .u32 0, .int .u32 0, .int .u32 0, .int .u32 0], true⟩ := rfl
theorem ty82 : E.ty 82 = some ⟨.st [(0, 42), (1, 42), (2, 42), (3, 42), (4, 42), (5, 42), (6, 42), (7, 42)], 8, 32, .agg [.int .u32 0, .int .u32 0, .int .u32 0, .int .u32 0, .int .u32 0, .int .u32 0, .int .u32 0, .int .u32 0], true⟩ := rfl
theorem ty83 : E.ty 83 = some ⟨.other, 1, 8, .raw .nilFunc, false⟩ := rfl
theorem ty84 : E.ty 84 = some ⟨.other, 1, 8, .raw .nilFunc, false⟩ := rfl
theorem ty85 : E.ty 85 = some ⟨.other, 1, 8, .raw .nilFunc, false⟩ := rfl
theorem ty86 : E.ty 86 = some ⟨.slice 42, 1, 24, .sl .full 0 [], false⟩ := rfl
theorem ty87 : E.ty 87 = some ⟨.other, 1, 8, .raw .nilFunc, false⟩ := rfl
theorem ty88 : E.ty 88 = some ⟨.other, 1, 8, .raw .nilFunc, false⟩ := rfl
theorem ty89 : E.ty 89 = some ⟨.other, 1, 8, .raw .nilFunc, false⟩ := rfl
theorem ty90 : E.ty 90 = some ⟨.int .i64, 1, 8, .int .i64 0, true⟩ := rfl
theorem ty92 : E.ty 92 = some ⟨.other, 1, 8, .raw .nilFunc, false⟩ := rfl
theorem ty94 : E.ty 94 = some ⟨.other, 1, 8, .raw .nilFunc, false⟩ := rfl
theorem ty95 : E.ty 95 = some ⟨.other, 1, 8, .raw .nilFunc, false⟩ := rfl
theorem ty96 : E.ty 96 = some ⟨.arr 8 42, 8, 32, .arr .u32 8 (List.replicate 8 0), true⟩ := rfl
theorem ty97 : E.ty 97 = some ⟨.int .u64, 1, 8, .int .u64 0, true⟩ := rfl
theorem ty98 : E.ty 98 = some ⟨.int .u64, 1, 8, .int .u64 0, true⟩ := rfl
theorem ty99 : E.ty 99 = some ⟨.other, 1, 8, .raw .nilFunc, false⟩ := rfl
theorem ty100 : E.ty 100 = some ⟨.other, 1, 8, .raw .nilFunc, false⟩ := rfl
theorem ty101 : E.ty 101 = some ⟨.other, 1, 8, .raw .nilFunc, false⟩ := rfl
theorem ty102 : E.ty 102 = some ⟨.other, 1, 8, .raw .nilFunc, false⟩ := rfl
theorem ty103 : E.ty 103 = some ⟨.other, 1, 8, .raw .nilFunc, false⟩ := rfl
theorem ty104 : E.ty 104 = some ⟨.other, 1, 8, .raw .nilFunc, false⟩ := rfl
theorem ty105 : E.ty 105 = some ⟨.other, 1, 8, .raw .nilFunc, false⟩ := rfl
theorem ty106 : E.ty 106 = some ⟨.other, 1, 8, .raw .nilFunc, false⟩ := rfl
theorem ty107 : E.ty 107 = some ⟨.other, 1, 8, .raw .nilFunc, false⟩ := rfl
theorem ty108 : E.ty 108 = some ⟨.other, 1, 8, .raw .nilFunc, false⟩ := rfl
theorem ty109 : E.ty 109 = some ⟨.arr 64 42, 64, 256, .arr .u32 64 (List.replicate 64 0), true⟩ := rfl
theorem ty110 : E.ty 110 = some ⟨.other, 1, 8, .raw .nilFunc, false⟩ := rfl
theorem ty111 : E.ty 111 = some ⟨.other, 1, 8, .raw .nilFunc, false⟩ := rfl
theorem ty112 : E.ty 112 = some ⟨.other, 1, 8, .raw .nilFunc, false⟩ := rfl
theorem ty113 : E.ty 113 = some ⟨.other, 1, 8, .raw .nilFunc, false⟩ := rfl
theorem ty114 : E.ty 114 = some ⟨.other, 1, 8, .raw .nilFunc, false⟩ := rfl
theorem ty115 : E.ty 115 = some ⟨.other, 1, 8, .raw .nilFunc, false⟩ := rfl
theorem ty116 : E.ty 116 = some ⟨.other, 1, 8, .raw .nilFunc, false⟩ := rfl
theorem ty117 : E.ty 117 = some ⟨.other, 1, 8, .raw .nilFunc, false⟩ := rfl
theorem ty118 : E.ty 118 = some ⟨.other, 1, 8, .raw .nilFunc, false⟩ := rfl
theorem ty119 : E.ty 119 = some ⟨.other, 1, 8, .raw .nilFunc, false⟩ := rfl
theorem ty120 : E.ty 120 = some ⟨.other, 1, 8, .raw .nilFunc, false⟩ := rfl
theorem ty121 : E.ty 121 = some ⟨.other, 1, 8, .raw .nilFunc, false⟩ := rfl
theorem ty122 : E.ty 122 = some ⟨.other, 1, 8, .raw .nilFunc, false⟩ := rfl
theorem ty123 : E.ty 123 = some ⟨.other, 1, 8, .raw .nilFunc, false⟩ := rfl
theorem ty124 : E.ty 124 = some ⟨.other, 1, 8, .raw .nilFunc, false⟩ := rfl
theorem ty125 : E.ty 125 = some ⟨.other, 1, 8, .raw .nilFunc, false⟩ := rfl
theorem ty126 : E.ty 126 = some ⟨.other, 1, 8, .raw .nilFunc, false⟩ := rfl
theorem ty127 : E.ty 127 = some ⟨.other, 1, 8, .raw .nilFunc, false⟩ := rfl
theorem ty128 : E.ty 128 = some ⟨.other, 1, 8, .raw .nilFunc, false⟩ := rfl
theorem ty129 : E.ty 129 = some ⟨.other, 1, 8, .raw .nilFunc, false⟩ := rfl
theorem ty130 : E.ty 130 = some ⟨.other, 1, 8, .raw .nilFunc, false⟩ := rfl
theorem ty131 : E.ty 131 = some ⟨.other, 1, 8, .raw .nilFunc, false⟩ := rfl
theorem ty132 : E.ty 132 = some ⟨.other, 1, 8, .raw .nilFunc, false⟩ := rfl
theorem ty134 : E.ty 134 = some ⟨.other, 1, 8, .raw .nilFunc, false⟩ := rfl
theorem ty135 : E.ty 135 = some ⟨.slice 3, 1, 24, .sl .full 0 [], false⟩ := rfl
theorem ty136 : E.ty 136 = some ⟨.other, 1, 8, .raw .nilFunc, false⟩ := rfl
theorem ty137 : E.ty 137 = some ⟨.other, 1, 8, .raw .nilFunc, false⟩ := rfl
theorem ty138 : E.ty 138 = some ⟨.other, 1, 8, .raw .nilFunc, false⟩ := rfl
theorem ty139 : E.ty 139 = some ⟨.other, 1, 8, .raw .nilFunc, false⟩ := rfl
theorem ty145 : E.ty 145 = some ⟨.other, 1, 8, .raw .nilFunc, false⟩ := rfl
theorem ty148 : E.ty 148 = some ⟨.other, 1, 8, .raw .nilFunc, false⟩ := rfl
theorem ty149 : E.ty 149 = some ⟨.ptr 5, 1, 8, .raw (.pointer none), false⟩ := rfl
theorem ty152 : E.ty 152 = some ⟨.st [(0, 12), (1, 12), (2, 42), (3, 146), (4, 5), (5, 5), (6, 147), (7, 148), (8, 149), (9, 150), (10, 151)], 11, 48, .agg [.int .u64 0, .int .u64 0, .int .u32 0, .int .u8 0, .int .u8 0, .int .u8 0, .int .u8 0, .raw .nilFunc, .raw (.pointer none), .int .i32 0, .int .i32 0], false⟩ := rfl
theorem tys : (type_of% ty1) ∧ (type_of% ty2) ∧ (type_of% ty3) ∧ (type_of% ty4) ∧ (type_of% ty5) ∧ (type_of% ty9) ∧ (type_of% ty12) ∧ (type_of% ty20) ∧ (type_of% ty21) ∧ (type_of% ty22) ∧ (type_of% ty23) ∧ (type_of% ty24) ∧ (type_of% ty25) ∧ (type_of% ty26) ∧ (type_of% ty28) ∧ (type_of% ty29) ∧ (type_of% ty30) ∧ (type_of% ty31) ∧ (type_of% ty32) ∧ (type_of% ty33) ∧ (type_of% ty34) ∧ (type_of% ty35) ∧ (type_of% ty37) ∧ (type_of% ty38) ∧ (type_of% ty39) ∧ (type_of% ty40) ∧ (type_of% ty41) ∧ (type_of% ty42) ∧ (type_of% ty43) ∧ (type_of% ty44) ∧ (type_of% ty45) ∧ (type_of% ty46) ∧ (type_of% ty47) ∧ (type_of% ty48) ∧ (type_of% ty49) ∧ (type_of% ty50) ∧ (type_of% ty51) ∧ (type_of% ty52) ∧ (type_of% ty53) ∧ (type_of% ty54) ∧ (type_of% ty55) ∧ (type_of% ty56) ∧ (type_of% ty57) ∧ (type_of% ty58) ∧ (type_of% ty59) ∧ (type_of% ty60) ∧ (type_of% ty61) ∧ (type_of% ty62) ∧ (type_of% ty63) ∧ (type_of% ty64) ∧ (type_of% ty65) ∧ (type_of% ty66) ∧ (type_of% ty67) ∧ (type_of% ty68) ∧ (type_of% ty69) ∧ (type_of% ty70) ∧ (type_of% ty71) ∧ (type_of% ty72) ∧ (type_of% ty73) ∧ (type_of% ty74) ∧ (type_of% ty75) ∧ (type_of% ty76) ∧ (type_of% ty77) ∧ (type_of% ty78) ∧ (type_of% ty79) ∧ (type_of% ty80) ∧ (type_of% ty81) ∧ (type_of% ty82) ∧ (type_of% ty83) ∧ (type_of% ty84) ∧ (type_of% ty85) ∧ (type_of% ty86) ∧ (type_of% ty87) ∧ (type_of% ty88) ∧ (type_of% ty89) ∧ (type_of% ty90) ∧ (type_of% ty92) ∧ (type_of% ty94) ∧ (type_of% ty95) ∧ (type_of% ty96) ∧ (type_of% ty97) ∧ (type_of% ty98) ∧ (type_of% ty99) ∧ (type_of% ty100) ∧ (type_of% ty101) ∧ (type_of% ty102) ∧ (type_of% ty103) ∧ (type_of% ty104) ∧ (type_of% ty105) ∧ (type_of% ty106) ∧ (type_of% ty107) ∧ (type_of% ty108) ∧ (type_of% ty109) ∧ (type_of% ty110) ∧ (type_of% ty111) ∧ (type_of% ty112) ∧ (type_of% ty113) ∧ (type_of% ty114) ∧ (type_of% ty115) ∧ (type_of% ty116) ∧ (type_of% ty117) ∧ (type_of% ty118) ∧ (type_of% ty119) ∧ (type_of% ty120) ∧ (type_of% ty121) ∧ (type_of% ty122) ∧ (type_of% ty123) ∧ (type_of% ty124) ∧ (type_of% ty125) ∧ (type_of% ty126) ∧ (type_of% ty127) ∧ (type_of% ty128) ∧ (type_of% ty129) ∧ (type_of% ty130) ∧ (type_of% ty131) ∧ (type_of% ty132) ∧ (type_of% ty134) ∧ (type_of% ty135) ∧ (type_of% ty136) ∧ (type_of% ty137) ∧ (type_of% ty138) ∧ (type_of% ty139) ∧ (type_of% ty145) ∧ (type_of% ty148) ∧ (type_of% ty149) ∧ (type_of% ty152) := ⟨ty1, ty2, ty3, ty4, ty5, ty9, ty12, ty20, ty21, ty22, ty23, ty24, ty25, ty26, ty28, ty29, ty30, ty31, ty32, ty33, ty34, ty35, ty37, ty38, ty39, ty40, ty41, ty42, ty43, ty44, ty45, ty46, ty47, ty48, ty49, ty50, ty51, ty52, ty53, ty54, ty55, ty56, ty57, ty58, ty59, ty60, ty61, ty62, ty63, ty64, ty65, ty66, ty67, ty68, ty69, ty70, ty71, ty72, ty73, ty74, ty75, ty76, ty77, ty78, ty79, ty80, ty81, ty82, ty83, ty84, ty85, ty86, ty87, ty88, ty89, ty90, ty92, ty94, ty95, ty96, ty97, ty98, ty99, ty100, ty101, ty102, ty103, ty104, ty105, ty106, ty107, ty108, ty109, ty110, ty111, ty112, ty113, ty114, ty115, ty116, ty117, ty118, ty119, ty120, ty121, ty122, ty123, ty124, ty125, ty126, ty127, ty128, ty129, ty130, ty131, ty132, ty134, ty135, ty136, ty137, ty138, ty139, ty145, ty148, ty149, ty152⟩
theorem gl0 : E.gl 0 = some (.arr .u32 64 kList) := rfl
theorem spec_first (args : List D) (s : S) (nm : Nat) : E.T 58 args s nm = seeR sp_first (nilK [] args) s := rfl
theorem b_first : hasBody E 58 := ⟨_, Tryd.func58, rfl, rfl⟩
theorem spec_refRoundNumbers (args : List D) (s : S) (nm : Nat) : E.T 62 args s nm = seeR sp_refRoundNumbers (nilK [] args) s := rfl
theorem b_refRoundNumbers : hasBody E 62 := ⟨_, Tryd.func62, rfl, rfl⟩
theorem spec_refFirst (args : List D) (s : S) (nm : Nat) : E.T 63 args s nm = seeR sp_refFirst (nilK [] args) s := rfl
theorem b_refFirst : hasBody E 63 := ⟨_, Tryd.func63, rfl, rfl⟩
theorem spec_refChange (args : List D) (s : S) (nm : Nat) : E.T 64 args s nm = seeR sp_refChange (nilK [some .u32, some .u8, some .u32] args) s := rfl
theorem b_refChange : hasBody E 64 := ⟨_, Tryd.func64, rfl, rfl⟩
theorem spec_closing (args : List D) (s : S) (nm : Nat) : E.T 68 args s nm = seeR sp_closing (nilK [] args) s := rfl
theorem b_closing : hasBody E 68 := ⟨_, Tryd.func68, rfl, rfl⟩
theorem spec_refNumber (args : List D) (s : S) (nm : Nat) : E.T 70 args s nm = seeR sp_refNumber (nilK [some .u8, some .u32] args) s := rfl
theorem b_refNumber : hasBody E 70 := ⟨_, Tryd.func70, rfl, rfl⟩
theorem spec_three (args : List D) (s : S) (nm : Nat) : E.T 71 args s nm = seeR sp_three (nilK [] args) s := rfl
theorem b_three : hasBody E 71 := ⟨_, Tryd.func71, rfl, rfl⟩
theorem spec_Right (args : List D) (s : S) (nm : Nat) : E.T 72 args s nm = seeR sp_Right (nilK [] args) s := rfl
theorem b_Right : hasBody E 72 := ⟨_, Tryd.func72, rfl, rfl⟩
theorem spec_Shift (args : List D) (s : S) (nm : Nat) : E.T 82 args s nm = seeR sp_Shift (nilK [] args) s := rfl
theorem b_Shift : hasBody E 82 := ⟨_, Tryd.func82, rfl, rfl⟩
theorem spec_round (args : List D) (s : S) (nm : Nat) : E.T 80 args s nm = seeR sp_round (nilK [] args) s := rfl
theorem b_round : hasBody E 80 := ⟨_, Tryd.func80, rfl, rfl⟩
theorem spec_plus (args : List D) (s : S) (nm : Nat) : E.T 81 args s nm = seeR sp_plus (nilK [] args) s := rfl
theorem b_plus : hasBody E 81 := ⟨_, Tryd.func81, rfl, rfl⟩
theorem spec_turned (args : List D) (s : S) (nm : Nat) : E.T 100 args s nm = seeR sp_turned (nilK [none, some .i64] args) s := rfl
theorem b_turned : hasBody E 100 := ⟨_, Tryd.func100, rfl, rfl⟩
theorem spec_rotl (args : List D) (s : S) (nm : Nat) : E.T 107 args s nm = seeR sp_rotl (nilK [] args) s := rfl
theorem b_rotl : hasBody E 107 := ⟨_, Tryd.func107, rfl, rfl⟩
theorem spec_refClosing (args : List D) (s : S) (nm : Nat) : E.T 61 args s nm = seeR sp_refClosing (nilK [] args) s := rfl
theorem b_refClosing : hasBody E 61 := ⟨_, Tryd.func61, rfl, rfl⟩
theorem spec_refSum (args : List D) (s : S) (nm : Nat) : E.T 51 args s nm = seeR sp_refSum (nilK [some .u8] args) s := rfl
theorem b_refSum : hasBody E 51 := ⟨_, Tryd.func51, rfl, rfl⟩
theorem spec_refTwice (args : List D) (s : S) (nm : Nat) : E.T 43 args s nm = seeR sp_refTwice (nilK [some .u8] args) s := rfl
theorem b_refTwice : hasBody E 43 := ⟨_, Tryd.func43, rfl, rfl⟩
theorem spec_numbers (args : List D) (s : S) (nm : Nat) : E.T 79 args s nm = boxF (sp_numbers 99) args s nm := rfl
theorem b_numbers : hasBody E 79 := ⟨_, Tryd.func79, rfl, rfl⟩
theorem spec_next (args : List D) (s : S) (nm : Nat) : E.T 99 args s nm = boxF sp_next args s nm := rfl
theorem b_next : hasBody E 99 := ⟨_, Tryd.func99, rfl, rfl⟩
theorem spec_change (args : List D) (s : S) (nm : Nat) : E.T 69 args s nm = seeR sp_change (nilK [none, some .u8] args) s := rfl
theorem b_change : hasBody E 69 := ⟨_, Tryd.func69, rfl, rfl⟩
theorem spec_digest (args : List D) (s : S) (nm : Nat) : E.T 59 args s nm = seeR sp_digest (nilK [none, none, some .u8] args) s := rfl
theorem b_digest : hasBody E 59 := ⟨_, Tryd.func59, rfl, rfl⟩
theorem spec_sum (args : List D) (s : S) (nm : Nat) : E.T 49 args s nm = seeR sp_sum (nilK [some .u8] args) s := rfl
theorem b_sum : hasBody E 49 := ⟨_, Tryd.func49, rfl, rfl⟩
theorem spec_again (args : List D) (s : S) (nm : Nat) : E.T 48 args s nm = seeR sp_again (nilK [] args) s := rfl
theorem b_again : hasBody E 48 := ⟨_, Tryd.func48, rfl, rfl⟩
theorem spec_twice (args : List D) (s : S) (nm : Nat) : E.T 32 args s nm = seeR sp_twice (nilK [some .u8] args) s := rfl
theorem b_twice : hasBody E 32 := ⟨_, Tryd.func32, rfl, rfl⟩
theorem spec_pair (args : List D) (s : S) (nm : Nat) : E.T 42 args s nm = seeR sp_pair (nilK [] args) s := rfl
theorem b_pair : hasBody E 42 := ⟨_, Tryd.func42, rfl, rfl⟩
theorem spec_chunk (args : List D) (s : S) (nm : Nat) : E.T 50 args s nm = seeR (sp_chunk 60) (nilK [] args) s := rfl
theorem b_chunk : hasBody E 50 := ⟨_, Tryd.func50, rfl, rfl⟩
theorem spec_rootEach (args : List D) (s : S) (nm : Nat) : E.T 34 args s nm = boxF sp_rootEach args s nm := rfl
theorem b_rootEach : hasBody E 34 := ⟨_, Tryd.func34, rfl, rfl⟩
theorem spec_textsEach (args : List D) (s : S) (nm : Nat) : E.T 36 args s nm = boxF sp_textsEach args s nm := rfl
theorem b_textsEach : hasBody E 36 := ⟨_, Tryd.func36, rfl, rfl⟩
theorem spec_rows (args : List D) (s : S) (nm : Nat) : E.T 33 args s nm = boxF (sp_rows 34 36 39) args s nm := rfl
theorem b_rows : hasBody E 33 := ⟨_, Tryd.func33, rfl, rfl⟩
theorem spec_root (args : List D) (s : S) (nm : Nat) : E.T 12 args s nm = seeR sp_root (nilK [] args) s := rfl
theorem b_root : hasBody E 12 := ⟨_, Tryd.func12, rfl, rfl⟩
theorem spec_texts (args : List D) (s : S) (nm : Nat) : E.T 15 args s nm = seeR sp_texts (nilK [] args) s := rfl
theorem b_texts : hasBody E 15 := ⟨_, Tryd.func15, rfl, rfl⟩
theorem spec_works (args : List D) (s : S) (nm : Nat) : E.T 11 args s nm = seeR sp_works (nilK [] args) s := rfl
theorem b_works : hasBody E 11 := ⟨_, Tryd.func11, rfl, rfl⟩
theorem spec_cut (args : List D) (s : S) (nm : Nat) : E.T 10 args s nm = seeR sp_cut (nilK [] args) s := rfl
theorem b_cut : hasBody E 10 := ⟨_, Tryd.func10, rfl, rfl⟩
theorem spec_same (args : List D) (s : S) (nm : Nat) : E.T 18 args s nm = seeR sp_same (nilK [] args) s := rfl
theorem b_same : hasBody E 18 := ⟨_, Tryd.func18, rfl, rfl⟩
theorem spec_clash (args : List D) (s : S) (nm : Nat) : E.T 19 args s nm = seeR sp_clash (nilK [] args) s := rfl
theorem b_clash : hasBody E 19 := ⟨_, Tryd.func19, rfl, rfl⟩
theorem spec_lawMTwice (args : List D) (s : S) (nm : Nat) : E.T 3 args s nm = seeR sp_lawMTwice (nilK [] args) s := rfl
theorem b_lawMTwice : hasBody E 3 := ⟨_, Tryd.func3, rfl, rfl⟩
theorem spec_lawMApart (args : List D) (s : S) (nm : Nat) : E.T 5 args s nm = seeR sp_lawMApart (nilK [] args) s := rfl
theorem b_lawMApart : hasBody E 5 := ⟨_, Tryd.func5, rfl, rfl⟩
theorem spec_refPartner (args : List D) (s : S) (nm : Nat) : E.T 38 args s nm = seeR sp_refPartner (nilK [] args) s := rfl
theorem b_refPartner : hasBody E 38 := ⟨_, Tryd.func38, rfl, rfl⟩
theorem spec_refMText (args : List D) (s : S) (nm : Nat) : E.T 37 args s nm = seeR sp_refMText (nilK [] args) s := rfl
theorem b_refMText : hasBody E 37 := ⟨_, Tryd.func37, rfl, rfl⟩
theorem spec_refAbove (args : List D) (s : S) (nm : Nat) : E.T 35 args s nm = seeR sp_refAbove (nilK [] args) s := rfl
theorem b_refAbove : hasBody E 35 := ⟨_, Tryd.func35, rfl, rfl⟩
theorem spec_refRoot (args : List D) (s : S) (nm : Nat) : E.T 13 args s nm = seeR sp_refRoot (nilK [] args) s := rfl
theorem b_refRoot : hasBody E 13 := ⟨_, Tryd.func13, rfl, rfl⟩
theorem spec_refTexts (args : List D) (s : S) (nm : Nat) : E.T 16 args s nm = seeR sp_refTexts (nilK [] args) s := rfl
theorem b_refTexts : hasBody E 16 := ⟨_, Tryd.func16, rfl, rfl⟩
theorem spec_refSame (args : List D) (s : S) (nm : Nat) : E.T 14 args s nm = seeR sp_refSame (nilK [] args) s := rfl
theorem b_refSame : hasBody E 14 := ⟨_, Tryd.func14, rfl, rfl⟩
theorem spec_hashes (args : List D) (s : S) (nm : Nat) : E.T 17 args s nm = seeR sp_hashes (nilK [] args) s := rfl
theorem b_hashes : hasBody E 17 := ⟨_, Tryd.func17, rfl, rfl⟩
theorem spec_lawMRoots (args : List D) (s : S) (nm : Nat) : E.T 4 args s nm = seeR sp_lawMRoots (nilK [] args) s := rfl
theorem b_lawMRoots : hasBody E 4 := ⟨_, Tryd.func4, rfl, rfl⟩
theorem spec_alone (args : List D) (s : S) (nm : Nat) : E.T 41 args s nm = seeR sp_alone (nilK [] args) s := rfl
theorem b_alone : hasBody E 41 := ⟨_, Tryd.func41, rfl, rfl⟩
theorem spec_needs (args : List D) (s : S) (nm : Nat) : E.T 40 args s nm = seeR sp_needs (nilK [] args) s := rfl
theorem b_needs : hasBody E 40 := ⟨_, Tryd.func40, rfl, rfl⟩
theorem spec_fold (args : List D) (s : S) (nm : Nat) : E.T 22 args s nm = seeR sp_fold (nilK [] args) s := rfl
theorem b_fold : hasBody E 22 := ⟨_, Tryd.func22, rfl, rfl⟩
theorem spec_refFold (args : List D) (s : S) (nm : Nat) : E.T 23 args s nm = seeR sp_refFold (nilK [] args) s := rfl
theorem b_refFold : hasBody E 23 := ⟨_, Tryd.func23, rfl, rfl⟩
theorem spec_branch (args : List D) (s : S) (nm : Nat) : E.T 20 args s nm = seeR sp_branch (nilK [] args) s := rfl
theorem b_branch : hasBody E 20 := ⟨_, Tryd.func20, rfl, rfl⟩
theorem spec_refBranch (args : List D) (s : S) (nm : Nat) : E.T 21 args s nm = seeR sp_refBranch (nilK [] args) s := rfl
theorem b_refBranch : hasBody E 21 := ⟨_, Tryd.func21, rfl, rfl⟩
theorem spec_branchEach (args : List D) (s : S) (nm : Nat) : E.T 39 args s nm = boxF sp_branchEach args s nm := rfl
theorem b_branchEach : hasBody E 39 := ⟨_, Tryd.func39, rfl, rfl⟩
theorem spec_lawMBranches (args : List D) (s : S) (nm : Nat) : E.T 6 args s nm = seeR sp_lawMBranches (nilK [] args) s := rfl
theorem b_lawMBranches : hasBody E 6 := ⟨_, Tryd.func6, rfl, rfl⟩
theorem spec_near (args : List D) (s : S) (nm : Nat) : E.T 24 args s nm = seeR sp_near (nilK [] args) s := rfl
theorem b_near : hasBody E 24 := ⟨_, Tryd.func24, rfl, rfl⟩
theorem spec_folded (args : List D) (s : S) (nm : Nat) : E.T 25 args s nm = seeR sp_folded (nilK [] args) s := rfl
theorem b_folded : hasBody E 25 := ⟨_, Tryd.func25, rfl, rfl⟩
theorem spec_lawMProves (args : List D) (s : S) (nm : Nat) : E.T 7 args s nm = seeR sp_lawMProves (nilK [] args) s := rfl
theorem b_lawMProves : hasBody E 7 := ⟨_, Tryd.func7, rfl, rfl⟩
theorem spec_join (args : List D) (s : S) (nm : Nat) : E.T 31 args s nm = seeR sp_join (nilK [] args) s := rfl
theorem b_join : hasBody E 31 := ⟨_, Tryd.func31, rfl, rfl⟩
theorem spec_commitment (args : List D) (s : S) (nm : Nat) : E.T 27 args s nm = seeR sp_commitment (nilK [] args) s := rfl
theorem b_commitment : hasBody E 27 := ⟨_, Tryd.func27, rfl, rfl⟩
theorem spec_wanted (args : List D) (s : S) (nm : Nat) : E.T 29 args s nm = seeR sp_wanted (nilK [] args) s := rfl
theorem b_wanted : hasBody E 29 := ⟨_, Tryd.func29, rfl, rfl⟩
theorem spec_lawMKnown (args : List D) (s : S) (nm : Nat) : E.T 9 args s nm = seeR sp_lawMKnown (nilK [] args) s := rfl
theorem b_lawMKnown : hasBody E 9 := ⟨_, Tryd.func9, rfl, rfl⟩
end Go.Vi.C8
end

section
set_option linter.unusedVariables false
set_option linter.unusedSimpArgs false
set_option maxHeartbeats 0
set_option maxRecDepth 20000
namespace Go.Vi.C8
open Go.Proofs

theorem u64_ge (n : Int) : 0 ≤ IntKind.wrap .u64 n := by rw [IntKind.wrap_u64]; omega
theorem turnedI_take (x : Int) (ns : List Int) (i : Nat) (h : i < ns.length) : turnedI x (ns.take (i + 1)) = xorI .u32 (turnedI x (ns.take i)) (rotl x (IntKind.wrap .i64 (-(ns[i]?.getD 0)))) := by
  unfold turnedI
  rw [List.take_add_one, List.foldl_append]
  simp [h]
theorem hexVal_at (i : Nat) (h : i < 16) : hexVal (byteAt hexT i) = i := by
  have : ∀ i : Fin 16, hexVal (byteAt hexT (i.1 : Nat)) = i.1 := by decide
  exact this ⟨i, h⟩
theorem hexVal_none (c : Int) (h : ∀ j : Nat, j < 16 → byteAt hexT j ≠ c) : hexVal c = -1 := by
  unfold hexVal
  split
  · exfalso
    have : c = 48 ∨ c = 49 ∨ c = 50 ∨ c = 51 ∨ c = 52 ∨ c = 53 ∨ c = 54 ∨ c = 55 ∨ c = 56 ∨ c = 57 := by omega
    rcases this with rfl | rfl | rfl | rfl | rfl | rfl | rfl | rfl | rfl | rfl
    · exact h 0 (by omega) (by decide)
    · exact h 1 (by omega) (by decide)
    · exact h 2 (by omega) (by decide)
    · exact h 3 (by omega) (by decide)
    · exact h 4 (by omega) (by decide)
    · exact h 5 (by omega) (by decide)
    · exact h 6 (by omega) (by decide)
    · exact h 7 (by omega) (by decide)
    · exact h 8 (by omega) (by decide)
    · exact h 9 (by omega) (by decide)
  · split
    · exfalso
      have : c = 97 ∨ c = 98 ∨ c = 99 ∨ c = 100 ∨ c = 101 ∨ c = 102 := by omega
      rcases this with rfl | rfl | rfl | rfl | rfl | rfl
      · exact h 10 (by omega) (by decide)
      · exact h 11 (by omega) (by decide)
      · exact h 12 (by omega) (by decide)
      · exact h 13 (by omega) (by decide)
      · exact h 14 (by omega) (by decide)
      · exact h 15 (by omega) (by decide)
    · rfl
theorem c_first : Contract E 58 := by
  refine contract_see hE hgl (show E.P.funcs[58]? = some Tryd.f58 from Tryd.func58) rfl (p := sp_first) (fun _ _ _ => rfl) ?_
  intro args hv
  unfold sp_first at hv ⊢
  split at hv
  case h_2 => exact hv.elim
  refine ⟨by simp, by simp, ?_⟩
  simp (config := {dsimp := false}) only [↓a_range, ↓roundQ_normal, ↓roundQ_ret, ↓roundQ_exit, ↓a_skip, ↓a_exit, ↓a_ret, ↓a_seq, ↓a_cond, ↓a_block, ↓a_loop, ↓a_region, ↓a_draw, ↓a_region', ↓a_draw', ↓then_key, ↓with_key, ↓withY_key, ↓cond_key, ↓one_key, ↓thenQ_normal, ↓thenQ_exit, ↓thenQ_ret, ↓blockQ_normal, ↓blockQ_exit, ↓blockQ_ret, ↓aops, ↓aopsD, ↓imp_tt, ↓imp_ff, ↓imp_tf, ↓imp_ft, ↓imp_tnt, ↓imp_tnf, ↓imp_fnt, ↓imp_fnf, look, setL, resQ, argSlots, buildSt, buildArr, intsOf, eqB, keepSl, bindM, bindP, opR, okIf, ok, bad, ev, ofConst, putS, updS, S.upd, dstOk, yieldD, yieldY, strBin, isShift, cellD, retQ, resD, stripO, convR, conv2R, makeR, indexR, indexAddrR, fieldAddrR, loadR, storeR, allocR, boxR, pickR, buildR, buildSliceR, lenR, nilCheckR, extractR, funcR, ipSlice, sliceR, appendR, callR, minR, maxR, S.box, S.tok, TK.sh, known, tsize, destI, ownTok, srcI, isIn, isSl, isSt, appendI, appendL, bnd, aggBin, nilD, isPtr, fieldOf, sized, enumS, seeR, seeL, hasB, flat, flats, List.foldl_nil, List.foldl_cons, Option.getD_some, Option.getD_none, if_true, if_false, reduceIte, reduceCtorEq, Nat.reduceEqDiff, Nat.reduceAdd, Nat.reduceMul, Nat.reduceLT, Nat.reduceSub, Nat.reduceLeDiff, true_and, and_true, List.map_cons, List.map_nil, List.size_toArray, List.length_cons, List.length_nil, Option.map_some, Option.map_none, Option.bind_some, true_implies, Bool.false_eq_true, Bool.true_eq_false, false_implies, Bool.not_true, Bool.not_false, List.getElem?_cons_zero, List.getElem?_cons_succ, implies_true, and_self, Bool.and_true, Bool.true_and, BEq.rfl, and_assoc, Option.isSome_some, Option.isSome_none, List.take_succ_cons, List.take_zero, List.set_cons_zero, List.set_cons_succ, List.forall_mem_cons, List.not_mem_nil, forall_const, List.range, List.range.loop, ne_eq, not_false_eq_true, not_true_eq_false, List.cons.injEq, Prod.mk.injEq, List.append_nil, List.nil_append, List.cons_append, false_and, and_false, Bool.false_and, Bool.and_false, Nat.reduceBNe, Nat.reduceBEq, beq_self_eq_true, bne_self_eq_false, Nat.reduceBeqDiff, Bool.or_false, Bool.false_or, Bool.or_true, Bool.true_or, vs0, vs1, vs2, vs3, vs4, tys, gl0, Tryd.ntmps58, Tryd.results58, gives, u32s, h0]
theorem c_plus : Contract E 81 := by
  refine contract_see hE hgl (show E.P.funcs[81]? = some Tryd.f81 from Tryd.func81) rfl (p := sp_plus) (fun _ _ _ => rfl) ?_
  intro args hv
  unfold sp_plus at hv ⊢
  split at hv
  case h_2 => exact hv.elim
  refine ⟨by simp, Nat.le_of_ble_eq_true rfl, ?_⟩
  simp (config := {dsimp := false}) only [↓a_range, ↓roundQ_normal, ↓roundQ_ret, ↓roundQ_exit, ↓a_skip, ↓a_exit, ↓a_ret, ↓a_seq, ↓a_cond, ↓a_block, ↓a_loop, ↓a_region, ↓a_draw, ↓a_region', ↓a_draw', ↓then_key, ↓with_key, ↓withY_key, ↓cond_key, ↓one_key, ↓thenQ_normal, ↓thenQ_exit, ↓thenQ_ret, ↓blockQ_normal, ↓blockQ_exit, ↓blockQ_ret, ↓aops, ↓aopsD, ↓imp_tt, ↓imp_ff, ↓imp_tf, ↓imp_ft, ↓imp_tnt, ↓imp_tnf, ↓imp_fnt, ↓imp_fnf, look, setL, resQ, argSlots, buildSt, buildArr, intsOf, eqB, keepSl, bindM, bindP, opR, okIf, ok, bad, ev, ofConst, putS, updS, S.upd, dstOk, yieldD, yieldY, strBin, isShift, cellD, retQ, resD, stripO, convR, conv2R, makeR, indexR, indexAddrR, fieldAddrR, loadR, storeR, allocR, boxR, pickR, buildR, buildSliceR, lenR, nilCheckR, extractR, funcR, ipSlice, sliceR, appendR, callR, minR, maxR, S.box, S.tok, TK.sh, known, tsize, destI, ownTok, srcI, isIn, isSl, isSt, appendI, appendL, bnd, aggBin, nilD, isPtr, fieldOf, sized, enumS, seeR, seeL, hasB, flat, flats, List.foldl_nil, List.foldl_cons, Option.getD_some, Option.getD_none, if_true, if_false, reduceIte, reduceCtorEq, Nat.reduceEqDiff, Nat.reduceAdd, Nat.reduceMul, Nat.reduceLT, Nat.reduceSub, Nat.reduceLeDiff, true_and, and_true, List.map_cons, List.map_nil, List.size_toArray, List.length_cons, List.length_nil, Option.map_some, Option.map_none, Option.bind_some, true_implies, Bool.false_eq_true, Bool.true_eq_false, false_implies, Bool.not_true, Bool.not_false, List.getElem?_cons_zero, List.getElem?_cons_succ, implies_true, and_self, Bool.and_true, Bool.true_and, BEq.rfl, and_assoc, Option.isSome_some, Option.isSome_none, List.take_succ_cons, List.take_zero, List.set_cons_zero, List.set_cons_succ, List.forall_mem_cons, List.not_mem_nil, forall_const, List.range, List.range.loop, ne_eq, not_false_eq_true, not_true_eq_false, List.cons.injEq, Prod.mk.injEq, List.append_nil, List.nil_append, List.cons_append, false_and, and_false, Bool.false_and, Bool.and_false, Nat.reduceBNe, Nat.reduceBEq, beq_self_eq_true, bne_self_eq_false, Nat.reduceBeqDiff, Bool.or_false, Bool.false_or, Bool.or_true, Bool.true_or, vs0, vs1, vs2, vs3, vs4, tys, gl0, Tryd.ntmps81, Tryd.results81]
  rfl
theorem c_rotl : Contract E 107 := by
  refine contract_see hE hgl (show E.P.funcs[107]? = some Tryd.f107 from Tryd.func107) rfl (p := sp_rotl) (fun _ _ _ => rfl) ?_
  intro args hv
  unfold sp_rotl at hv ⊢
  split at hv
  case h_2 => exact hv.elim
  refine ⟨by simp, Nat.le_of_ble_eq_true rfl, ?_⟩
  simp (config := {dsimp := false}) only [↓a_range, ↓roundQ_normal, ↓roundQ_ret, ↓roundQ_exit, ↓a_skip, ↓a_exit, ↓a_ret, ↓a_seq, ↓a_cond, ↓a_block, ↓a_loop, ↓a_region, ↓a_draw, ↓a_region', ↓a_draw', ↓then_key, ↓with_key, ↓withY_key, ↓cond_key, ↓one_key, ↓thenQ_normal, ↓thenQ_exit, ↓thenQ_ret, ↓blockQ_normal, ↓blockQ_exit, ↓blockQ_ret, ↓aops, ↓aopsD, ↓imp_tt, ↓imp_ff, ↓imp_tf, ↓imp_ft, ↓imp_tnt, ↓imp_tnf, ↓imp_fnt, ↓imp_fnf, look, setL, resQ, argSlots, buildSt, buildArr, intsOf, eqB, keepSl, bindM, bindP, opR, okIf, ok, bad, ev, ofConst, putS, updS, S.upd, dstOk, yieldD, yieldY, strBin, isShift, cellD, retQ, resD, stripO, convR, conv2R, makeR, indexR, indexAddrR, fieldAddrR, loadR, storeR, allocR, boxR, pickR, buildR, buildSliceR, lenR, nilCheckR, extractR, funcR, ipSlice, sliceR, appendR, callR, minR, maxR, S.box, S.tok, TK.sh, known, tsize, destI, ownTok, srcI, isIn, isSl, isSt, appendI, appendL, bnd, aggBin, nilD, isPtr, fieldOf, sized, enumS, seeR, seeL, hasB, flat, flats, List.foldl_nil, List.foldl_cons, Option.getD_some, Option.getD_none, if_true, if_false, reduceIte, reduceCtorEq, Nat.reduceEqDiff, Nat.reduceAdd, Nat.reduceMul, Nat.reduceLT, Nat.reduceSub, Nat.reduceLeDiff, true_and, and_true, List.map_cons, List.map_nil, List.size_toArray, List.length_cons, List.length_nil, Option.map_some, Option.map_none, Option.bind_some, true_implies, Bool.false_eq_true, Bool.true_eq_false, false_implies, Bool.not_true, Bool.not_false, List.getElem?_cons_zero, List.getElem?_cons_succ, implies_true, and_self, Bool.and_true, Bool.true_and, BEq.rfl, and_assoc, Option.isSome_some, Option.isSome_none, List.take_succ_cons, List.take_zero, List.set_cons_zero, List.set_cons_succ, List.forall_mem_cons, List.not_mem_nil, forall_const, List.range, List.range.loop, ne_eq, not_false_eq_true, not_true_eq_false, List.cons.injEq, Prod.mk.injEq, List.append_nil, List.nil_append, List.cons_append, false_and, and_false, Bool.false_and, Bool.and_false, Nat.reduceBNe, Nat.reduceBEq, beq_self_eq_true, bne_self_eq_false, Nat.reduceBeqDiff, Bool.or_false, Bool.false_or, Bool.or_true, Bool.true_or, vs0, vs1, vs2, vs3, vs4, tys, gl0, Tryd.ntmps107, Tryd.results107]
  exact ⟨u64_ge _, u64_ge _, rfl⟩
theorem c_turned : Contract E 100 := by
  refine contract_see hE hgl (show E.P.funcs[100]? = some Tryd.f100 from Tryd.func100) rfl (p := sp_turned) (fun _ _ _ => rfl) ?_
  intro args hv
  unfold sp_turned at hv ⊢
  split at hv
  case h_2 => exact hv.elim
  rename_i x ns
  refine ⟨by simp, Nat.le_of_ble_eq_true rfl, ?_⟩
  simp (config := {dsimp := false}) only [↓a_range, ↓roundQ_normal, ↓roundQ_ret, ↓roundQ_exit, ↓a_skip, ↓a_exit, ↓a_ret, ↓a_seq, ↓a_cond, ↓a_block, ↓a_loop, ↓a_region, ↓a_draw, ↓a_region', ↓a_draw', ↓then_key, ↓with_key, ↓withY_key, ↓cond_key, ↓one_key, ↓thenQ_normal, ↓thenQ_exit, ↓thenQ_ret, ↓blockQ_normal, ↓blockQ_exit, ↓blockQ_ret, ↓aops, ↓aopsD, ↓imp_tt, ↓imp_ff, ↓imp_tf, ↓imp_ft, ↓imp_tnt, ↓imp_tnf, ↓imp_fnt, ↓imp_fnf, look, setL, resQ, argSlots, buildSt, buildArr, intsOf, eqB, keepSl, bindM, bindP, opR, okIf, ok, bad, ev, ofConst, putS, updS, S.upd, dstOk, yieldD, yieldY, strBin, isShift, cellD, retQ, resD, stripO, convR, conv2R, makeR, indexR, indexAddrR, fieldAddrR, loadR, storeR, allocR, boxR, pickR, buildR, buildSliceR, lenR, nilCheckR, extractR, funcR, ipSlice, sliceR, appendR, callR, minR, maxR, S.box, S.tok, TK.sh, known, tsize, destI, ownTok, srcI, isIn, isSl, isSt, appendI, appendL, bnd, aggBin, nilD, isPtr, fieldOf, sized, enumS, seeR, seeL, hasB, flat, flats, List.foldl_nil, List.foldl_cons, Option.getD_some, Option.getD_none, if_true, if_false, reduceIte, reduceCtorEq, Nat.reduceEqDiff, Nat.reduceAdd, Nat.reduceMul, Nat.reduceLT, Nat.reduceSub, Nat.reduceLeDiff, true_and, and_true, List.map_cons, List.map_nil, List.size_toArray, List.length_cons, List.length_nil, Option.map_some, Option.map_none, Option.bind_some, true_implies, Bool.false_eq_true, Bool.true_eq_false, false_implies, Bool.not_true, Bool.not_false, List.getElem?_cons_zero, List.getElem?_cons_succ, implies_true, and_self, Bool.and_true, Bool.true_and, BEq.rfl, and_assoc, Option.isSome_some, Option.isSome_none, List.take_succ_cons, List.take_zero, List.set_cons_zero, List.set_cons_succ, List.forall_mem_cons, List.not_mem_nil, forall_const, List.range, List.range.loop, ne_eq, not_false_eq_true, not_true_eq_false, List.cons.injEq, Prod.mk.injEq, List.append_nil, List.nil_append, List.cons_append, false_and, and_false, Bool.false_and, Bool.and_false, Nat.reduceBNe, Nat.reduceBEq, beq_self_eq_true, bne_self_eq_false, Nat.reduceBeqDiff, Bool.or_false, Bool.false_or, Bool.or_true, Bool.true_or, vs0, vs1, vs2, vs3, vs4, tys, gl0, Tryd.ntmps100, Tryd.results100]
  refine loopI (Fin (ns.length + 1)) (fun i => [(4, .int .u32 (turnedI x (ns.take i))), (0, .int .u32 x), (7, .sli .no .i64 ns), (8, .int .i64 ns.length), (9, .int .i64 (i : Nat))]) (fun _ => ⟨[], [], 16⟩) (fun i => ns.length - i) 0 (fun _ => rfl) ?_ ?_
  · simp [Wk, wkSl, wkD, wkBs, wkTs, look, D.under, underO, turnedI]
  intro i
  simp (config := {dsimp := false}) only [↓a_range, ↓roundQ_normal, ↓roundQ_ret, ↓roundQ_exit, ↓a_skip, ↓a_exit, ↓a_ret, ↓a_seq, ↓a_cond, ↓a_block, ↓a_loop, ↓a_region, ↓a_draw, ↓a_region', ↓a_draw', ↓then_key, ↓with_key, ↓withY_key, ↓cond_key, ↓one_key, ↓thenQ_normal, ↓thenQ_exit, ↓thenQ_ret, ↓blockQ_normal, ↓blockQ_exit, ↓blockQ_ret, ↓aops, ↓aopsD, ↓imp_tt, ↓imp_ff, ↓imp_tf, ↓imp_ft, ↓imp_tnt, ↓imp_tnf, ↓imp_fnt, ↓imp_fnf, look, setL, resQ, argSlots, buildSt, buildArr, intsOf, eqB, keepSl, bindM, bindP, opR, okIf, ok, bad, ev, ofConst, putS, updS, S.upd, dstOk, yieldD, yieldY, strBin, isShift, cellD, retQ, resD, stripO, convR, conv2R, makeR, indexR, indexAddrR, fieldAddrR, loadR, storeR, allocR, boxR, pickR, buildR, buildSliceR, lenR, nilCheckR, extractR, funcR, ipSlice, sliceR, appendR, callR, minR, maxR, S.box, S.tok, TK.sh, known, tsize, destI, ownTok, srcI, isIn, isSl, isSt, appendI, appendL, bnd, aggBin, nilD, isPtr, fieldOf, sized, enumS, seeR, seeL, hasB, flat, flats, List.foldl_nil, List.foldl_cons, Option.getD_some, Option.getD_none, if_true, if_false, reduceIte, reduceCtorEq, Nat.reduceEqDiff, Nat.reduceAdd, Nat.reduceMul, Nat.reduceLT, Nat.reduceSub, Nat.reduceLeDiff, true_and, and_true, List.map_cons, List.map_nil, List.size_toArray, List.length_cons, List.length_nil, Option.map_some, Option.map_none, Option.bind_some, true_implies, Bool.false_eq_true, Bool.true_eq_false, false_implies, Bool.not_true, Bool.not_false, List.getElem?_cons_zero, List.getElem?_cons_succ, implies_true, and_self, Bool.and_true, Bool.true_and, BEq.rfl, and_assoc, Option.isSome_some, Option.isSome_none, List.take_succ_cons, List.take_zero, List.set_cons_zero, List.set_cons_succ, List.forall_mem_cons, List.not_mem_nil, forall_const, List.range, List.range.loop, ne_eq, not_false_eq_true, not_true_eq_false, List.cons.injEq, Prod.mk.injEq, List.append_nil, List.nil_append, List.cons_append, false_and, and_false, Bool.false_and, Bool.and_false, Nat.reduceBNe, Nat.reduceBEq, beq_self_eq_true, bne_self_eq_false, Nat.reduceBeqDiff, Bool.or_false, Bool.false_or, Bool.or_true, Bool.true_or, vs0, vs1, vs2, vs3, vs4, tys, gl0, Tryd.ntmps100, Tryd.results100, PF.toR, gives, spec_rotl, sp_rotl, c_rotl, b_rotl]
  obtain ⟨i, hi⟩ := i
  simp only [givesIf] at hv
  refine ⟨fun h => ?_, fun h => ?_⟩
  · have h := of_decide_eq_true h
    simp only at h
    refine ⟨by simp, h, ⟨i + 1, by omega⟩, ?_, by simp only; omega⟩
    simp [Wk, wkSl, wkD, wkBs, wkTs, look, D.under, underO, turnedI_take x ns i (by omega), IntWalk.i64_in ((i : Int) + 1) (by omega)]
  · have h := of_decide_eq_false h
    simp only at h
    change D.int .u32 (turnedI x (ns.take i)) = D.int .u32 (turnedI x ns)
    rw [List.take_of_length_le (by omega)]
theorem c_round : Contract E 80 := by
  refine contract_see hE hgl (show E.P.funcs[80]? = some Tryd.f80 from Tryd.func80) rfl (p := sp_round) (fun _ _ _ => rfl) ?_
  intro args hv
  unfold sp_round at hv ⊢
  split at hv
  case h_2 => exact hv.elim
  refine ⟨by simp, Nat.le_of_ble_eq_true rfl, ?_⟩
  simp (config := {dsimp := false}) only [↓a_range, ↓roundQ_normal, ↓roundQ_ret, ↓roundQ_exit, ↓a_skip, ↓a_exit, ↓a_ret, ↓a_seq, ↓a_cond, ↓a_block, ↓a_loop, ↓a_region, ↓a_draw, ↓a_region', ↓a_draw', ↓then_key, ↓with_key, ↓withY_key, ↓cond_key, ↓one_key, ↓thenQ_normal, ↓thenQ_exit, ↓thenQ_ret, ↓blockQ_normal, ↓blockQ_exit, ↓blockQ_ret, ↓aops, ↓aopsD, ↓imp_tt, ↓imp_ff, ↓imp_tf, ↓imp_ft, ↓imp_tnt, ↓imp_tnf, ↓imp_fnt, ↓imp_fnf, look, setL, resQ, argSlots, buildSt, buildArr, intsOf, eqB, keepSl, bindM, bindP, opR, okIf, ok, bad, ev, ofConst, putS, updS, S.upd, dstOk, yieldD, yieldY, strBin, isShift, cellD, retQ, resD, stripO, convR, conv2R, makeR, indexR, indexAddrR, fieldAddrR, loadR, storeR, allocR, boxR, pickR, buildR, buildSliceR, lenR, nilCheckR, extractR, funcR, ipSlice, sliceR, appendR, callR, minR, maxR, S.box, S.tok, TK.sh, known, tsize, destI, ownTok, srcI, isIn, isSl, isSt, appendI, appendL, bnd, aggBin, nilD, isPtr, fieldOf, sized, enumS, seeR, seeL, hasB, flat, flats, List.foldl_nil, List.foldl_cons, Option.getD_some, Option.getD_none, if_true, if_false, reduceIte, reduceCtorEq, Nat.reduceEqDiff, Nat.reduceAdd, Nat.reduceMul, Nat.reduceLT, Nat.reduceSub, Nat.reduceLeDiff, true_and, and_true, List.map_cons, List.map_nil, List.size_toArray, List.length_cons, List.length_nil, Option.map_some, Option.map_none, Option.bind_some, true_implies, Bool.false_eq_true, Bool.true_eq_false, false_implies, Bool.not_true, Bool.not_false, List.getElem?_cons_zero, List.getElem?_cons_succ, implies_true, and_self, Bool.and_true, Bool.true_and, BEq.rfl, and_assoc, Option.isSome_some, Option.isSome_none, List.take_succ_cons, List.take_zero, List.set_cons_zero, List.set_cons_succ, List.forall_mem_cons, List.not_mem_nil, forall_const, List.range, List.range.loop, ne_eq, not_false_eq_true, not_true_eq_false, List.cons.injEq, Prod.mk.injEq, List.append_nil, List.nil_append, List.cons_append, false_and, and_false, Bool.false_and, Bool.and_false, Nat.reduceBNe, Nat.reduceBEq, beq_self_eq_true, bne_self_eq_false, Nat.reduceBeqDiff, Bool.or_false, Bool.false_or, Bool.or_true, Bool.true_or, vs0, vs1, vs2, vs3, vs4, tys, gl0, Tryd.ntmps80, Tryd.results80]
  refine drawI [2, 4, 1] (by kernel_rfl) ?_
  simp (config := {dsimp := false}) only [↓a_range, ↓roundQ_normal, ↓roundQ_ret, ↓roundQ_exit, ↓a_skip, ↓a_exit, ↓a_ret, ↓a_seq, ↓a_cond, ↓a_block, ↓a_loop, ↓a_region, ↓a_draw, ↓a_region', ↓a_draw', ↓then_key, ↓with_key, ↓withY_key, ↓cond_key, ↓one_key, ↓thenQ_normal, ↓thenQ_exit, ↓thenQ_ret, ↓blockQ_normal, ↓blockQ_exit, ↓blockQ_ret, ↓aops, ↓aopsD, ↓imp_tt, ↓imp_ff, ↓imp_tf, ↓imp_ft, ↓imp_tnt, ↓imp_tnf, ↓imp_fnt, ↓imp_fnf, look, setL, resQ, argSlots, buildSt, buildArr, intsOf, eqB, keepSl, bindM, bindP, opR, okIf, ok, bad, ev, ofConst, putS, updS, S.upd, dstOk, yieldD, yieldY, strBin, isShift, cellD, retQ, resD, stripO, convR, conv2R, makeR, indexR, indexAddrR, fieldAddrR, loadR, storeR, allocR, boxR, pickR, buildR, buildSliceR, lenR, nilCheckR, extractR, funcR, ipSlice, sliceR, appendR, callR, minR, maxR, S.box, S.tok, TK.sh, known, tsize, destI, ownTok, srcI, isIn, isSl, isSt, appendI, appendL, bnd, aggBin, nilD, isPtr, fieldOf, sized, enumS, seeR, seeL, hasB, flat, flats, List.foldl_nil, List.foldl_cons, Option.getD_some, Option.getD_none, if_true, if_false, reduceIte, reduceCtorEq, Nat.reduceEqDiff, Nat.reduceAdd, Nat.reduceMul, Nat.reduceLT, Nat.reduceSub, Nat.reduceLeDiff, true_and, and_true, List.map_cons, List.map_nil, List.size_toArray, List.length_cons, List.length_nil, Option.map_some, Option.map_none, Option.bind_some, true_implies, Bool.false_eq_true, Bool.true_eq_false, false_implies, Bool.not_true, Bool.not_false, List.getElem?_cons_zero, List.getElem?_cons_succ, implies_true, and_self, Bool.and_true, Bool.true_and, BEq.rfl, and_assoc, Option.isSome_some, Option.isSome_none, List.take_succ_cons, List.take_zero, List.set_cons_zero, List.set_cons_succ, List.forall_mem_cons, List.not_mem_nil, forall_const, List.range, List.range.loop, ne_eq, not_false_eq_true, not_true_eq_false, List.cons.injEq, Prod.mk.injEq, List.append_nil, List.nil_append, List.cons_append, false_and, and_false, Bool.false_and, Bool.and_false, Nat.reduceBNe, Nat.reduceBEq, beq_self_eq_true, bne_self_eq_false, Nat.reduceBeqDiff, Bool.or_false, Bool.false_or, Bool.or_true, Bool.true_or, vs0, vs1, vs2, vs3, vs4, tys, gl0, Tryd.ntmps80, Tryd.results80, PF.toR, givesIf, spec_turned, sp_turned, c_turned, b_turned]
  refine drawI [2, 4, 5] (by kernel_rfl) ?_
  simp (config := {dsimp := false}) only [↓a_range, ↓roundQ_normal, ↓roundQ_ret, ↓roundQ_exit, ↓a_skip, ↓a_exit, ↓a_ret, ↓a_seq, ↓a_cond, ↓a_block, ↓a_loop, ↓a_region, ↓a_draw, ↓a_region', ↓a_draw', ↓then_key, ↓with_key, ↓withY_key, ↓cond_key, ↓one_key, ↓thenQ_normal, ↓thenQ_exit, ↓thenQ_ret, ↓blockQ_normal, ↓blockQ_exit, ↓blockQ_ret, ↓aops, ↓aopsD, ↓imp_tt, ↓imp_ff, ↓imp_tf, ↓imp_ft, ↓imp_tnt, ↓imp_tnf, ↓imp_fnt, ↓imp_fnf, look, setL, resQ, argSlots, buildSt, buildArr, intsOf, eqB, keepSl, bindM, bindP, opR, okIf, ok, bad, ev, ofConst, putS, updS, S.upd, dstOk, yieldD, yieldY, strBin, isShift, cellD, retQ, resD, stripO, convR, conv2R, makeR, indexR, indexAddrR, fieldAddrR, loadR, storeR, allocR, boxR, pickR, buildR, buildSliceR, lenR, nilCheckR, extractR, funcR, ipSlice, sliceR, appendR, callR, minR, maxR, S.box, S.tok, TK.sh, known, tsize, destI, ownTok, srcI, isIn, isSl, isSt, appendI, appendL, bnd, aggBin, nilD, isPtr, fieldOf, sized, enumS, seeR, seeL, hasB, flat, flats, List.foldl_nil, List.foldl_cons, Option.getD_some, Option.getD_none, if_true, if_false, reduceIte, reduceCtorEq, Nat.reduceEqDiff, Nat.reduceAdd, Nat.reduceMul, Nat.reduceLT, Nat.reduceSub, Nat.reduceLeDiff, true_and, and_true, List.map_cons, List.map_nil, List.size_toArray, List.length_cons, List.length_nil, Option.map_some, Option.map_none, Option.bind_some, true_implies, Bool.false_eq_true, Bool.true_eq_false, false_implies, Bool.not_true, Bool.not_false, List.getElem?_cons_zero, List.getElem?_cons_succ, implies_true, and_self, Bool.and_true, Bool.true_and, BEq.rfl, and_assoc, Option.isSome_some, Option.isSome_none, List.take_succ_cons, List.take_zero, List.set_cons_zero, List.set_cons_succ, List.forall_mem_cons, List.not_mem_nil, forall_const, List.range, List.range.loop, ne_eq, not_false_eq_true, not_true_eq_false, List.cons.injEq, Prod.mk.injEq, List.append_nil, List.nil_append, List.cons_append, false_and, and_false, Bool.false_and, Bool.and_false, Nat.reduceBNe, Nat.reduceBEq, beq_self_eq_true, bne_self_eq_false, Nat.reduceBeqDiff, Bool.or_false, Bool.false_or, Bool.or_true, Bool.true_or, vs0, vs1, vs2, vs3, vs4, tys, gl0, Tryd.ntmps80, Tryd.results80, PF.toR, givesIf, spec_turned, sp_turned, c_turned, b_turned]
  rfl
theorem be_take (n : Int) (i : Nat) (h : i < 8) : (beBytes n).take (i + 1) = (beBytes n).take i ++ [IntKind.wrap .u8 (shrI .u64 (shlI .u64 (IntKind.wrap .u64 n) 3) (56 - 8 * (i : Int)))] := by
  match i, h with
  | 0, _ => rfl
  | 1, _ => rfl
  | 2, _ => rfl
  | 3, _ => rfl
  | 4, _ => rfl
  | 5, _ => rfl
  | 6, _ => rfl
  | 7, _ => rfl
theorem c_closing : Contract E 68 := by
  refine contract_see hE hgl (show E.P.funcs[68]? = some Tryd.f68 from Tryd.func68) rfl (p := sp_closing) (fun _ _ _ => rfl) ?_
  intro args hv
  unfold sp_closing at hv ⊢
  split at hv
  case h_2 => exact hv.elim
  rename_i n
  refine ⟨by simp, Nat.le_of_ble_eq_true rfl, ?_⟩
  simp (config := {dsimp := false}) only [↓a_range, ↓roundQ_normal, ↓roundQ_ret, ↓roundQ_exit, ↓a_skip, ↓a_exit, ↓a_ret, ↓a_seq, ↓a_cond, ↓a_block, ↓a_loop, ↓a_region, ↓a_draw, ↓a_region', ↓a_draw', ↓then_key, ↓with_key, ↓withY_key, ↓cond_key, ↓one_key, ↓thenQ_normal, ↓thenQ_exit, ↓thenQ_ret, ↓blockQ_normal, ↓blockQ_exit, ↓blockQ_ret, ↓aops, ↓aopsD, ↓imp_tt, ↓imp_ff, ↓imp_tf, ↓imp_ft, ↓imp_tnt, ↓imp_tnf, ↓imp_fnt, ↓imp_fnf, look, setL, resQ, argSlots, buildSt, buildArr, intsOf, eqB, keepSl, bindM, bindP, opR, okIf, ok, bad, ev, ofConst, putS, updS, S.upd, dstOk, yieldD, yieldY, strBin, isShift, cellD, retQ, resD, stripO, convR, conv2R, makeR, indexR, indexAddrR, fieldAddrR, loadR, storeR, allocR, boxR, pickR, buildR, buildSliceR, lenR, nilCheckR, extractR, funcR, ipSlice, sliceR, appendR, callR, minR, maxR, S.box, S.tok, TK.sh, known, tsize, destI, ownTok, srcI, isIn, isSl, isSt, appendI, appendL, bnd, aggBin, nilD, isPtr, fieldOf, sized, enumS, seeR, seeL, hasB, flat, flats, List.foldl_nil, List.foldl_cons, Option.getD_some, Option.getD_none, if_true, if_false, reduceIte, reduceCtorEq, Nat.reduceEqDiff, Nat.reduceAdd, Nat.reduceMul, Nat.reduceLT, Nat.reduceSub, Nat.reduceLeDiff, true_and, and_true, List.map_cons, List.map_nil, List.size_toArray, List.length_cons, List.length_nil, Option.map_some, Option.map_none, Option.bind_some, true_implies, Bool.false_eq_true, Bool.true_eq_false, false_implies, Bool.not_true, Bool.not_false, List.getElem?_cons_zero, List.getElem?_cons_succ, implies_true, and_self, Bool.and_true, Bool.true_and, BEq.rfl, and_assoc, Option.isSome_some, Option.isSome_none, List.take_succ_cons, List.take_zero, List.set_cons_zero, List.set_cons_succ, List.forall_mem_cons, List.not_mem_nil, forall_const, List.range, List.range.loop, ne_eq, not_false_eq_true, not_true_eq_false, List.cons.injEq, Prod.mk.injEq, List.append_nil, List.nil_append, List.cons_append, false_and, and_false, Bool.false_and, Bool.and_false, Nat.reduceBNe, Nat.reduceBEq, beq_self_eq_true, bne_self_eq_false, Nat.reduceBeqDiff, Bool.or_false, Bool.false_or, Bool.or_true, Bool.true_or, vs0, vs1, vs2, vs3, vs4, tys, gl0, Tryd.ntmps68, Tryd.results68]
  simp only [givesIf] at hv
  have hm : n.tmod 64 = n % 64 := Int.tmod_eq_emod_of_nonneg hv.1
  have hp : (IntKind.wrap .i64 (119 - n.tmod 64)).tmod 64 = (119 - n % 64) % 64 := by
    rw [hm, IntWalk.i64_in _ (by omega), Int.tmod_eq_emod_of_nonneg (by omega)]
  have hpad : ((IntKind.wrap .i64 (119 - n.tmod 64)).tmod 64).toNat = pad n := by rw [hp]; rfl
  have hp0 : 0 ≤ (IntKind.wrap .i64 (119 - n.tmod 64)).tmod 64 := by rw [hp]; omega
  have hp1 : pad n < 64 := by unfold pad; omega
  rw [hpad]
  refine ⟨by decide, by decide, by simp; omega, fun kk m e => by cases e; exact hp0, ?_⟩
  refine loopI (Fin 9) (fun i => [(5, .int .i64 (56 - 8 * (i.1 : Int))), (4, .sli (.tok 32) .u8 (128 :: List.replicate (pad n) 0 ++ (beBytes n).take i.1)), (0, .int .i64 n)]) (fun i => ⟨[], [(32, (1 + pad n + i.1, 1))], 44⟩) (fun i => 8 - i.1) 0 (fun _ => rfl) ?_ ?_
  · simp [Wk, wkSl, wkD, wkBs, wkTs, look, D.under, underO, S.tok]
  rintro ⟨i, hi⟩
  simp (config := {dsimp := false}) only [↓a_range, ↓roundQ_normal, ↓roundQ_ret, ↓roundQ_exit, ↓a_skip, ↓a_exit, ↓a_ret, ↓a_seq, ↓a_cond, ↓a_block, ↓a_loop, ↓a_region, ↓a_draw, ↓a_region', ↓a_draw', ↓then_key, ↓with_key, ↓withY_key, ↓cond_key, ↓one_key, ↓thenQ_normal, ↓thenQ_exit, ↓thenQ_ret, ↓blockQ_normal, ↓blockQ_exit, ↓blockQ_ret, ↓aops, ↓aopsD, ↓imp_tt, ↓imp_ff, ↓imp_tf, ↓imp_ft, ↓imp_tnt, ↓imp_tnf, ↓imp_fnt, ↓imp_fnf, look, setL, resQ, argSlots, buildSt, buildArr, intsOf, eqB, keepSl, bindM, bindP, opR, okIf, ok, bad, ev, ofConst, putS, updS, S.upd, dstOk, yieldD, yieldY, strBin, isShift, cellD, retQ, resD, stripO, convR, conv2R, makeR, indexR, indexAddrR, fieldAddrR, loadR, storeR, allocR, boxR, pickR, buildR, buildSliceR, lenR, nilCheckR, extractR, funcR, ipSlice, sliceR, appendR, callR, minR, maxR, S.box, S.tok, TK.sh, known, tsize, destI, ownTok, srcI, isIn, isSl, isSt, appendI, appendL, bnd, aggBin, nilD, isPtr, fieldOf, sized, enumS, seeR, seeL, hasB, flat, flats, List.foldl_nil, List.foldl_cons, Option.getD_some, Option.getD_none, if_true, if_false, reduceIte, reduceCtorEq, Nat.reduceEqDiff, Nat.reduceAdd, Nat.reduceMul, Nat.reduceLT, Nat.reduceSub, Nat.reduceLeDiff, true_and, and_true, List.map_cons, List.map_nil, List.size_toArray, List.length_cons, List.length_nil, Option.map_some, Option.map_none, Option.bind_some, true_implies, Bool.false_eq_true, Bool.true_eq_false, false_implies, Bool.not_true, Bool.not_false, List.getElem?_cons_zero, List.getElem?_cons_succ, implies_true, and_self, Bool.and_true, Bool.true_and, BEq.rfl, and_assoc, Option.isSome_some, Option.isSome_none, List.take_succ_cons, List.take_zero, List.set_cons_zero, List.set_cons_succ, List.forall_mem_cons, List.not_mem_nil, forall_const, List.range, List.range.loop, ne_eq, not_false_eq_true, not_true_eq_false, List.cons.injEq, Prod.mk.injEq, List.append_nil, List.nil_append, List.cons_append, false_and, and_false, Bool.false_and, Bool.and_false, Nat.reduceBNe, Nat.reduceBEq, beq_self_eq_true, bne_self_eq_false, Nat.reduceBeqDiff, Bool.or_false, Bool.false_or, Bool.or_true, Bool.true_or, vs0, vs1, vs2, vs3, vs4, tys, gl0, Tryd.ntmps68, Tryd.results68]
  have hbl : (beBytes n).length = 8 := rfl
  refine ⟨fun h => ?_, fun h => ?_⟩
  · have h := of_decide_eq_true h
    have hi8 : i < 8 := by omega
    have hlen : (List.replicate (pad n) (0 : Int) ++ (beBytes n).take i).length = pad n + i := by simp; omega
    refine ⟨by decide, h, by rw [hlen]; simp; omega, by rw [hlen]; omega, ⟨i + 1, by omega⟩, ?_, by simp only; omega⟩
    have e1 : IntKind.wrap .i64 (56 - 8 * (i : Int) - 8) = 56 - 8 * ((i : Int) + 1) := by rw [IntWalk.i64_in _ (by omega)]; omega
    simp [Wk, wkSl, wkD, wkBs, wkTs, look, D.under, underO, S.tok, e1, be_take n i hi8]
    omega
  · have h := of_decide_eq_false h
    obtain rfl : i = 8 := by omega
    rfl
end Go.Vi.C8
end

section
set_option linter.unusedVariables false
set_option linter.unusedSimpArgs false
set_option maxHeartbeats 0
set_option maxRecDepth 20000
namespace Go.Vi.C8
open Go.Proofs

theorem c_numbers : Contract E 79 := by
  refine contract_box hE hgl (show E.P.funcs[79]? = some Tryd.f79 from Tryd.func79) rfl (p := (sp_numbers 99)) (fun _ _ _ => rfl) ?_
  intro args ds tv hv hdl htl
  unfold sp_numbers at hv ⊢
  split at hv
  case h_2 => exact hv.elim
  rename_i b
  refine ⟨by simp, Nat.le_of_ble_eq_true rfl, ?_⟩
  simp (config := {dsimp := false}) only [↓a_range, ↓roundQ_normal, ↓roundQ_ret, ↓roundQ_exit, ↓a_skip, ↓a_exit, ↓a_ret, ↓a_seq, ↓a_cond, ↓a_block, ↓a_loop, ↓a_region, ↓a_draw, ↓a_region', ↓a_draw', ↓then_key, ↓with_key, ↓withY_key, ↓cond_key, ↓one_key, ↓thenQ_normal, ↓thenQ_exit, ↓thenQ_ret, ↓blockQ_normal, ↓blockQ_exit, ↓blockQ_ret, ↓aops, ↓aopsD, ↓imp_tt, ↓imp_ff, ↓imp_tf, ↓imp_ft, ↓imp_tnt, ↓imp_tnf, ↓imp_fnt, ↓imp_fnf, look, setL, resQ, argSlots, buildSt, buildArr, intsOf, eqB, keepSl, bindM, bindP, opR, okIf, ok, bad, ev, ofConst, putS, updS, S.upd, dstOk, yieldD, yieldY, strBin, isShift, cellD, retQ, resD, stripO, convR, conv2R, makeR, indexR, indexAddrR, fieldAddrR, loadR, storeR, allocR, boxR, pickR, buildR, buildSliceR, lenR, nilCheckR, extractR, funcR, ipSlice, sliceR, appendR, callR, minR, maxR, S.box, S.tok, TK.sh, known, tsize, destI, ownTok, srcI, isIn, isSl, isSt, appendI, appendL, bnd, aggBin, nilD, isPtr, fieldOf, sized, enumS, seeR, seeL, hasB, flat, flats, List.foldl_nil, List.foldl_cons, Option.getD_some, Option.getD_none, if_true, if_false, reduceIte, reduceCtorEq, Nat.reduceEqDiff, Nat.reduceAdd, Nat.reduceMul, Nat.reduceLT, Nat.reduceSub, Nat.reduceLeDiff, true_and, and_true, List.map_cons, List.map_nil, List.size_toArray, List.length_cons, List.length_nil, Option.map_some, Option.map_none, Option.bind_some, true_implies, Bool.false_eq_true, Bool.true_eq_false, false_implies, Bool.not_true, Bool.not_false, List.getElem?_cons_zero, List.getElem?_cons_succ, implies_true, and_self, Bool.and_true, Bool.true_and, BEq.rfl, and_assoc, Option.isSome_some, Option.isSome_none, List.take_succ_cons, List.take_zero, List.set_cons_zero, List.set_cons_succ, List.forall_mem_cons, List.not_mem_nil, forall_const, List.range, List.range.loop, ne_eq, not_false_eq_true, not_true_eq_false, List.cons.injEq, Prod.mk.injEq, List.append_nil, List.nil_append, List.cons_append, false_and, and_false, Bool.false_and, Bool.and_false, Nat.reduceBNe, Nat.reduceBEq, beq_self_eq_true, bne_self_eq_false, Nat.reduceBeqDiff, Bool.or_false, Bool.false_or, Bool.or_true, Bool.true_or, vs0, vs1, vs2, vs3, vs4, tys, gl0, Tryd.ntmps79, Tryd.results79, retB, boxF, reach, getAll, posN, addN, D.ids, D.idsL, D.tks, D.tksL, ownTk, backN, enumS, zipS, BF.toR, D.ren, D.rens, renO, nodupB, List.contains_cons, List.contains_nil, Bool.or_false, Bool.or_true, Bool.false_or, Bool.true_or, List.getElem?_nil, List.append_assoc, List.cons_append, List.elem_cons, List.elem_nil]
  exact ⟨[20, 8, 16], [], [], ⟨rfl, rfl⟩, ⟨rfl, rfl⟩, ⟨by decide, by decide⟩, by simp, rfl, rfl, ⟨_, rfl, rfl⟩, ⟨_, rfl, rfl⟩, id rfl⟩
theorem c_next : Contract E 99 := by
  refine contract_box hE hgl (show E.P.funcs[99]? = some Tryd.f99 from Tryd.func99) rfl (p := sp_next) (fun _ _ _ => rfl) ?_
  intro args ds tv hv hdl htl
  unfold sp_next at hv ⊢
  split at hv
  case h_2 => exact hv.elim
  rename_i n b ws
  refine ⟨by simp, Nat.le_of_ble_eq_true rfl, ?_⟩
  simp (config := {dsimp := false}) only [↓a_range, ↓roundQ_normal, ↓roundQ_ret, ↓roundQ_exit, ↓a_skip, ↓a_exit, ↓a_ret, ↓a_seq, ↓a_cond, ↓a_block, ↓a_loop, ↓a_region, ↓a_draw, ↓a_region', ↓a_draw', ↓then_key, ↓with_key, ↓withY_key, ↓cond_key, ↓one_key, ↓thenQ_normal, ↓thenQ_exit, ↓thenQ_ret, ↓blockQ_normal, ↓blockQ_exit, ↓blockQ_ret, ↓aops, ↓aopsD, ↓imp_tt, ↓imp_ff, ↓imp_tf, ↓imp_ft, ↓imp_tnt, ↓imp_tnf, ↓imp_fnt, ↓imp_fnf, look, setL, resQ, argSlots, buildSt, buildArr, intsOf, eqB, keepSl, bindM, bindP, opR, okIf, ok, bad, ev, ofConst, putS, updS, S.upd, dstOk, yieldD, yieldY, strBin, isShift, cellD, retQ, resD, stripO, convR, conv2R, makeR, indexR, indexAddrR, fieldAddrR, loadR, storeR, allocR, boxR, pickR, buildR, buildSliceR, lenR, nilCheckR, extractR, funcR, ipSlice, sliceR, appendR, callR, minR, maxR, S.box, S.tok, TK.sh, known, tsize, destI, ownTok, srcI, isIn, isSl, isSt, appendI, appendL, bnd, aggBin, nilD, isPtr, fieldOf, sized, enumS, seeR, seeL, hasB, flat, flats, List.foldl_nil, List.foldl_cons, Option.getD_some, Option.getD_none, if_true, if_false, reduceIte, reduceCtorEq, Nat.reduceEqDiff, Nat.reduceAdd, Nat.reduceMul, Nat.reduceLT, Nat.reduceSub, Nat.reduceLeDiff, true_and, and_true, List.map_cons, List.map_nil, List.size_toArray, List.length_cons, List.length_nil, Option.map_some, Option.map_none, Option.bind_some, true_implies, Bool.false_eq_true, Bool.true_eq_false, false_implies, Bool.not_true, Bool.not_false, List.getElem?_cons_zero, List.getElem?_cons_succ, implies_true, and_self, Bool.and_true, Bool.true_and, BEq.rfl, and_assoc, Option.isSome_some, Option.isSome_none, List.take_succ_cons, List.take_zero, List.set_cons_zero, List.set_cons_succ, List.forall_mem_cons, List.not_mem_nil, forall_const, List.range, List.range.loop, ne_eq, not_false_eq_true, not_true_eq_false, List.cons.injEq, Prod.mk.injEq, List.append_nil, List.nil_append, List.cons_append, false_and, and_false, Bool.false_and, Bool.and_false, Nat.reduceBNe, Nat.reduceBEq, beq_self_eq_true, bne_self_eq_false, Nat.reduceBeqDiff, Bool.or_false, Bool.false_or, Bool.or_true, Bool.true_or, vs0, vs1, vs2, vs3, vs4, tys, gl0, Tryd.ntmps99, Tryd.results99, retB, boxF, reach, getAll, posN, addN, D.ids, D.idsL, D.tks, D.tksL, ownTk, backN, enumS, zipS, BF.toR, D.ren, D.rens, renO, nodupB, List.contains_cons, List.contains_nil, Bool.or_false, Bool.or_true, Bool.false_or, Bool.true_or, List.getElem?_nil, List.append_assoc, List.cons_append, List.elem_cons, List.elem_nil]
  obtain ⟨⟨h0, h64⟩, hb, hw⟩ := hv
  refine ⟨fun h => ?_, fun h => ?_⟩
  · have h := of_decide_eq_true h
    have e4 : IntKind.wrap .i64 (4 * n) = 4 * n := IntWalk.i64_in _ (by omega)
    have ht : List.take (b.length : Int).toNat b = b := List.take_of_length_le (by omega)
    rw [e4, ht]
    refine ⟨by omega, by omega, Int.le_refl _, ?_⟩
    refine drawI [4, 0, 1, 2] (by kernel_rfl) ?_
    simp (config := {dsimp := false}) only [↓a_range, ↓roundQ_normal, ↓roundQ_ret, ↓roundQ_exit, ↓a_skip, ↓a_exit, ↓a_ret, ↓a_seq, ↓a_cond, ↓a_block, ↓a_loop, ↓a_region, ↓a_draw, ↓a_region', ↓a_draw', ↓then_key, ↓with_key, ↓withY_key, ↓cond_key, ↓one_key, ↓thenQ_normal, ↓thenQ_exit, ↓thenQ_ret, ↓blockQ_normal, ↓blockQ_exit, ↓blockQ_ret, ↓aops, ↓aopsD, ↓imp_tt, ↓imp_ff, ↓imp_tf, ↓imp_ft, ↓imp_tnt, ↓imp_tnf, ↓imp_fnt, ↓imp_fnf, look, setL, resQ, argSlots, buildSt, buildArr, intsOf, eqB, keepSl, bindM, bindP, opR, okIf, ok, bad, ev, ofConst, putS, updS, S.upd, dstOk, yieldD, yieldY, strBin, isShift, cellD, retQ, resD, stripO, convR, conv2R, makeR, indexR, indexAddrR, fieldAddrR, loadR, storeR, allocR, boxR, pickR, buildR, buildSliceR, lenR, nilCheckR, extractR, funcR, ipSlice, sliceR, appendR, callR, minR, maxR, S.box, S.tok, TK.sh, known, tsize, destI, ownTok, srcI, isIn, isSl, isSt, appendI, appendL, bnd, aggBin, nilD, isPtr, fieldOf, sized, enumS, seeR, seeL, hasB, flat, flats, List.foldl_nil, List.foldl_cons, Option.getD_some, Option.getD_none, if_true, if_false, reduceIte, reduceCtorEq, Nat.reduceEqDiff, Nat.reduceAdd, Nat.reduceMul, Nat.reduceLT, Nat.reduceSub, Nat.reduceLeDiff, true_and, and_true, List.map_cons, List.map_nil, List.size_toArray, List.length_cons, List.length_nil, Option.map_some, Option.map_none, Option.bind_some, true_implies, Bool.false_eq_true, Bool.true_eq_false, false_implies, Bool.not_true, Bool.not_false, List.getElem?_cons_zero, List.getElem?_cons_succ, implies_true, and_self, Bool.and_true, Bool.true_and, BEq.rfl, and_assoc, Option.isSome_some, Option.isSome_none, List.take_succ_cons, List.take_zero, List.set_cons_zero, List.set_cons_succ, List.forall_mem_cons, List.not_mem_nil, forall_const, List.range, List.range.loop, ne_eq, not_false_eq_true, not_true_eq_false, List.cons.injEq, Prod.mk.injEq, List.append_nil, List.nil_append, List.cons_append, false_and, and_false, Bool.false_and, Bool.and_false, Nat.reduceBNe, Nat.reduceBEq, beq_self_eq_true, bne_self_eq_false, Nat.reduceBeqDiff, Bool.or_false, Bool.false_or, Bool.or_true, Bool.true_or, vs0, vs1, vs2, vs3, vs4, tys, gl0, Tryd.ntmps99, Tryd.results99, retB, boxF, reach, getAll, posN, addN, D.ids, D.idsL, D.tks, D.tksL, ownTk, backN, enumS, zipS, BF.toR, D.ren, D.rens, renO, nodupB, List.contains_cons, List.contains_nil, Bool.or_false, Bool.or_true, Bool.false_or, Bool.true_or, List.getElem?_nil, List.append_assoc, List.cons_append, List.elem_cons, List.elem_nil]
    have hd : ∀ j, (List.drop (4 * n).toNat b).getD j 0 = b.getD (4 * n.toNat + j) 0 := by
      intro j
      rw [show (4 * n).toNat = 4 * n.toNat by omega]
      simp [List.getD]
    have hdl2 : ((List.drop (4 * n).toNat b).length : Int) ≥ 4 := by simp; omega
    have e1 : IntKind.wrap .i64 (n + 1) = n + 1 := IntWalk.i64_in _ (by omega)
    have e2 : IntKind.wrap .i64 (n + 1 - 1) = n := by rw [IntWalk.i64_in _ (by omega)]; omega
    have hgs : ∀ x, (ws.set n.toNat x).getD n.toNat 0 = x := by intro x; simp [List.getD, List.getElem?_set_self (show n.toNat < ws.length by omega)]
    have hn16 : n.toNat < 16 := by omega
    have hnx : nextP b ws n.toNat = wordP b n.toNat := if_pos hn16
    simp only [hd, e1, e2, hgs, hnx, show Int.toNat 3 = 3 from rfl, show Int.toNat 2 = 2 from rfl, show Int.toNat 1 = 1 from rfl, show Int.toNat 0 = 0 from rfl, Nat.add_zero]
    refine ⟨by decide, by omega, by decide, by omega, by decide, by decide, by omega, by decide, by decide, by omega, by decide, by omega, by omega, by kernel_rfl, by omega, by omega, ?_⟩
    exact ⟨[], [], [], ⟨rfl, rfl⟩, ⟨rfl, rfl⟩, ⟨by simp, by simp⟩, by simp, rfl, rfl, ⟨_, rfl, rfl⟩, ⟨_, rfl, rfl⟩, id rfl⟩
  · have h := of_decide_eq_false h
    refine drawI [0, 1, 2] (by kernel_rfl) ?_
    simp (config := {dsimp := false}) only [↓a_range, ↓roundQ_normal, ↓roundQ_ret, ↓roundQ_exit, ↓a_skip, ↓a_exit, ↓a_ret, ↓a_seq, ↓a_cond, ↓a_block, ↓a_loop, ↓a_region, ↓a_draw, ↓a_region', ↓a_draw', ↓then_key, ↓with_key, ↓withY_key, ↓cond_key, ↓one_key, ↓thenQ_normal, ↓thenQ_exit, ↓thenQ_ret, ↓blockQ_normal, ↓blockQ_exit, ↓blockQ_ret, ↓aops, ↓aopsD, ↓imp_tt, ↓imp_ff, ↓imp_tf, ↓imp_ft, ↓imp_tnt, ↓imp_tnf, ↓imp_fnt, ↓imp_fnf, look, setL, resQ, argSlots, buildSt, buildArr, intsOf, eqB, keepSl, bindM, bindP, opR, okIf, ok, bad, ev, ofConst, putS, updS, S.upd, dstOk, yieldD, yieldY, strBin, isShift, cellD, retQ, resD, stripO, convR, conv2R, makeR, indexR, indexAddrR, fieldAddrR, loadR, storeR, allocR, boxR, pickR, buildR, buildSliceR, lenR, nilCheckR, extractR, funcR, ipSlice, sliceR, appendR, callR, minR, maxR, S.box, S.tok, TK.sh, known, tsize, destI, ownTok, srcI, isIn, isSl, isSt, appendI, appendL, bnd, aggBin, nilD, isPtr, fieldOf, sized, enumS, seeR, seeL, hasB, flat, flats, List.foldl_nil, List.foldl_cons, Option.getD_some, Option.getD_none, if_true, if_false, reduceIte, reduceCtorEq, Nat.reduceEqDiff, Nat.reduceAdd, Nat.reduceMul, Nat.reduceLT, Nat.reduceSub, Nat.reduceLeDiff, true_and, and_true, List.map_cons, List.map_nil, List.size_toArray, List.length_cons, List.length_nil, Option.map_some, Option.map_none, Option.bind_some, true_implies, Bool.false_eq_true, Bool.true_eq_false, false_implies, Bool.not_true, Bool.not_false, List.getElem?_cons_zero, List.getElem?_cons_succ, implies_true, and_self, Bool.and_true, Bool.true_and, BEq.rfl, and_assoc, Option.isSome_some, Option.isSome_none, List.take_succ_cons, List.take_zero, List.set_cons_zero, List.set_cons_succ, List.forall_mem_cons, List.not_mem_nil, forall_const, List.range, List.range.loop, ne_eq, not_false_eq_true, not_true_eq_false, List.cons.injEq, Prod.mk.injEq, List.append_nil, List.nil_append, List.cons_append, false_and, and_false, Bool.false_and, Bool.and_false, Nat.reduceBNe, Nat.reduceBEq, beq_self_eq_true, bne_self_eq_false, Nat.reduceBeqDiff, Bool.or_false, Bool.false_or, Bool.or_true, Bool.true_or, vs0, vs1, vs2, vs3, vs4, tys, gl0, Tryd.ntmps99, Tryd.results99, retB, boxF, reach, getAll, posN, addN, D.ids, D.idsL, D.tks, D.tksL, ownTk, backN, enumS, zipS, BF.toR, D.ren, D.rens, renO, nodupB, List.contains_cons, List.contains_nil, Bool.or_false, Bool.or_true, Bool.false_or, Bool.true_or, List.getElem?_nil, List.append_assoc, List.cons_append, List.elem_cons, List.elem_nil]
    have e1 : IntKind.wrap .i64 (n + 1) = n + 1 := IntWalk.i64_in _ (by omega)
    have e2 : IntKind.wrap .i64 (n + 1 - 1) = n := by rw [IntWalk.i64_in _ (by omega)]; omega
    have e15 : IntKind.wrap .i64 (n - 15) = n - 15 := IntWalk.i64_in _ (by omega)
    have e3 : IntKind.wrap .i64 (n - 2) = n - 2 := IntWalk.i64_in _ (by omega)
    have e16 : IntKind.wrap .i64 (n - 16) = n - 16 := IntWalk.i64_in _ (by omega)
    have e7 : IntKind.wrap .i64 (n - 7) = n - 7 := IntWalk.i64_in _ (by omega)
    rw [e15, e3]
    refine ⟨by omega, by omega, by omega, by omega, ?_⟩
    refine drawI [0, 1, 2, 5, 6] (by kernel_rfl) ?_
    simp (config := {dsimp := false}) only [↓a_range, ↓roundQ_normal, ↓roundQ_ret, ↓roundQ_exit, ↓a_skip, ↓a_exit, ↓a_ret, ↓a_seq, ↓a_cond, ↓a_block, ↓a_loop, ↓a_region, ↓a_draw, ↓a_region', ↓a_draw', ↓then_key, ↓with_key, ↓withY_key, ↓cond_key, ↓one_key, ↓thenQ_normal, ↓thenQ_exit, ↓thenQ_ret, ↓blockQ_normal, ↓blockQ_exit, ↓blockQ_ret, ↓aops, ↓aopsD, ↓imp_tt, ↓imp_ff, ↓imp_tf, ↓imp_ft, ↓imp_tnt, ↓imp_tnf, ↓imp_fnt, ↓imp_fnf, look, setL, resQ, argSlots, buildSt, buildArr, intsOf, eqB, keepSl, bindM, bindP, opR, okIf, ok, bad, ev, ofConst, putS, updS, S.upd, dstOk, yieldD, yieldY, strBin, isShift, cellD, retQ, resD, stripO, convR, conv2R, makeR, indexR, indexAddrR, fieldAddrR, loadR, storeR, allocR, boxR, pickR, buildR, buildSliceR, lenR, nilCheckR, extractR, funcR, ipSlice, sliceR, appendR, callR, minR, maxR, S.box, S.tok, TK.sh, known, tsize, destI, ownTok, srcI, isIn, isSl, isSt, appendI, appendL, bnd, aggBin, nilD, isPtr, fieldOf, sized, enumS, seeR, seeL, hasB, flat, flats, List.foldl_nil, List.foldl_cons, Option.getD_some, Option.getD_none, if_true, if_false, reduceIte, reduceCtorEq, Nat.reduceEqDiff, Nat.reduceAdd, Nat.reduceMul, Nat.reduceLT, Nat.reduceSub, Nat.reduceLeDiff, true_and, and_true, List.map_cons, List.map_nil, List.size_toArray, List.length_cons, List.length_nil, Option.map_some, Option.map_none, Option.bind_some, true_implies, Bool.false_eq_true, Bool.true_eq_false, false_implies, Bool.not_true, Bool.not_false, List.getElem?_cons_zero, List.getElem?_cons_succ, implies_true, and_self, Bool.and_true, Bool.true_and, BEq.rfl, and_assoc, Option.isSome_some, Option.isSome_none, List.take_succ_cons, List.take_zero, List.set_cons_zero, List.set_cons_succ, List.forall_mem_cons, List.not_mem_nil, forall_const, List.range, List.range.loop, ne_eq, not_false_eq_true, not_true_eq_false, List.cons.injEq, Prod.mk.injEq, List.append_nil, List.nil_append, List.cons_append, false_and, and_false, Bool.false_and, Bool.and_false, Nat.reduceBNe, Nat.reduceBEq, beq_self_eq_true, bne_self_eq_false, Nat.reduceBeqDiff, Bool.or_false, Bool.false_or, Bool.or_true, Bool.true_or, vs0, vs1, vs2, vs3, vs4, tys, gl0, Tryd.ntmps99, Tryd.results99, retB, boxF, reach, getAll, posN, addN, D.ids, D.idsL, D.tks, D.tksL, ownTk, backN, enumS, zipS, BF.toR, D.ren, D.rens, renO, nodupB, List.contains_cons, List.contains_nil, Bool.or_false, Bool.or_true, Bool.false_or, Bool.true_or, List.getElem?_nil, List.append_assoc, List.cons_append, List.elem_cons, List.elem_nil, PF.toR, gives, givesIf, e16, e7, spec_turned, sp_turned, c_turned, b_turned]
    have hgs : ∀ x, (ws.set n.toNat x).getD n.toNat 0 = x := by intro x; simp [List.getD, List.getElem?_set_self (show n.toNat < ws.length by omega)]
    have n15 : (n - 15).toNat = n.toNat - 15 := by omega
    have n2 : (n - 2).toNat = n.toNat - 2 := by omega
    have n16 : (n - 16).toNat = n.toNat - 16 := by omega
    have n7 : (n - 7).toNat = n.toNat - 7 := by omega
    have nn : ¬ n.toNat < 16 := by omega
    have hnx : nextP b ws n.toNat = _ := if_neg nn
    simp only [e1, e2, hgs, hnx, n15, n2, n16, n7]
    refine ⟨by omega, by omega, by decide, by omega, by omega, by decide, by omega, by omega, by kernel_rfl, by omega, by omega, ?_⟩
    exact ⟨[], [], [], ⟨rfl, rfl⟩, ⟨rfl, rfl⟩, ⟨by simp, by simp⟩, by simp, rfl, rfl, ⟨_, rfl, rfl⟩, ⟨_, rfl, rfl⟩, id rfl⟩
end Go.Vi.C8
end

section
set_option linter.unusedVariables false
set_option linter.unusedSimpArgs false
set_option maxHeartbeats 0
set_option maxRecDepth 20000
namespace Go.Vi.C8
open Go.Proofs

theorem nextP_len (b s : List Int) : ∀ n, (runP b s n).1.length = 64
  | 0 => rfl
  | n + 1 => by simp [runP, nextP_len b s n]
theorem roundL_len (s : List Int) (k : Int) : (roundL s k).length = 8 := rfl
theorem runP_len (b s : List Int) (h : s.length = 8) : ∀ n, (runP b s n).2.length = 8
  | 0 => h
  | n + 1 => rfl
theorem eight (l : List Int) (h : l.length = 8) : l = [l.getD 0 0, l.getD 1 0, l.getD 2 0, l.getD 3 0, l.getD 4 0, l.getD 5 0, l.getD 6 0, l.getD 7 0] := by
  match l, h with
  | [a, b, c, d, e, f, g, i], _ => rfl
theorem kList_get (i : Nat) (h : i < 64) : kList[i]? = some (kList.getD i 0) := by
  have : i < kList.length := h
  simp [List.getD, this]
theorem c_change : Contract E 69 := by
  refine contract_see hE hgl (show E.P.funcs[69]? = some Tryd.f69 from Tryd.func69) rfl (p := sp_change) (fun _ _ _ => rfl) ?_
  intro args hv
  unfold sp_change at hv ⊢
  split at hv
  case h_2 => exact hv.elim
  rename_i a b c d e f g h x
  refine ⟨by simp, Nat.le_of_ble_eq_true rfl, ?_⟩
  simp only [givesIf] at hv
  simp (config := {dsimp := false}) only [↓a_range, ↓roundQ_normal, ↓roundQ_ret, ↓roundQ_exit, ↓a_skip, ↓a_exit, ↓a_ret, ↓a_seq, ↓a_cond, ↓a_block, ↓a_loop, ↓a_region, ↓a_draw, ↓a_region', ↓a_draw', ↓then_key, ↓with_key, ↓withY_key, ↓cond_key, ↓one_key, ↓thenQ_normal, ↓thenQ_exit, ↓thenQ_ret, ↓blockQ_normal, ↓blockQ_exit, ↓blockQ_ret, ↓aops, ↓aopsD, ↓imp_tt, ↓imp_ff, ↓imp_tf, ↓imp_ft, ↓imp_tnt, ↓imp_tnf, ↓imp_fnt, ↓imp_fnf, look, setL, resQ, argSlots, buildSt, buildArr, intsOf, eqB, keepSl, bindM, bindP, opR, okIf, ok, bad, ev, ofConst, putS, updS, S.upd, dstOk, yieldD, yieldY, strBin, isShift, cellD, retQ, resD, stripO, convR, conv2R, makeR, indexR, indexAddrR, fieldAddrR, loadR, storeR, allocR, boxR, pickR, buildR, buildSliceR, lenR, nilCheckR, extractR, funcR, ipSlice, sliceR, appendR, callR, minR, maxR, S.box, S.tok, TK.sh, known, tsize, destI, ownTok, srcI, isIn, isSl, isSt, appendI, appendL, bnd, aggBin, nilD, isPtr, fieldOf, sized, enumS, seeR, seeL, hasB, flat, flats, List.foldl_nil, List.foldl_cons, Option.getD_some, Option.getD_none, if_true, if_false, reduceIte, reduceCtorEq, Nat.reduceEqDiff, Nat.reduceAdd, Nat.reduceMul, Nat.reduceLT, Nat.reduceSub, Nat.reduceLeDiff, true_and, and_true, List.map_cons, List.map_nil, List.size_toArray, List.length_cons, List.length_nil, Option.map_some, Option.map_none, Option.bind_some, true_implies, Bool.false_eq_true, Bool.true_eq_false, false_implies, Bool.not_true, Bool.not_false, List.getElem?_cons_zero, List.getElem?_cons_succ, implies_true, and_self, Bool.and_true, Bool.true_and, BEq.rfl, and_assoc, Option.isSome_some, Option.isSome_none, List.take_succ_cons, List.take_zero, List.set_cons_zero, List.set_cons_succ, List.forall_mem_cons, List.not_mem_nil, forall_const, List.range, List.range.loop, ne_eq, not_false_eq_true, not_true_eq_false, List.cons.injEq, Prod.mk.injEq, List.append_nil, List.nil_append, List.cons_append, false_and, and_false, Bool.false_and, Bool.and_false, Nat.reduceBNe, Nat.reduceBEq, beq_self_eq_true, bne_self_eq_false, Nat.reduceBeqDiff, Bool.or_false, Bool.false_or, Bool.or_true, Bool.true_or, vs0, vs1, vs2, vs3, vs4, tys, gl0, Tryd.ntmps69, Tryd.results69]
  refine drawX [1, 2, 4] [(1, [2, 3]), (3, [0, 1, 2])] [] (by kernel_rfl) (wild_of rfl) ?_
  simp (config := {dsimp := false}) only [↓a_range, ↓roundQ_normal, ↓roundQ_ret, ↓roundQ_exit, ↓a_skip, ↓a_exit, ↓a_ret, ↓a_seq, ↓a_cond, ↓a_block, ↓a_loop, ↓a_region, ↓a_draw, ↓a_region', ↓a_draw', ↓then_key, ↓with_key, ↓withY_key, ↓cond_key, ↓one_key, ↓thenQ_normal, ↓thenQ_exit, ↓thenQ_ret, ↓blockQ_normal, ↓blockQ_exit, ↓blockQ_ret, ↓aops, ↓aopsD, ↓imp_tt, ↓imp_ff, ↓imp_tf, ↓imp_ft, ↓imp_tnt, ↓imp_tnf, ↓imp_fnt, ↓imp_fnf, look, setL, resQ, argSlots, buildSt, buildArr, intsOf, eqB, keepSl, bindM, bindP, opR, okIf, ok, bad, ev, ofConst, putS, updS, S.upd, dstOk, yieldD, yieldY, strBin, isShift, cellD, retQ, resD, stripO, convR, conv2R, makeR, indexR, indexAddrR, fieldAddrR, loadR, storeR, allocR, boxR, pickR, buildR, buildSliceR, lenR, nilCheckR, extractR, funcR, ipSlice, sliceR, appendR, callR, minR, maxR, S.box, S.tok, TK.sh, known, tsize, destI, ownTok, srcI, isIn, isSl, isSt, appendI, appendL, bnd, aggBin, nilD, isPtr, fieldOf, sized, enumS, seeR, seeL, hasB, flat, flats, List.foldl_nil, List.foldl_cons, Option.getD_some, Option.getD_none, if_true, if_false, reduceIte, reduceCtorEq, Nat.reduceEqDiff, Nat.reduceAdd, Nat.reduceMul, Nat.reduceLT, Nat.reduceSub, Nat.reduceLeDiff, true_and, and_true, List.map_cons, List.map_nil, List.size_toArray, List.length_cons, List.length_nil, Option.map_some, Option.map_none, Option.bind_some, true_implies, Bool.false_eq_true, Bool.true_eq_false, false_implies, Bool.not_true, Bool.not_false, List.getElem?_cons_zero, List.getElem?_cons_succ, implies_true, and_self, Bool.and_true, Bool.true_and, BEq.rfl, and_assoc, Option.isSome_some, Option.isSome_none, List.take_succ_cons, List.take_zero, List.set_cons_zero, List.set_cons_succ, List.forall_mem_cons, List.not_mem_nil, forall_const, List.range, List.range.loop, ne_eq, not_false_eq_true, not_true_eq_false, List.cons.injEq, Prod.mk.injEq, List.append_nil, List.nil_append, List.cons_append, false_and, and_false, Bool.false_and, Bool.and_false, Nat.reduceBNe, Nat.reduceBEq, beq_self_eq_true, bne_self_eq_false, Nat.reduceBeqDiff, Bool.or_false, Bool.false_or, Bool.or_true, Bool.true_or, vs0, vs1, vs2, vs3, vs4, tys, gl0, Tryd.ntmps69, Tryd.results69, boxF, reach, getAll, posN, addN, D.ids, D.idsL, D.tks, D.tksL, ownTk, backN, enumS, zipS, BF.toR, D.ren, D.rens, renO, nodupB, List.contains_cons, List.contains_nil, Bool.or_false, Bool.or_true, Bool.false_or, Bool.true_or, List.getElem?_nil, List.append_assoc, List.cons_append, List.elem_cons, List.elem_nil, ↓aopsX, okX_nil, okX_u, okX_t, stateAt, S.drop, dropK, wildIds, finalS, List.filter_cons, List.filter_nil, List.flatMap_cons, List.flatMap_nil, List.contains_cons, List.contains_nil, List.elem_cons, List.elem_nil, Bool.or_false, Bool.or_true, Bool.false_or, Bool.true_or, spec_numbers, sp_numbers, c_numbers, b_numbers]
  refine ⟨okUps_of (by kernel_rfl) rfl, okUps_of (by kernel_rfl) rfl, okUps_all rfl (by kernel_rfl), ?_⟩
  refine loopI (Fin 65) (fun i => [(13, .int .i64 (i.1 : Int)), (12, .arr .u32 64 kList), (5, .fn 99 [.bp 12 0, .bp 13 0, .bp 14 0]), (6, .bp 20 0), (2, .bp 0 0), (4, .bp 4 0)])
    (fun i => ⟨[(0, st8 [a, b, c, d, e, f, g, h]), (4, st8 []), (12, .int .i64 (i.1 : Int)), (13, .sli .no .u8 x), (14, .arr .u32 64 (runP x [a, b, c, d, e, f, g, h] i.1).1), (20, st8 (runP x [a, b, c, d, e, f, g, h] i.1).2)], [], 40⟩) (fun i => 64 - i.1) 0 (fun _ => rfl) ?_ ?_
  · exact ⟨⟨wkD_eq rfl, rfl, wkD_eq rfl, rfl, wkD_eq rfl, rfl, wkD_eq rfl, rfl, wkD_eq rfl, rfl, wkD_eq rfl, rfl, trivial⟩, ⟨rfl, Nat.le_of_ble_eq_true rfl, rfl, rfl, Nat.le_of_ble_eq_true rfl, rfl, rfl, Nat.le_of_ble_eq_true rfl, rfl, rfl, Nat.le_of_ble_eq_true rfl, rfl, rfl, Nat.le_of_ble_eq_true rfl, rfl, rfl, Nat.le_of_ble_eq_true rfl, rfl, trivial⟩, trivial⟩
  rintro ⟨i, hi⟩
  simp (config := {dsimp := false}) only [↓a_range, ↓roundQ_normal, ↓roundQ_ret, ↓roundQ_exit, ↓a_skip, ↓a_exit, ↓a_ret, ↓a_seq, ↓a_cond, ↓a_block, ↓a_loop, ↓a_region, ↓a_draw, ↓a_region', ↓a_draw', ↓then_key, ↓with_key, ↓withY_key, ↓cond_key, ↓one_key, ↓thenQ_normal, ↓thenQ_exit, ↓thenQ_ret, ↓blockQ_normal, ↓blockQ_exit, ↓blockQ_ret, ↓aops, ↓aopsD, ↓imp_tt, ↓imp_ff, ↓imp_tf, ↓imp_ft, ↓imp_tnt, ↓imp_tnf, ↓imp_fnt, ↓imp_fnf, look, setL, resQ, argSlots, buildSt, buildArr, intsOf, eqB, keepSl, bindM, bindP, opR, okIf, ok, bad, ev, ofConst, putS, updS, S.upd, dstOk, yieldD, yieldY, strBin, isShift, cellD, retQ, resD, stripO, convR, conv2R, makeR, indexR, indexAddrR, fieldAddrR, loadR, storeR, allocR, boxR, pickR, buildR, buildSliceR, lenR, nilCheckR, extractR, funcR, ipSlice, sliceR, appendR, callR, minR, maxR, S.box, S.tok, TK.sh, known, tsize, destI, ownTok, srcI, isIn, isSl, isSt, appendI, appendL, bnd, aggBin, nilD, isPtr, fieldOf, sized, enumS, seeR, seeL, hasB, flat, flats, List.foldl_nil, List.foldl_cons, Option.getD_some, Option.getD_none, if_true, if_false, reduceIte, reduceCtorEq, Nat.reduceEqDiff, Nat.reduceAdd, Nat.reduceMul, Nat.reduceLT, Nat.reduceSub, Nat.reduceLeDiff, true_and, and_true, List.map_cons, List.map_nil, List.size_toArray, List.length_cons, List.length_nil, Option.map_some, Option.map_none, Option.bind_some, true_implies, Bool.false_eq_true, Bool.true_eq_false, false_implies, Bool.not_true, Bool.not_false, List.getElem?_cons_zero, List.getElem?_cons_succ, implies_true, and_self, Bool.and_true, Bool.true_and, BEq.rfl, and_assoc, Option.isSome_some, Option.isSome_none, List.take_succ_cons, List.take_zero, List.set_cons_zero, List.set_cons_succ, List.forall_mem_cons, List.not_mem_nil, forall_const, List.range, List.range.loop, ne_eq, not_false_eq_true, not_true_eq_false, List.cons.injEq, Prod.mk.injEq, List.append_nil, List.nil_append, List.cons_append, false_and, and_false, Bool.false_and, Bool.and_false, Nat.reduceBNe, Nat.reduceBEq, beq_self_eq_true, bne_self_eq_false, Nat.reduceBeqDiff, Bool.or_false, Bool.false_or, Bool.or_true, Bool.true_or, vs0, vs1, vs2, vs3, vs4, tys, gl0, Tryd.ntmps69, Tryd.results69, st8]
  refine ⟨fun hh => ?_, fun hh => ?_⟩
  · have hh := of_decide_eq_true hh
    have hw := nextP_len x [a, b, c, d, e, f, g, h] i
    refine ⟨by omega, by omega, ?_⟩
    refine drawX [2, 4, 5, 6, 8, 12, 13] [(3, [0, 1])] [(3, [12, 13, 14])] (by kernel_rfl) (wild_of rfl) ?_
    simp (config := {dsimp := false}) only [↓a_range, ↓roundQ_normal, ↓roundQ_ret, ↓roundQ_exit, ↓a_skip, ↓a_exit, ↓a_ret, ↓a_seq, ↓a_cond, ↓a_block, ↓a_loop, ↓a_region, ↓a_draw, ↓a_region', ↓a_draw', ↓then_key, ↓with_key, ↓withY_key, ↓cond_key, ↓one_key, ↓thenQ_normal, ↓thenQ_exit, ↓thenQ_ret, ↓blockQ_normal, ↓blockQ_exit, ↓blockQ_ret, ↓aops, ↓aopsD, ↓imp_tt, ↓imp_ff, ↓imp_tf, ↓imp_ft, ↓imp_tnt, ↓imp_tnf, ↓imp_fnt, ↓imp_fnf, look, setL, resQ, argSlots, buildSt, buildArr, intsOf, eqB, keepSl, bindM, bindP, opR, okIf, ok, bad, ev, ofConst, putS, updS, S.upd, dstOk, yieldD, yieldY, strBin, isShift, cellD, retQ, resD, stripO, convR, conv2R, makeR, indexR, indexAddrR, fieldAddrR, loadR, storeR, allocR, boxR, pickR, buildR, buildSliceR, lenR, nilCheckR, extractR, funcR, ipSlice, sliceR, appendR, callR, minR, maxR, S.box, S.tok, TK.sh, known, tsize, destI, ownTok, srcI, isIn, isSl, isSt, appendI, appendL, bnd, aggBin, nilD, isPtr, fieldOf, sized, enumS, seeR, seeL, hasB, flat, flats, List.foldl_nil, List.foldl_cons, Option.getD_some, Option.getD_none, if_true, if_false, reduceIte, reduceCtorEq, Nat.reduceEqDiff, Nat.reduceAdd, Nat.reduceMul, Nat.reduceLT, Nat.reduceSub, Nat.reduceLeDiff, true_and, and_true, List.map_cons, List.map_nil, List.size_toArray, List.length_cons, List.length_nil, Option.map_some, Option.map_none, Option.bind_some, true_implies, Bool.false_eq_true, Bool.true_eq_false, false_implies, Bool.not_true, Bool.not_false, List.getElem?_cons_zero, List.getElem?_cons_succ, implies_true, and_self, Bool.and_true, Bool.true_and, BEq.rfl, and_assoc, Option.isSome_some, Option.isSome_none, List.take_succ_cons, List.take_zero, List.set_cons_zero, List.set_cons_succ, List.forall_mem_cons, List.not_mem_nil, forall_const, List.range, List.range.loop, ne_eq, not_false_eq_true, not_true_eq_false, List.cons.injEq, Prod.mk.injEq, List.append_nil, List.nil_append, List.cons_append, false_and, and_false, Bool.false_and, Bool.and_false, Nat.reduceBNe, Nat.reduceBEq, beq_self_eq_true, bne_self_eq_false, Nat.reduceBeqDiff, Bool.or_false, Bool.false_or, Bool.or_true, Bool.true_or, vs0, vs1, vs2, vs3, vs4, tys, gl0, Tryd.ntmps69, Tryd.results69, boxF, reach, getAll, posN, addN, D.ids, D.idsL, D.tks, D.tksL, ownTk, backN, enumS, zipS, BF.toR, D.ren, D.rens, renO, nodupB, List.contains_cons, List.contains_nil, Bool.or_false, Bool.or_true, Bool.false_or, Bool.true_or, List.getElem?_nil, List.append_assoc, List.cons_append, List.elem_cons, List.elem_nil, ↓aopsX, okX_nil, okX_u, okX_t, stateAt, S.drop, dropK, wildIds, finalS, List.filter_cons, List.filter_nil, List.flatMap_cons, List.flatMap_nil, List.contains_cons, List.contains_nil, List.elem_cons, List.elem_nil, Bool.or_false, Bool.or_true, Bool.false_or, Bool.true_or, PF.toR, gives, u32s, roundI, spec_next, sp_next, c_next, b_next, spec_round, sp_round, c_round, b_round]
    refine ⟨by omega, by omega, hv, hw, okUps_of (by kernel_rfl) rfl, okUps_all rfl (by kernel_rfl), ⟨i + 1, by omega⟩, ⟨⟨wkD_eq ?_, rfl, wkD_eq rfl, rfl, wkD_eq rfl, rfl, wkD_eq rfl, rfl, wkD_eq rfl, rfl, wkD_eq rfl, rfl, trivial⟩, ⟨rfl, Nat.le_of_ble_eq_true rfl, rfl, rfl, Nat.le_of_ble_eq_true rfl, rfl, rfl, Nat.le_of_ble_eq_true rfl, rfl, rfl, Nat.le_of_ble_eq_true rfl, rfl, rfl, Nat.le_of_ble_eq_true rfl, rfl, rfl, Nat.le_of_ble_eq_true rfl, rfl, trivial⟩, trivial⟩, by (try simp only); omega⟩
    exact some_i64 (by (try simp only); omega)
  · have hh := of_decide_eq_false hh
    obtain rfl : i = 64 := by omega
    simp (config := {dsimp := false}) only [↓a_range, ↓roundQ_normal, ↓roundQ_ret, ↓roundQ_exit, ↓a_skip, ↓a_exit, ↓a_ret, ↓a_seq, ↓a_cond, ↓a_block, ↓a_loop, ↓a_region, ↓a_draw, ↓a_region', ↓a_draw', ↓then_key, ↓with_key, ↓withY_key, ↓cond_key, ↓one_key, ↓thenQ_normal, ↓thenQ_exit, ↓thenQ_ret, ↓blockQ_normal, ↓blockQ_exit, ↓blockQ_ret, ↓aops, ↓aopsD, ↓imp_tt, ↓imp_ff, ↓imp_tf, ↓imp_ft, ↓imp_tnt, ↓imp_tnf, ↓imp_fnt, ↓imp_fnf, look, setL, resQ, argSlots, buildSt, buildArr, intsOf, eqB, keepSl, bindM, bindP, opR, okIf, ok, bad, ev, ofConst, putS, updS, S.upd, dstOk, yieldD, yieldY, strBin, isShift, cellD, retQ, resD, stripO, convR, conv2R, makeR, indexR, indexAddrR, fieldAddrR, loadR, storeR, allocR, boxR, pickR, buildR, buildSliceR, lenR, nilCheckR, extractR, funcR, ipSlice, sliceR, appendR, callR, minR, maxR, S.box, S.tok, TK.sh, known, tsize, destI, ownTok, srcI, isIn, isSl, isSt, appendI, appendL, bnd, aggBin, nilD, isPtr, fieldOf, sized, enumS, seeR, seeL, hasB, flat, flats, List.foldl_nil, List.foldl_cons, Option.getD_some, Option.getD_none, if_true, if_false, reduceIte, reduceCtorEq, Nat.reduceEqDiff, Nat.reduceAdd, Nat.reduceMul, Nat.reduceLT, Nat.reduceSub, Nat.reduceLeDiff, true_and, and_true, List.map_cons, List.map_nil, List.size_toArray, List.length_cons, List.length_nil, Option.map_some, Option.map_none, Option.bind_some, true_implies, Bool.false_eq_true, Bool.true_eq_false, false_implies, Bool.not_true, Bool.not_false, List.getElem?_cons_zero, List.getElem?_cons_succ, implies_true, and_self, Bool.and_true, Bool.true_and, BEq.rfl, and_assoc, Option.isSome_some, Option.isSome_none, List.take_succ_cons, List.take_zero, List.set_cons_zero, List.set_cons_succ, List.forall_mem_cons, List.not_mem_nil, forall_const, List.range, List.range.loop, ne_eq, not_false_eq_true, not_true_eq_false, List.cons.injEq, Prod.mk.injEq, List.append_nil, List.nil_append, List.cons_append, false_and, and_false, Bool.false_and, Bool.and_false, Nat.reduceBNe, Nat.reduceBEq, beq_self_eq_true, bne_self_eq_false, Nat.reduceBeqDiff, Bool.or_false, Bool.false_or, Bool.or_true, Bool.true_or, vs0, vs1, vs2, vs3, vs4, tys, gl0, Tryd.ntmps69, Tryd.results69, boxF, reach, getAll, posN, addN, D.ids, D.idsL, D.tks, D.tksL, ownTk, backN, enumS, zipS, BF.toR, D.ren, D.rens, renO, nodupB, List.contains_cons, List.contains_nil, Bool.or_false, Bool.or_true, Bool.false_or, Bool.true_or, List.getElem?_nil, List.append_assoc, List.cons_append, List.elem_cons, List.elem_nil, PF.toR, gives, u32s, spec_plus, sp_plus, c_plus, b_plus]
    rfl
theorem closingI_len (n : Int) : (closingI n).length = pad n + 9 := by simp [closingI]; rfl
theorem paddedP_len (gone : Int) (r : List Int) (h : r.length < 1000000000) (h0 : 0 ≤ gone) (h1 : gone < 1000000000) (h2 : gone % 64 = 0) : ∃ m, (paddedP gone r).length = 64 * m ∧ m < 16000000 := by
  refine ⟨(paddedP gone r).length / 64, ?_, ?_⟩ <;> simp [paddedP, closingI_len] <;> unfold pad <;> omega
theorem changeP_len (s b : List Int) : (changeP s b).length = 8 := by simp [changeP, plusL]
theorem blocksP_len (all s : List Int) (h : s.length = 8) : ∀ i, (blocksP all s i).length = 8
  | 0 => h
  | i + 1 => changeP_len _ _
theorem outP_len (s : List Int) : (outP s).length = 32 := by simp [outP]
theorem st8_of (l : List Int) (h : l.length = 8) : D.agg (u32s l) = st8 l := by
  match l, h with
  | [a, b, c, d, e, f, g, i], _ => rfl
theorem set4 (L : List Int) (j : Nat) (hL : L.length = 32) (hj : j < 8) (a b c d : Int) (ha : L[4 * j]? = some a) (hb : L[4 * j + 1]? = some b) (hc : L[4 * j + 2]? = some c) (hd : L[4 * j + 3]? = some d) :
    ((((L.take (4 * j) ++ List.replicate (32 - 4 * j) 0).set (4 * j) a).set (4 * j + 1) b).set (4 * j + 2) c).set (4 * j + 3) d = L.take (4 * (j + 1)) ++ List.replicate (32 - 4 * (j + 1)) 0 := by
  have hT : (L.take (4 * j)).length = 4 * j := by simp; omega
  have e1 : 4 * (j + 1) = 4 * j + 1 + 1 + 1 + 1 := by omega
  have e2 : 32 - 4 * j = (32 - (4 * j + 1 + 1 + 1 + 1)) + 1 + 1 + 1 + 1 := by omega
  rw [e2, e1]
  simp only [List.replicate_succ]
  rw [List.set_append_right _ _ (by omega), List.set_append_right _ _ (by omega), List.set_append_right _ _ (by omega), List.set_append_right _ _ (by omega), hT]
  simp only [Nat.sub_self, List.set_cons_zero, show 4 * j + 1 - 4 * j = 1 by omega, show 4 * j + 2 - 4 * j = 2 by omega, show 4 * j + 3 - 4 * j = 3 by omega, List.set_cons_succ]
  simp only [List.take_add_one, ha, hb, hc, hd, Option.toList, List.append_assoc, List.cons_append, List.nil_append]
theorem outP_at (s : List Int) (j r : Nat) (hj : j < 8) (hr : r < 4) : (outP s)[4 * j + r]? = some (IntKind.wrap .u8 (if r = 3 then s.getD j 0 else shrI .u32 (s.getD j 0) (24 - 8 * (r : Int)))) := by
  have h1 : (4 * j + r) % 4 = r := by omega
  have h2 : (4 * j + r) / 4 = j := by omega
  simp only [outP, List.getElem?_map, List.getElem?_range (show 4 * j + r < 32 by omega), Option.map_some, h1, h2]
theorem c_digest : Contract E 59 := by
  refine contract_see hE hgl (show E.P.funcs[59]? = some Tryd.f59 from Tryd.func59) rfl (p := sp_digest) (fun _ _ _ => rfl) ?_
  intro args hv
  unfold sp_digest at hv ⊢
  split at hv
  case h_2 => exact hv.elim
  rename_i a b c d e f g h n x
  refine ⟨by simp, Nat.le_of_ble_eq_true rfl, ?_⟩
  simp only [givesIf] at hv
  obtain ⟨hx, h0', h1, h2⟩ := hv
  obtain ⟨m, hm, hm2⟩ := paddedP_len n x hx h0' h1 h2
  have e1 : IntKind.wrap .i64 (n + (x.length : Int)) = n + x.length := IntWalk.i64_in _ (by omega)
  simp (config := {dsimp := false}) only [↓a_range, ↓roundQ_normal, ↓roundQ_ret, ↓roundQ_exit, ↓a_skip, ↓a_exit, ↓a_ret, ↓a_seq, ↓a_cond, ↓a_block, ↓a_loop, ↓a_region, ↓a_draw, ↓a_region', ↓a_draw', ↓then_key, ↓with_key, ↓withY_key, ↓cond_key, ↓one_key, ↓thenQ_normal, ↓thenQ_exit, ↓thenQ_ret, ↓blockQ_normal, ↓blockQ_exit, ↓blockQ_ret, ↓aops, ↓aopsD, ↓imp_tt, ↓imp_ff, ↓imp_tf, ↓imp_ft, ↓imp_tnt, ↓imp_tnf, ↓imp_fnt, ↓imp_fnf, look, setL, resQ, argSlots, buildSt, buildArr, intsOf, eqB, keepSl, bindM, bindP, opR, okIf, ok, bad, ev, ofConst, putS, updS, S.upd, dstOk, yieldD, yieldY, strBin, isShift, cellD, retQ, resD, stripO, convR, conv2R, makeR, indexR, indexAddrR, fieldAddrR, loadR, storeR, allocR, boxR, pickR, buildR, buildSliceR, lenR, nilCheckR, extractR, funcR, ipSlice, sliceR, appendR, callR, minR, maxR, S.box, S.tok, TK.sh, known, tsize, destI, ownTok, srcI, isIn, isSl, isSt, appendI, appendL, bnd, aggBin, nilD, isPtr, fieldOf, sized, enumS, seeR, seeL, hasB, flat, flats, List.foldl_nil, List.foldl_cons, Option.getD_some, Option.getD_none, if_true, if_false, reduceIte, reduceCtorEq, Nat.reduceEqDiff, Nat.reduceAdd, Nat.reduceMul, Nat.reduceLT, Nat.reduceSub, Nat.reduceLeDiff, true_and, and_true, List.map_cons, List.map_nil, List.size_toArray, List.length_cons, List.length_nil, Option.map_some, Option.map_none, Option.bind_some, true_implies, Bool.false_eq_true, Bool.true_eq_false, false_implies, Bool.not_true, Bool.not_false, List.getElem?_cons_zero, List.getElem?_cons_succ, implies_true, and_self, Bool.and_true, Bool.true_and, BEq.rfl, and_assoc, Option.isSome_some, Option.isSome_none, List.take_succ_cons, List.take_zero, List.set_cons_zero, List.set_cons_succ, List.forall_mem_cons, List.not_mem_nil, forall_const, List.range, List.range.loop, ne_eq, not_false_eq_true, not_true_eq_false, List.cons.injEq, Prod.mk.injEq, List.append_nil, List.nil_append, List.cons_append, false_and, and_false, Bool.false_and, Bool.and_false, Nat.reduceBNe, Nat.reduceBEq, beq_self_eq_true, bne_self_eq_false, Nat.reduceBeqDiff, Bool.or_false, Bool.false_or, Bool.or_true, Bool.true_or, vs0, vs1, vs2, vs3, vs4, tys, gl0, Tryd.ntmps59, Tryd.results59, PF.toR, gives, givesIf, e1, spec_closing, sp_closing, c_closing, b_closing]
  have hpd : x ++ 128 :: (List.replicate (pad (n + ↑x.length)) 0 ++ beBytes (n + ↑x.length)) = paddedP n x := by simp [paddedP, closingI]
  have hlen : x.length + ((List.replicate (pad (n + ↑x.length)) (0 : Int) ++ beBytes (n + ↑x.length)).length + 1) = (paddedP n x).length := by rw [← hpd]; simp
  have hlen2 : x.length ≤ (paddedP n x).length := by rw [← hlen]; omega
  rw [hpd, hlen]
  refine ⟨by omega, by omega, by omega, by simp, by omega, ?_⟩
  generalize hst : [a, b, c, d, e, f, g, h] = s0
  have hs0 : s0.length = 8 := by rw [← hst]; rfl
  refine loopI (Fin (m + 1)) (fun i => [(7, .sli .no .u8 ((paddedP n x).drop (64 * i.1))), (3, .bp 0 0), (6, .bp 4 0)]) (fun i => ⟨[(0, st8 (blocksP (paddedP n x) s0 i.1)), (4, .arr .u8 32 (List.replicate 32 0))], [], 48⟩) (fun i => m - i.1) 0 (fun _ => rfl) ?_ ?_
  · refine ⟨⟨.inr ⟨_, rfl⟩, rfl, wkD_eq rfl, rfl, wkD_eq rfl, rfl, trivial⟩, ⟨?_, Nat.le_of_ble_eq_true rfl, rfl, rfl, Nat.le_of_ble_eq_true rfl, rfl, trivial⟩, trivial⟩
    subst hst
    rfl
  rintro ⟨i, hi⟩
  simp (config := {dsimp := false}) only [↓a_range, ↓roundQ_normal, ↓roundQ_ret, ↓roundQ_exit, ↓a_skip, ↓a_exit, ↓a_ret, ↓a_seq, ↓a_cond, ↓a_block, ↓a_loop, ↓a_region, ↓a_draw, ↓a_region', ↓a_draw', ↓then_key, ↓with_key, ↓withY_key, ↓cond_key, ↓one_key, ↓thenQ_normal, ↓thenQ_exit, ↓thenQ_ret, ↓blockQ_normal, ↓blockQ_exit, ↓blockQ_ret, ↓aops, ↓aopsD, ↓imp_tt, ↓imp_ff, ↓imp_tf, ↓imp_ft, ↓imp_tnt, ↓imp_tnf, ↓imp_fnt, ↓imp_fnf, look, setL, resQ, argSlots, buildSt, buildArr, intsOf, eqB, keepSl, bindM, bindP, opR, okIf, ok, bad, ev, ofConst, putS, updS, S.upd, dstOk, yieldD, yieldY, strBin, isShift, cellD, retQ, resD, stripO, convR, conv2R, makeR, indexR, indexAddrR, fieldAddrR, loadR, storeR, allocR, boxR, pickR, buildR, buildSliceR, lenR, nilCheckR, extractR, funcR, ipSlice, sliceR, appendR, callR, minR, maxR, S.box, S.tok, TK.sh, known, tsize, destI, ownTok, srcI, isIn, isSl, isSt, appendI, appendL, bnd, aggBin, nilD, isPtr, fieldOf, sized, enumS, seeR, seeL, hasB, flat, flats, List.foldl_nil, List.foldl_cons, Option.getD_some, Option.getD_none, if_true, if_false, reduceIte, reduceCtorEq, Nat.reduceEqDiff, Nat.reduceAdd, Nat.reduceMul, Nat.reduceLT, Nat.reduceSub, Nat.reduceLeDiff, true_and, and_true, List.map_cons, List.map_nil, List.size_toArray, List.length_cons, List.length_nil, Option.map_some, Option.map_none, Option.bind_some, true_implies, Bool.false_eq_true, Bool.true_eq_false, false_implies, Bool.not_true, Bool.not_false, List.getElem?_cons_zero, List.getElem?_cons_succ, implies_true, and_self, Bool.and_true, Bool.true_and, BEq.rfl, and_assoc, Option.isSome_some, Option.isSome_none, List.take_succ_cons, List.take_zero, List.set_cons_zero, List.set_cons_succ, List.forall_mem_cons, List.not_mem_nil, forall_const, List.range, List.range.loop, ne_eq, not_false_eq_true, not_true_eq_false, List.cons.injEq, Prod.mk.injEq, List.append_nil, List.nil_append, List.cons_append, false_and, and_false, Bool.false_and, Bool.and_false, Nat.reduceBNe, Nat.reduceBEq, beq_self_eq_true, bne_self_eq_false, Nat.reduceBeqDiff, Bool.or_false, Bool.false_or, Bool.or_true, Bool.true_or, vs0, vs1, vs2, vs3, vs4, tys, gl0, Tryd.ntmps59, Tryd.results59, PF.toR, givesIf, st8, u32s, spec_change, sp_change, c_change, b_change]
  have hdl : ((paddedP n x).drop (64 * i)).length = 64 * (m - i) := by simp; omega
  rw [hdl]
  have hb8 := blocksP_len (paddedP n x) s0 hs0 i
  refine ⟨fun hh => ?_, fun hh => ?_⟩
  · have hh := of_decide_eq_true hh
    have hlt : i < m := by omega
    refine ⟨by omega, by decide, by omega, Int.le_refl _, ⟨i + 1, by omega⟩, ⟨⟨wkD_eq ?_, rfl, wkD_eq rfl, rfl, wkD_eq rfl, rfl, trivial⟩, ⟨?_, Nat.le_of_ble_eq_true rfl, rfl, rfl, Nat.le_of_ble_eq_true rfl, rfl, trivial⟩, trivial⟩, by (try simp only); omega⟩
    · refine some_sli ?_
      rw [List.take_of_length_le (by omega), List.drop_drop]
      rfl
    · exact congrArg (fun l => some (st8 (changeP l ((paddedP n x).drop (64 * i))))) (eight _ hb8).symm
  · have hh := of_decide_eq_false hh
    obtain rfl : i = m := by omega
    generalize hbs : blocksP (paddedP n x) s0 i = st at hb8 ⊢
    refine loopI (Fin 9) (fun j => [(44, .int .i64 (j.1 : Int)), (43, .arr .u32 8 [st.getD 0 0, st.getD 1 0, st.getD 2 0, st.getD 3 0, st.getD 4 0, st.getD 5 0, st.getD 6 0, st.getD 7 0]), (6, .bp 4 0)]) (fun j => ⟨[(4, .arr .u8 32 ((outP st).take (4 * j.1) ++ List.replicate (32 - 4 * j.1) 0))], [], 132⟩) (fun j => 8 - j.1) 0 (fun _ => rfl) ?_ ?_
    · exact ⟨⟨wkD_eq rfl, rfl, wkD_eq rfl, rfl, wkD_eq rfl, rfl, trivial⟩, ⟨rfl, Nat.le_of_ble_eq_true rfl, rfl, trivial⟩, trivial⟩
    rw [← eight _ hb8]
    rintro ⟨j, hj⟩
    simp (config := {dsimp := false}) only [↓a_range, ↓roundQ_normal, ↓roundQ_ret, ↓roundQ_exit, ↓a_skip, ↓a_exit, ↓a_ret, ↓a_seq, ↓a_cond, ↓a_block, ↓a_loop, ↓a_region, ↓a_draw, ↓a_region', ↓a_draw', ↓then_key, ↓with_key, ↓withY_key, ↓cond_key, ↓one_key, ↓thenQ_normal, ↓thenQ_exit, ↓thenQ_ret, ↓blockQ_normal, ↓blockQ_exit, ↓blockQ_ret, ↓aops, ↓aopsD, ↓imp_tt, ↓imp_ff, ↓imp_tf, ↓imp_ft, ↓imp_tnt, ↓imp_tnf, ↓imp_fnt, ↓imp_fnf, look, setL, resQ, argSlots, buildSt, buildArr, intsOf, eqB, keepSl, bindM, bindP, opR, okIf, ok, bad, ev, ofConst, putS, updS, S.upd, dstOk, yieldD, yieldY, strBin, isShift, cellD, retQ, resD, stripO, convR, conv2R, makeR, indexR, indexAddrR, fieldAddrR, loadR, storeR, allocR, boxR, pickR, buildR, buildSliceR, lenR, nilCheckR, extractR, funcR, ipSlice, sliceR, appendR, callR, minR, maxR, S.box, S.tok, TK.sh, known, tsize, destI, ownTok, srcI, isIn, isSl, isSt, appendI, appendL, bnd, aggBin, nilD, isPtr, fieldOf, sized, enumS, seeR, seeL, hasB, flat, flats, List.foldl_nil, List.foldl_cons, Option.getD_some, Option.getD_none, if_true, if_false, reduceIte, reduceCtorEq, Nat.reduceEqDiff, Nat.reduceAdd, Nat.reduceMul, Nat.reduceLT, Nat.reduceSub, Nat.reduceLeDiff, true_and, and_true, List.map_cons, List.map_nil, List.size_toArray, List.length_cons, List.length_nil, Option.map_some, Option.map_none, Option.bind_some, true_implies, Bool.false_eq_true, Bool.true_eq_false, false_implies, Bool.not_true, Bool.not_false, List.getElem?_cons_zero, List.getElem?_cons_succ, implies_true, and_self, Bool.and_true, Bool.true_and, BEq.rfl, and_assoc, Option.isSome_some, Option.isSome_none, List.take_succ_cons, List.take_zero, List.set_cons_zero, List.set_cons_succ, List.forall_mem_cons, List.not_mem_nil, forall_const, List.range, List.range.loop, ne_eq, not_false_eq_true, not_true_eq_false, List.cons.injEq, Prod.mk.injEq, List.append_nil, List.nil_append, List.cons_append, false_and, and_false, Bool.false_and, Bool.and_false, Nat.reduceBNe, Nat.reduceBEq, beq_self_eq_true, bne_self_eq_false, Nat.reduceBeqDiff, Bool.or_false, Bool.false_or, Bool.or_true, Bool.true_or, vs0, vs1, vs2, vs3, vs4, tys, gl0, Tryd.ntmps59, Tryd.results59]
    refine ⟨fun hh => ?_, fun hh => ?_⟩
    · have hh := of_decide_eq_true hh
      have e4 : IntKind.wrap .i64 (4 * (j : Int)) = 4 * j := IntWalk.i64_in _ (by omega)
      rw [e4]
      have e5 : IntKind.wrap .i64 (4 * (j : Int) + 1) = 4 * j + 1 := IntWalk.i64_in _ (by omega)
      have e6 : IntKind.wrap .i64 (4 * (j : Int) + 2) = 4 * j + 2 := IntWalk.i64_in _ (by omega)
      have e7 : IntKind.wrap .i64 (4 * (j : Int) + 3) = 4 * j + 3 := IntWalk.i64_in _ (by omega)
      rw [e5, e6, e7]
      refine ⟨by omega, by omega, by decide, by decide, by decide, by omega, by omega, by omega, by omega, by omega, by omega, by omega, by omega, ⟨j + 1, by omega⟩, ⟨⟨wkD_eq ?_, rfl, wkD_eq rfl, rfl, wkD_eq rfl, rfl, trivial⟩, ⟨?_, Nat.le_of_ble_eq_true rfl, rfl, trivial⟩, trivial⟩, by (try simp only); omega⟩
      · exact some_i64 (by (try simp only); omega)
      · refine some_arr ?_
        rw [show (4 * (j : Int) + 1).toNat = 4 * j + 1 by omega, show (4 * (j : Int) + 2).toNat = 4 * j + 2 by omega, show (4 * (j : Int) + 3).toNat = 4 * j + 3 by omega, show (4 * (j : Int)).toNat = 4 * j by omega]
        exact set4 (outP st) j (outP_len st) (by omega) _ _ _ _ (outP_at st j 0 (by omega) (by omega)) (outP_at st j 1 (by omega) (by omega)) (outP_at st j 2 (by omega) (by omega)) (outP_at st j 3 (by omega) (by omega))
    · have hh := of_decide_eq_false hh
      obtain rfl : j = 8 := by omega
      subst hbs hst
      have : (paddedP n x).length / 64 = i := by omega
      rw [List.take_of_length_le (by rw [outP_len]; decide)]
      simp [digestP, this, givesIf]
theorem c_sum : Contract E 49 := by
  refine contract_see hE hgl (show E.P.funcs[49]? = some Tryd.f49 from Tryd.func49) rfl (p := sp_sum) (fun _ _ _ => rfl) ?_
  intro args hv
  unfold sp_sum at hv ⊢
  split at hv
  case h_2 => exact hv.elim
  rename_i b
  refine ⟨by simp, Nat.le_of_ble_eq_true rfl, ?_⟩
  simp only [givesIf] at hv
  simp (config := {dsimp := false}) only [↓a_range, ↓roundQ_normal, ↓roundQ_ret, ↓roundQ_exit, ↓a_skip, ↓a_exit, ↓a_ret, ↓a_seq, ↓a_cond, ↓a_block, ↓a_loop, ↓a_region, ↓a_draw, ↓a_region', ↓a_draw', ↓then_key, ↓with_key, ↓withY_key, ↓cond_key, ↓one_key, ↓thenQ_normal, ↓thenQ_exit, ↓thenQ_ret, ↓blockQ_normal, ↓blockQ_exit, ↓blockQ_ret, ↓aops, ↓aopsD, ↓imp_tt, ↓imp_ff, ↓imp_tf, ↓imp_ft, ↓imp_tnt, ↓imp_tnf, ↓imp_fnt, ↓imp_fnf, look, setL, resQ, argSlots, buildSt, buildArr, intsOf, eqB, keepSl, bindM, bindP, opR, okIf, ok, bad, ev, ofConst, putS, updS, S.upd, dstOk, yieldD, yieldY, strBin, isShift, cellD, retQ, resD, stripO, convR, conv2R, makeR, indexR, indexAddrR, fieldAddrR, loadR, storeR, allocR, boxR, pickR, buildR, buildSliceR, lenR, nilCheckR, extractR, funcR, ipSlice, sliceR, appendR, callR, minR, maxR, S.box, S.tok, TK.sh, known, tsize, destI, ownTok, srcI, isIn, isSl, isSt, appendI, appendL, bnd, aggBin, nilD, isPtr, fieldOf, sized, enumS, seeR, seeL, hasB, flat, flats, List.foldl_nil, List.foldl_cons, Option.getD_some, Option.getD_none, if_true, if_false, reduceIte, reduceCtorEq, Nat.reduceEqDiff, Nat.reduceAdd, Nat.reduceMul, Nat.reduceLT, Nat.reduceSub, Nat.reduceLeDiff, true_and, and_true, List.map_cons, List.map_nil, List.size_toArray, List.length_cons, List.length_nil, Option.map_some, Option.map_none, Option.bind_some, true_implies, Bool.false_eq_true, Bool.true_eq_false, false_implies, Bool.not_true, Bool.not_false, List.getElem?_cons_zero, List.getElem?_cons_succ, implies_true, and_self, Bool.and_true, Bool.true_and, BEq.rfl, and_assoc, Option.isSome_some, Option.isSome_none, List.take_succ_cons, List.take_zero, List.set_cons_zero, List.set_cons_succ, List.forall_mem_cons, List.not_mem_nil, forall_const, List.range, List.range.loop, ne_eq, not_false_eq_true, not_true_eq_false, List.cons.injEq, Prod.mk.injEq, List.append_nil, List.nil_append, List.cons_append, false_and, and_false, Bool.false_and, Bool.and_false, Nat.reduceBNe, Nat.reduceBEq, beq_self_eq_true, bne_self_eq_false, Nat.reduceBeqDiff, Bool.or_false, Bool.false_or, Bool.or_true, Bool.true_or, vs0, vs1, vs2, vs3, vs4, tys, gl0, Tryd.ntmps49, Tryd.results49, PF.toR, gives, givesIf, u32s, h0, spec_first, sp_first, c_first, b_first, spec_digest, sp_digest, c_digest, b_digest]
  exact ⟨hv, by decide, by decide, by decide, rfl⟩
theorem c_again : Contract E 48 := by
  refine contract_see hE hgl (show E.P.funcs[48]? = some Tryd.f48 from Tryd.func48) rfl (p := sp_again) (fun _ _ _ => rfl) ?_
  intro args hv
  unfold sp_again at hv ⊢
  split at hv
  case h_2 => exact hv.elim
  rename_i h
  refine ⟨by simp, Nat.le_of_ble_eq_true rfl, ?_⟩
  simp only [givesIf] at hv
  simp (config := {dsimp := false}) only [↓a_range, ↓roundQ_normal, ↓roundQ_ret, ↓roundQ_exit, ↓a_skip, ↓a_exit, ↓a_ret, ↓a_seq, ↓a_cond, ↓a_block, ↓a_loop, ↓a_region, ↓a_draw, ↓a_region', ↓a_draw', ↓then_key, ↓with_key, ↓withY_key, ↓cond_key, ↓one_key, ↓thenQ_normal, ↓thenQ_exit, ↓thenQ_ret, ↓blockQ_normal, ↓blockQ_exit, ↓blockQ_ret, ↓aops, ↓aopsD, ↓imp_tt, ↓imp_ff, ↓imp_tf, ↓imp_ft, ↓imp_tnt, ↓imp_tnf, ↓imp_fnt, ↓imp_fnf, look, setL, resQ, argSlots, buildSt, buildArr, intsOf, eqB, keepSl, bindM, bindP, opR, okIf, ok, bad, ev, ofConst, putS, updS, S.upd, dstOk, yieldD, yieldY, strBin, isShift, cellD, retQ, resD, stripO, convR, conv2R, makeR, indexR, indexAddrR, fieldAddrR, loadR, storeR, allocR, boxR, pickR, buildR, buildSliceR, lenR, nilCheckR, extractR, funcR, ipSlice, sliceR, appendR, callR, minR, maxR, S.box, S.tok, TK.sh, known, tsize, destI, ownTok, srcI, isIn, isSl, isSt, appendI, appendL, bnd, aggBin, nilD, isPtr, fieldOf, sized, enumS, seeR, seeL, hasB, flat, flats, List.foldl_nil, List.foldl_cons, Option.getD_some, Option.getD_none, if_true, if_false, reduceIte, reduceCtorEq, Nat.reduceEqDiff, Nat.reduceAdd, Nat.reduceMul, Nat.reduceLT, Nat.reduceSub, Nat.reduceLeDiff, true_and, and_true, List.map_cons, List.map_nil, List.size_toArray, List.length_cons, List.length_nil, Option.map_some, Option.map_none, Option.bind_some, true_implies, Bool.false_eq_true, Bool.true_eq_false, false_implies, Bool.not_true, Bool.not_false, List.getElem?_cons_zero, List.getElem?_cons_succ, implies_true, and_self, Bool.and_true, Bool.true_and, BEq.rfl, and_assoc, Option.isSome_some, Option.isSome_none, List.take_succ_cons, List.take_zero, List.set_cons_zero, List.set_cons_succ, List.forall_mem_cons, List.not_mem_nil, forall_const, List.range, List.range.loop, ne_eq, not_false_eq_true, not_true_eq_false, List.cons.injEq, Prod.mk.injEq, List.append_nil, List.nil_append, List.cons_append, false_and, and_false, Bool.false_and, Bool.and_false, Nat.reduceBNe, Nat.reduceBEq, beq_self_eq_true, bne_self_eq_false, Nat.reduceBeqDiff, Bool.or_false, Bool.false_or, Bool.or_true, Bool.true_or, vs0, vs1, vs2, vs3, vs4, tys, gl0, Tryd.ntmps48, Tryd.results48, PF.toR, gives, givesIf, spec_sum, sp_sum, c_sum, b_sum]
  have e : List.take ((32 : Nat) - 0 : Int).toNat (List.drop (Int.toNat 0) h) = h := by
    rw [show Int.toNat 0 = 0 from rfl, List.drop_zero]
    exact List.take_of_length_le (by rw [hv]; decide)
  rw [e]
  exact ⟨by decide, by decide, by decide, by omega, rfl⟩
theorem c_twice : Contract E 32 := by
  refine contract_see hE hgl (show E.P.funcs[32]? = some Tryd.f32 from Tryd.func32) rfl (p := sp_twice) (fun _ _ _ => rfl) ?_
  intro args hv
  unfold sp_twice at hv ⊢
  split at hv
  case h_2 => exact hv.elim
  rename_i b
  refine ⟨by simp, Nat.le_of_ble_eq_true rfl, ?_⟩
  simp only [givesIf] at hv
  simp (config := {dsimp := false}) only [↓a_range, ↓roundQ_normal, ↓roundQ_ret, ↓roundQ_exit, ↓a_skip, ↓a_exit, ↓a_ret, ↓a_seq, ↓a_cond, ↓a_block, ↓a_loop, ↓a_region, ↓a_draw, ↓a_region', ↓a_draw', ↓then_key, ↓with_key, ↓withY_key, ↓cond_key, ↓one_key, ↓thenQ_normal, ↓thenQ_exit, ↓thenQ_ret, ↓blockQ_normal, ↓blockQ_exit, ↓blockQ_ret, ↓aops, ↓aopsD, ↓imp_tt, ↓imp_ff, ↓imp_tf, ↓imp_ft, ↓imp_tnt, ↓imp_tnf, ↓imp_fnt, ↓imp_fnf, look, setL, resQ, argSlots, buildSt, buildArr, intsOf, eqB, keepSl, bindM, bindP, opR, okIf, ok, bad, ev, ofConst, putS, updS, S.upd, dstOk, yieldD, yieldY, strBin, isShift, cellD, retQ, resD, stripO, convR, conv2R, makeR, indexR, indexAddrR, fieldAddrR, loadR, storeR, allocR, boxR, pickR, buildR, buildSliceR, lenR, nilCheckR, extractR, funcR, ipSlice, sliceR, appendR, callR, minR, maxR, S.box, S.tok, TK.sh, known, tsize, destI, ownTok, srcI, isIn, isSl, isSt, appendI, appendL, bnd, aggBin, nilD, isPtr, fieldOf, sized, enumS, seeR, seeL, hasB, flat, flats, List.foldl_nil, List.foldl_cons, Option.getD_some, Option.getD_none, if_true, if_false, reduceIte, reduceCtorEq, Nat.reduceEqDiff, Nat.reduceAdd, Nat.reduceMul, Nat.reduceLT, Nat.reduceSub, Nat.reduceLeDiff, true_and, and_true, List.map_cons, List.map_nil, List.size_toArray, List.length_cons, List.length_nil, Option.map_some, Option.map_none, Option.bind_some, true_implies, Bool.false_eq_true, Bool.true_eq_false, false_implies, Bool.not_true, Bool.not_false, List.getElem?_cons_zero, List.getElem?_cons_succ, implies_true, and_self, Bool.and_true, Bool.true_and, BEq.rfl, and_assoc, Option.isSome_some, Option.isSome_none, List.take_succ_cons, List.take_zero, List.set_cons_zero, List.set_cons_succ, List.forall_mem_cons, List.not_mem_nil, forall_const, List.range, List.range.loop, ne_eq, not_false_eq_true, not_true_eq_false, List.cons.injEq, Prod.mk.injEq, List.append_nil, List.nil_append, List.cons_append, false_and, and_false, Bool.false_and, Bool.and_false, Nat.reduceBNe, Nat.reduceBEq, beq_self_eq_true, bne_self_eq_false, Nat.reduceBeqDiff, Bool.or_false, Bool.false_or, Bool.or_true, Bool.true_or, vs0, vs1, vs2, vs3, vs4, tys, gl0, Tryd.ntmps32, Tryd.results32, PF.toR, gives, givesIf, spec_sum, sp_sum, c_sum, b_sum, spec_again, sp_again, c_again, b_again]
  exact ⟨hv, outP_len _⟩
end Go.Vi.C8
end

section
set_option linter.unusedVariables false
set_option linter.unusedSimpArgs false
set_option maxHeartbeats 0
set_option maxRecDepth 20000
namespace Go.Vi.C8
open Go.Proofs

theorem take_all {α : Type} (l : List α) (n : Nat) (h : l.length ≤ n) : List.take n (List.drop (Int.toNat 0) l) = l := by
  rw [show Int.toNat 0 = 0 from rfl, List.drop_zero]
  exact List.take_of_length_le h
theorem c_pair : Contract E 42 := by
  refine contract_see hE hgl (show E.P.funcs[42]? = some Tryd.f42 from Tryd.func42) rfl (p := sp_pair) (fun _ _ _ => rfl) ?_
  intro args hv
  unfold sp_pair at hv ⊢
  split at hv
  case h_2 => exact hv.elim
  rename_i a b
  refine ⟨by simp, Nat.le_of_ble_eq_true rfl, ?_⟩
  simp only [givesIf] at hv
  obtain ⟨ha, hb⟩ := hv
  simp (config := {dsimp := false}) only [↓a_range, ↓roundQ_normal, ↓roundQ_ret, ↓roundQ_exit, ↓a_skip, ↓a_exit, ↓a_ret, ↓a_seq, ↓a_cond, ↓a_block, ↓a_loop, ↓a_region, ↓a_draw, ↓a_region', ↓a_draw', ↓then_key, ↓with_key, ↓withY_key, ↓cond_key, ↓one_key, ↓thenQ_normal, ↓thenQ_exit, ↓thenQ_ret, ↓blockQ_normal, ↓blockQ_exit, ↓blockQ_ret, ↓aops, ↓aopsD, ↓imp_tt, ↓imp_ff, ↓imp_tf, ↓imp_ft, ↓imp_tnt, ↓imp_tnf, ↓imp_fnt, ↓imp_fnf, look, setL, resQ, argSlots, buildSt, buildArr, intsOf, eqB, keepSl, bindM, bindP, opR, okIf, ok, bad, ev, ofConst, putS, updS, S.upd, dstOk, yieldD, yieldY, strBin, isShift, cellD, retQ, resD, stripO, convR, conv2R, makeR, indexR, indexAddrR, fieldAddrR, loadR, storeR, allocR, boxR, pickR, buildR, buildSliceR, lenR, nilCheckR, extractR, funcR, ipSlice, sliceR, appendR, callR, minR, maxR, S.box, S.tok, TK.sh, known, tsize, destI, ownTok, srcI, isIn, isSl, isSt, appendI, appendL, bnd, aggBin, nilD, isPtr, fieldOf, sized, enumS, seeR, seeL, hasB, flat, flats, List.foldl_nil, List.foldl_cons, Option.getD_some, Option.getD_none, if_true, if_false, reduceIte, reduceCtorEq, Nat.reduceEqDiff, Nat.reduceAdd, Nat.reduceMul, Nat.reduceLT, Nat.reduceSub, Nat.reduceLeDiff, true_and, and_true, List.map_cons, List.map_nil, List.size_toArray, List.length_cons, List.length_nil, Option.map_some, Option.map_none, Option.bind_some, true_implies, Bool.false_eq_true, Bool.true_eq_false, false_implies, Bool.not_true, Bool.not_false, List.getElem?_cons_zero, List.getElem?_cons_succ, implies_true, and_self, Bool.and_true, Bool.true_and, BEq.rfl, and_assoc, Option.isSome_some, Option.isSome_none, List.take_succ_cons, List.take_zero, List.set_cons_zero, List.set_cons_succ, List.forall_mem_cons, List.not_mem_nil, forall_const, List.range, List.range.loop, ne_eq, not_false_eq_true, not_true_eq_false, List.cons.injEq, Prod.mk.injEq, List.append_nil, List.nil_append, List.cons_append, false_and, and_false, Bool.false_and, Bool.and_false, Nat.reduceBNe, Nat.reduceBEq, beq_self_eq_true, bne_self_eq_false, Nat.reduceBeqDiff, Bool.or_false, Bool.false_or, Bool.or_true, Bool.true_or, vs0, vs1, vs2, vs3, vs4, tys, gl0, Tryd.ntmps42, Tryd.results42, show ((0 : Int) = 64) = False from by simp]
  refine ⟨by decide, by decide, ?_⟩
  refine drawX [2, 3, 5] [(2, [3])] [(2, [12])] (by kernel_rfl) (wild_of rfl) ?_
  have e1 : List.take ((32 : Int) - 0).toNat (List.drop (Int.toNat 0) a) = a := take_all a _ (by rw [ha]; decide)
  have e2 : List.take ((32 : Int) - 0).toNat (List.drop (Int.toNat 0) b) = b := take_all b _ (by rw [hb]; decide)
  simp (config := {dsimp := false}) only [↓a_range, ↓roundQ_normal, ↓roundQ_ret, ↓roundQ_exit, ↓a_skip, ↓a_exit, ↓a_ret, ↓a_seq, ↓a_cond, ↓a_block, ↓a_loop, ↓a_region, ↓a_draw, ↓a_region', ↓a_draw', ↓then_key, ↓with_key, ↓withY_key, ↓cond_key, ↓one_key, ↓thenQ_normal, ↓thenQ_exit, ↓thenQ_ret, ↓blockQ_normal, ↓blockQ_exit, ↓blockQ_ret, ↓aops, ↓aopsD, ↓imp_tt, ↓imp_ff, ↓imp_tf, ↓imp_ft, ↓imp_tnt, ↓imp_tnf, ↓imp_fnt, ↓imp_fnf, look, setL, resQ, argSlots, buildSt, buildArr, intsOf, eqB, keepSl, bindM, bindP, opR, okIf, ok, bad, ev, ofConst, putS, updS, S.upd, dstOk, yieldD, yieldY, strBin, isShift, cellD, retQ, resD, stripO, convR, conv2R, makeR, indexR, indexAddrR, fieldAddrR, loadR, storeR, allocR, boxR, pickR, buildR, buildSliceR, lenR, nilCheckR, extractR, funcR, ipSlice, sliceR, appendR, callR, minR, maxR, S.box, S.tok, TK.sh, known, tsize, destI, ownTok, srcI, isIn, isSl, isSt, appendI, appendL, bnd, aggBin, nilD, isPtr, fieldOf, sized, enumS, seeR, seeL, hasB, flat, flats, List.foldl_nil, List.foldl_cons, Option.getD_some, Option.getD_none, if_true, if_false, reduceIte, reduceCtorEq, Nat.reduceEqDiff, Nat.reduceAdd, Nat.reduceMul, Nat.reduceLT, Nat.reduceSub, Nat.reduceLeDiff, true_and, and_true, List.map_cons, List.map_nil, List.size_toArray, List.length_cons, List.length_nil, Option.map_some, Option.map_none, Option.bind_some, true_implies, Bool.false_eq_true, Bool.true_eq_false, false_implies, Bool.not_true, Bool.not_false, List.getElem?_cons_zero, List.getElem?_cons_succ, implies_true, and_self, Bool.and_true, Bool.true_and, BEq.rfl, and_assoc, Option.isSome_some, Option.isSome_none, List.take_succ_cons, List.take_zero, List.set_cons_zero, List.set_cons_succ, List.forall_mem_cons, List.not_mem_nil, forall_const, List.range, List.range.loop, ne_eq, not_false_eq_true, not_true_eq_false, List.cons.injEq, Prod.mk.injEq, List.append_nil, List.nil_append, List.cons_append, false_and, and_false, Bool.false_and, Bool.and_false, Nat.reduceBNe, Nat.reduceBEq, beq_self_eq_true, bne_self_eq_false, Nat.reduceBeqDiff, Bool.or_false, Bool.false_or, Bool.or_true, Bool.true_or, vs0, vs1, vs2, vs3, vs4, tys, gl0, Tryd.ntmps42, Tryd.results42, boxF, reach, getAll, posN, addN, D.ids, D.idsL, D.tks, D.tksL, ownTk, backN, enumS, zipS, BF.toR, D.ren, D.rens, renO, nodupB, List.contains_cons, List.contains_nil, Bool.or_false, Bool.or_true, Bool.false_or, Bool.true_or, List.getElem?_nil, List.append_assoc, List.cons_append, List.elem_cons, List.elem_nil, ↓aopsX, okX_nil, okX_u, okX_t, stateAt, S.drop, dropK, wildIds, finalS, List.filter_cons, List.filter_nil, List.flatMap_cons, List.flatMap_nil, List.contains_cons, List.contains_nil, List.elem_cons, List.elem_nil, Bool.or_false, Bool.or_true, Bool.false_or, Bool.true_or, e1, e2, ha, hb]
  ((repeat' apply And.intro) <;> first | decide | omega | exact okUps_of (by kernel_rfl) rfl | exact okUps_all rfl (by kernel_rfl) | rfl)
theorem c_rootEach : Contract E 34 := by
  refine contract_box hE hgl (show E.P.funcs[34]? = some Tryd.f34 from Tryd.func34) rfl (p := sp_rootEach) (fun _ _ _ => rfl) ?_
  intro args ds tv hv hdl htl
  unfold sp_rootEach at hv ⊢
  split at hv
  case h_2 => exact hv.elim
  rename_i a b alone t m
  refine ⟨by simp, Nat.le_of_ble_eq_true rfl, ?_⟩
  cases m <;> cases alone
  all_goals simp (config := {dsimp := false}) only [↓a_range, ↓roundQ_normal, ↓roundQ_ret, ↓roundQ_exit, ↓a_skip, ↓a_exit, ↓a_ret, ↓a_seq, ↓a_cond, ↓a_block, ↓a_loop, ↓a_region, ↓a_draw, ↓a_region', ↓a_draw', ↓then_key, ↓with_key, ↓withY_key, ↓cond_key, ↓one_key, ↓thenQ_normal, ↓thenQ_exit, ↓thenQ_ret, ↓blockQ_normal, ↓blockQ_exit, ↓blockQ_ret, ↓aops, ↓aopsD, ↓imp_tt, ↓imp_ff, ↓imp_tf, ↓imp_ft, ↓imp_tnt, ↓imp_tnf, ↓imp_fnt, ↓imp_fnf, look, setL, resQ, argSlots, buildSt, buildArr, intsOf, eqB, keepSl, bindM, bindP, opR, okIf, ok, bad, ev, ofConst, putS, updS, S.upd, dstOk, yieldD, yieldY, strBin, isShift, cellD, retQ, resD, stripO, convR, conv2R, makeR, indexR, indexAddrR, fieldAddrR, loadR, storeR, allocR, boxR, pickR, buildR, buildSliceR, lenR, nilCheckR, extractR, funcR, ipSlice, sliceR, appendR, callR, minR, maxR, S.box, S.tok, TK.sh, known, tsize, destI, ownTok, srcI, isIn, isSl, isSt, appendI, appendL, bnd, aggBin, nilD, isPtr, fieldOf, sized, enumS, seeR, seeL, hasB, flat, flats, List.foldl_nil, List.foldl_cons, Option.getD_some, Option.getD_none, if_true, if_false, reduceIte, reduceCtorEq, Nat.reduceEqDiff, Nat.reduceAdd, Nat.reduceMul, Nat.reduceLT, Nat.reduceSub, Nat.reduceLeDiff, true_and, and_true, List.map_cons, List.map_nil, List.size_toArray, List.length_cons, List.length_nil, Option.map_some, Option.map_none, Option.bind_some, true_implies, Bool.false_eq_true, Bool.true_eq_false, false_implies, Bool.not_true, Bool.not_false, List.getElem?_cons_zero, List.getElem?_cons_succ, implies_true, and_self, Bool.and_true, Bool.true_and, BEq.rfl, and_assoc, Option.isSome_some, Option.isSome_none, List.take_succ_cons, List.take_zero, List.set_cons_zero, List.set_cons_succ, List.forall_mem_cons, List.not_mem_nil, forall_const, List.range, List.range.loop, ne_eq, not_false_eq_true, not_true_eq_false, List.cons.injEq, Prod.mk.injEq, List.append_nil, List.nil_append, List.cons_append, false_and, and_false, Bool.false_and, Bool.and_false, Nat.reduceBNe, Nat.reduceBEq, beq_self_eq_true, bne_self_eq_false, Nat.reduceBeqDiff, Bool.or_false, Bool.false_or, Bool.or_true, Bool.true_or, vs0, vs1, vs2, vs3, vs4, tys, gl0, Tryd.ntmps34, Tryd.results34, retB, boxF, reach, getAll, posN, addN, D.ids, D.idsL, D.tks, D.tksL, ownTk, backN, enumS, zipS, BF.toR, D.ren, D.rens, renO, nodupB, List.contains_cons, List.contains_nil, Bool.or_false, Bool.or_true, Bool.false_or, Bool.true_or, List.getElem?_nil, List.append_assoc, List.cons_append, List.elem_cons, List.elem_nil]
  · exact ⟨[], [], [], ⟨rfl, rfl⟩, ⟨rfl, rfl⟩, ⟨by simp, by simp⟩, by simp, rfl, rfl, ⟨_, rfl, rfl⟩, ⟨_, rfl, rfl⟩, id rfl⟩
  · exact ⟨[], [], [], ⟨rfl, rfl⟩, ⟨rfl, rfl⟩, ⟨by simp, by simp⟩, by simp, rfl, rfl, ⟨_, rfl, rfl⟩, ⟨_, rfl, rfl⟩, id rfl⟩
  · exact ⟨[], [], [], ⟨rfl, rfl⟩, ⟨rfl, rfl⟩, ⟨by simp, by simp⟩, by simp, rfl, rfl, ⟨_, rfl, rfl⟩, ⟨_, rfl, rfl⟩, id rfl⟩
  · exact ⟨[], [], [], ⟨rfl, rfl⟩, ⟨rfl, rfl⟩, ⟨by simp, by simp⟩, by simp, rfl, rfl, ⟨_, rfl, rfl⟩, ⟨_, rfl, rfl⟩, id rfl⟩
theorem c_textsEach : Contract E 36 := by
  refine contract_box hE hgl (show E.P.funcs[36]? = some Tryd.f36 from Tryd.func36) rfl (p := sp_textsEach) (fun _ _ _ => rfl) ?_
  intro args ds tv hv hdl htl
  unfold sp_textsEach at hv ⊢
  split at hv
  case h_2 => exact hv.elim
  rename_i a b alone t es n
  refine ⟨by simp, Nat.le_of_ble_eq_true rfl, ?_⟩
  obtain ⟨rfl, hn, l, rfl⟩ := hv
  simp (config := {dsimp := false}) only [↓a_range, ↓roundQ_normal, ↓roundQ_ret, ↓roundQ_exit, ↓a_skip, ↓a_exit, ↓a_ret, ↓a_seq, ↓a_cond, ↓a_block, ↓a_loop, ↓a_region, ↓a_draw, ↓a_region', ↓a_draw', ↓then_key, ↓with_key, ↓withY_key, ↓cond_key, ↓one_key, ↓thenQ_normal, ↓thenQ_exit, ↓thenQ_ret, ↓blockQ_normal, ↓blockQ_exit, ↓blockQ_ret, ↓aops, ↓aopsD, ↓imp_tt, ↓imp_ff, ↓imp_tf, ↓imp_ft, ↓imp_tnt, ↓imp_tnf, ↓imp_fnt, ↓imp_fnf, look, setL, resQ, argSlots, buildSt, buildArr, intsOf, eqB, keepSl, bindM, bindP, opR, okIf, ok, bad, ev, ofConst, putS, updS, S.upd, dstOk, yieldD, yieldY, strBin, isShift, cellD, retQ, resD, stripO, convR, conv2R, makeR, indexR, indexAddrR, fieldAddrR, loadR, storeR, allocR, boxR, pickR, buildR, buildSliceR, lenR, nilCheckR, extractR, funcR, ipSlice, sliceR, appendR, callR, minR, maxR, S.box, S.tok, TK.sh, known, tsize, destI, ownTok, srcI, isIn, isSl, isSt, appendI, appendL, bnd, aggBin, nilD, isPtr, fieldOf, sized, enumS, seeR, seeL, hasB, flat, flats, List.foldl_nil, List.foldl_cons, Option.getD_some, Option.getD_none, if_true, if_false, reduceIte, reduceCtorEq, Nat.reduceEqDiff, Nat.reduceAdd, Nat.reduceMul, Nat.reduceLT, Nat.reduceSub, Nat.reduceLeDiff, true_and, and_true, List.map_cons, List.map_nil, List.size_toArray, List.length_cons, List.length_nil, Option.map_some, Option.map_none, Option.bind_some, true_implies, Bool.false_eq_true, Bool.true_eq_false, false_implies, Bool.not_true, Bool.not_false, List.getElem?_cons_zero, List.getElem?_cons_succ, implies_true, and_self, Bool.and_true, Bool.true_and, BEq.rfl, and_assoc, Option.isSome_some, Option.isSome_none, List.take_succ_cons, List.take_zero, List.set_cons_zero, List.set_cons_succ, List.forall_mem_cons, List.not_mem_nil, forall_const, List.range, List.range.loop, ne_eq, not_false_eq_true, not_true_eq_false, List.cons.injEq, Prod.mk.injEq, List.append_nil, List.nil_append, List.cons_append, false_and, and_false, Bool.false_and, Bool.and_false, Nat.reduceBNe, Nat.reduceBEq, beq_self_eq_true, bne_self_eq_false, Nat.reduceBeqDiff, Bool.or_false, Bool.false_or, Bool.or_true, Bool.true_or, vs0, vs1, vs2, vs3, vs4, tys, gl0, Tryd.ntmps36, Tryd.results36, retB, boxF, reach, getAll, posN, addN, D.ids, D.idsL, D.tks, D.tksL, ownTk, backN, enumS, zipS, BF.toR, D.ren, D.rens, renO, nodupB, List.contains_cons, List.contains_nil, Bool.or_false, Bool.or_true, Bool.false_or, Bool.true_or, List.getElem?_nil, List.append_assoc, List.cons_append, List.elem_cons, List.elem_nil]
  refine ⟨by omega, .inr trivial, .inr trivial, [], [], [], ⟨rfl, rfl⟩, ⟨rfl, rfl⟩, ⟨by simp, by simp⟩, by simp, rfl, rfl, ⟨_, rfl, ?_⟩, ⟨_, rfl, rfl⟩, id rfl⟩
  simp only [List.map_cons, List.map_nil, show (D.sli Own.no .u8 t).bare = .sli .no .u8 t from rfl, show [D.sli Own.no .u8 t] = slis [t] from rfl, slis_append]
  exact congrArg (fun x => [D.sl (.tok 0) 1 x]) (strips_slis' true _)
theorem c_cut : Contract E 10 := by
  refine contract_see hE hgl (show E.P.funcs[10]? = some Tryd.f10 from Tryd.func10) rfl (p := sp_cut) (fun _ _ _ => rfl) ?_
  intro args hv
  unfold sp_cut at hv ⊢
  split at hv
  case h_2 => exact hv.elim
  rename_i es
  refine ⟨by simp, Nat.le_of_ble_eq_true rfl, ?_⟩
  simp only [givesIf] at hv
  obtain ⟨l, rfl, hl⟩ := hv
  simp (config := {dsimp := false}) only [↓a_range, ↓roundQ_normal, ↓roundQ_ret, ↓roundQ_exit, ↓a_skip, ↓a_exit, ↓a_ret, ↓a_seq, ↓a_cond, ↓a_block, ↓a_loop, ↓a_region, ↓a_draw, ↓a_region', ↓a_draw', ↓then_key, ↓with_key, ↓withY_key, ↓cond_key, ↓one_key, ↓thenQ_normal, ↓thenQ_exit, ↓thenQ_ret, ↓blockQ_normal, ↓blockQ_exit, ↓blockQ_ret, ↓aops, ↓aopsD, ↓imp_tt, ↓imp_ff, ↓imp_tf, ↓imp_ft, ↓imp_tnt, ↓imp_tnf, ↓imp_fnt, ↓imp_fnf, look, setL, resQ, argSlots, buildSt, buildArr, intsOf, eqB, keepSl, bindM, bindP, opR, okIf, ok, bad, ev, ofConst, putS, updS, S.upd, dstOk, yieldD, yieldY, strBin, isShift, cellD, retQ, resD, stripO, convR, conv2R, makeR, indexR, indexAddrR, fieldAddrR, loadR, storeR, allocR, boxR, pickR, buildR, buildSliceR, lenR, nilCheckR, extractR, funcR, ipSlice, sliceR, appendR, callR, minR, maxR, S.box, S.tok, TK.sh, known, tsize, destI, ownTok, srcI, isIn, isSl, isSt, appendI, appendL, bnd, aggBin, nilD, isPtr, fieldOf, sized, enumS, seeR, seeL, hasB, flat, flats, List.foldl_nil, List.foldl_cons, Option.getD_some, Option.getD_none, if_true, if_false, reduceIte, reduceCtorEq, Nat.reduceEqDiff, Nat.reduceAdd, Nat.reduceMul, Nat.reduceLT, Nat.reduceSub, Nat.reduceLeDiff, true_and, and_true, List.map_cons, List.map_nil, List.size_toArray, List.length_cons, List.length_nil, Option.map_some, Option.map_none, Option.bind_some, true_implies, Bool.false_eq_true, Bool.true_eq_false, false_implies, Bool.not_true, Bool.not_false, List.getElem?_cons_zero, List.getElem?_cons_succ, implies_true, and_self, Bool.and_true, Bool.true_and, BEq.rfl, and_assoc, Option.isSome_some, Option.isSome_none, List.take_succ_cons, List.take_zero, List.set_cons_zero, List.set_cons_succ, List.forall_mem_cons, List.not_mem_nil, forall_const, List.range, List.range.loop, ne_eq, not_false_eq_true, not_true_eq_false, List.cons.injEq, Prod.mk.injEq, List.append_nil, List.nil_append, List.cons_append, false_and, and_false, Bool.false_and, Bool.and_false, Nat.reduceBNe, Nat.reduceBEq, beq_self_eq_true, bne_self_eq_false, Nat.reduceBeqDiff, Bool.or_false, Bool.false_or, Bool.or_true, Bool.true_or, vs0, vs1, vs2, vs3, vs4, tys, gl0, Tryd.ntmps10, Tryd.results10, arrs_length]
  refine ⟨by decide, by split <;> omega, by split <;> omega, Int.le_refl _, .inr trivial, ?_⟩
  have : (if (60 : Int) < (l.length : Int) then (60 : Int) else (l.length : Int)).toNat = min 60 l.length := by split <;> omega
  rw [this, show Int.toNat 0 = 0 from rfl, List.drop_zero, arrs_take, strips_arrs, hs_arrs]
  rcases Nat.le_total 60 l.length with h | h
  · rw [Nat.min_eq_left h]; rfl
  · rw [Nat.min_eq_right h, List.take_length]
    have : List.take 60 l = l := List.take_of_length_le h
    simp only [givesIf, this]
theorem c_same : Contract E 18 := by
  refine contract_see hE hgl (show E.P.funcs[18]? = some Tryd.f18 from Tryd.func18) rfl (p := sp_same) (fun _ _ _ => rfl) ?_
  intro args hv
  unfold sp_same at hv ⊢
  split at hv
  case h_2 => exact hv.elim
  rename_i es fs
  refine ⟨by simp, Nat.le_of_ble_eq_true rfl, ?_⟩
  simp only [givesIf] at hv
  obtain ⟨⟨l, rfl, hl⟩, ⟨m, rfl, hm⟩, h3, h4⟩ := hv
  simp only [arrs_length] at h3 h4
  simp (config := {dsimp := false}) only [↓a_range, ↓roundQ_normal, ↓roundQ_ret, ↓roundQ_exit, ↓a_skip, ↓a_exit, ↓a_ret, ↓a_seq, ↓a_cond, ↓a_block, ↓a_loop, ↓a_region, ↓a_draw, ↓a_region', ↓a_draw', ↓then_key, ↓with_key, ↓withY_key, ↓cond_key, ↓one_key, ↓thenQ_normal, ↓thenQ_exit, ↓thenQ_ret, ↓blockQ_normal, ↓blockQ_exit, ↓blockQ_ret, ↓aops, ↓aopsD, ↓imp_tt, ↓imp_ff, ↓imp_tf, ↓imp_ft, ↓imp_tnt, ↓imp_tnf, ↓imp_fnt, ↓imp_fnf, look, setL, resQ, argSlots, buildSt, buildArr, intsOf, eqB, keepSl, bindM, bindP, opR, okIf, ok, bad, ev, ofConst, putS, updS, S.upd, dstOk, yieldD, yieldY, strBin, isShift, cellD, retQ, resD, stripO, convR, conv2R, makeR, indexR, indexAddrR, fieldAddrR, loadR, storeR, allocR, boxR, pickR, buildR, buildSliceR, lenR, nilCheckR, extractR, funcR, ipSlice, sliceR, appendR, callR, minR, maxR, S.box, S.tok, TK.sh, known, tsize, destI, ownTok, srcI, isIn, isSl, isSt, appendI, appendL, bnd, aggBin, nilD, isPtr, fieldOf, sized, enumS, seeR, seeL, hasB, flat, flats, List.foldl_nil, List.foldl_cons, Option.getD_some, Option.getD_none, if_true, if_false, reduceIte, reduceCtorEq, Nat.reduceEqDiff, Nat.reduceAdd, Nat.reduceMul, Nat.reduceLT, Nat.reduceSub, Nat.reduceLeDiff, true_and, and_true, List.map_cons, List.map_nil, List.size_toArray, List.length_cons, List.length_nil, Option.map_some, Option.map_none, Option.bind_some, true_implies, Bool.false_eq_true, Bool.true_eq_false, false_implies, Bool.not_true, Bool.not_false, List.getElem?_cons_zero, List.getElem?_cons_succ, implies_true, and_self, Bool.and_true, Bool.true_and, BEq.rfl, and_assoc, Option.isSome_some, Option.isSome_none, List.take_succ_cons, List.take_zero, List.set_cons_zero, List.set_cons_succ, List.forall_mem_cons, List.not_mem_nil, forall_const, List.range, List.range.loop, ne_eq, not_false_eq_true, not_true_eq_false, List.cons.injEq, Prod.mk.injEq, List.append_nil, List.nil_append, List.cons_append, false_and, and_false, Bool.false_and, Bool.and_false, Nat.reduceBNe, Nat.reduceBEq, beq_self_eq_true, bne_self_eq_false, Nat.reduceBeqDiff, Bool.or_false, Bool.false_or, Bool.or_true, Bool.true_or, vs0, vs1, vs2, vs3, vs4, tys, gl0, Tryd.ntmps18, Tryd.results18, arrs_length, givesIf, hs_arrs]
  refine ⟨fun h => ?_, fun h => ?_⟩
  · have : l ≠ m := fun e => by subst e; simp at h
    simp [this]
  have h : l.length = m.length := by simp at h; omega
  refine loopI {i : Nat // i ≤ l.length ∧ ∀ j, j < i → l.getD j [] = m.getD j []} (fun i => [(0, .sl .no 32 (arrs l)), (1, .sl .no 32 (arrs m)), (5, .int .i64 (i.1 : Nat))]) (fun _ => ⟨[], [], 28⟩) (fun i => l.length - i.1) ⟨0, by simp⟩ (fun _ => rfl) ?_ ?_
  · exact ⟨⟨wkD_eq rfl, rfl, wkD_eq rfl, rfl, wkD_eq rfl, rfl, trivial⟩, trivial, trivial⟩
  rintro ⟨i, hi, hj⟩
  simp (config := {dsimp := false}) only [↓a_range, ↓roundQ_normal, ↓roundQ_ret, ↓roundQ_exit, ↓a_skip, ↓a_exit, ↓a_ret, ↓a_seq, ↓a_cond, ↓a_block, ↓a_loop, ↓a_region, ↓a_draw, ↓a_region', ↓a_draw', ↓then_key, ↓with_key, ↓withY_key, ↓cond_key, ↓one_key, ↓thenQ_normal, ↓thenQ_exit, ↓thenQ_ret, ↓blockQ_normal, ↓blockQ_exit, ↓blockQ_ret, ↓aops, ↓aopsD, ↓imp_tt, ↓imp_ff, ↓imp_tf, ↓imp_ft, ↓imp_tnt, ↓imp_tnf, ↓imp_fnt, ↓imp_fnf, look, setL, resQ, argSlots, buildSt, buildArr, intsOf, eqB, keepSl, bindM, bindP, opR, okIf, ok, bad, ev, ofConst, putS, updS, S.upd, dstOk, yieldD, yieldY, strBin, isShift, cellD, retQ, resD, stripO, convR, conv2R, makeR, indexR, indexAddrR, fieldAddrR, loadR, storeR, allocR, boxR, pickR, buildR, buildSliceR, lenR, nilCheckR, extractR, funcR, ipSlice, sliceR, appendR, callR, minR, maxR, S.box, S.tok, TK.sh, known, tsize, destI, ownTok, srcI, isIn, isSl, isSt, appendI, appendL, bnd, aggBin, nilD, isPtr, fieldOf, sized, enumS, seeR, seeL, hasB, flat, flats, List.foldl_nil, List.foldl_cons, Option.getD_some, Option.getD_none, if_true, if_false, reduceIte, reduceCtorEq, Nat.reduceEqDiff, Nat.reduceAdd, Nat.reduceMul, Nat.reduceLT, Nat.reduceSub, Nat.reduceLeDiff, true_and, and_true, List.map_cons, List.map_nil, List.size_toArray, List.length_cons, List.length_nil, Option.map_some, Option.map_none, Option.bind_some, true_implies, Bool.false_eq_true, Bool.true_eq_false, false_implies, Bool.not_true, Bool.not_false, List.getElem?_cons_zero, List.getElem?_cons_succ, implies_true, and_self, Bool.and_true, Bool.true_and, BEq.rfl, and_assoc, Option.isSome_some, Option.isSome_none, List.take_succ_cons, List.take_zero, List.set_cons_zero, List.set_cons_succ, List.forall_mem_cons, List.not_mem_nil, forall_const, List.range, List.range.loop, ne_eq, not_false_eq_true, not_true_eq_false, List.cons.injEq, Prod.mk.injEq, List.append_nil, List.nil_append, List.cons_append, false_and, and_false, Bool.false_and, Bool.and_false, Nat.reduceBNe, Nat.reduceBEq, beq_self_eq_true, bne_self_eq_false, Nat.reduceBeqDiff, Bool.or_false, Bool.false_or, Bool.or_true, Bool.true_or, vs0, vs1, vs2, vs3, vs4, tys, gl0, Tryd.ntmps18, Tryd.results18, arrs_length]
  refine ⟨fun hh => ?_, fun hh => ?_⟩
  · have hh := of_decide_eq_true hh
    have g1 := arrs_get l i (by omega)
    have g2 := arrs_get m i (by omega)
    refine drawI [0, 1, 5] (by kernel_rfl) ?_
    simp (config := {dsimp := false}) only [↓a_range, ↓roundQ_normal, ↓roundQ_ret, ↓roundQ_exit, ↓a_skip, ↓a_exit, ↓a_ret, ↓a_seq, ↓a_cond, ↓a_block, ↓a_loop, ↓a_region, ↓a_draw, ↓a_region', ↓a_draw', ↓then_key, ↓with_key, ↓withY_key, ↓cond_key, ↓one_key, ↓thenQ_normal, ↓thenQ_exit, ↓thenQ_ret, ↓blockQ_normal, ↓blockQ_exit, ↓blockQ_ret, ↓aops, ↓aopsD, ↓imp_tt, ↓imp_ff, ↓imp_tf, ↓imp_ft, ↓imp_tnt, ↓imp_tnf, ↓imp_fnt, ↓imp_fnf, look, setL, resQ, argSlots, buildSt, buildArr, intsOf, eqB, keepSl, bindM, bindP, opR, okIf, ok, bad, ev, ofConst, putS, updS, S.upd, dstOk, yieldD, yieldY, strBin, isShift, cellD, retQ, resD, stripO, convR, conv2R, makeR, indexR, indexAddrR, fieldAddrR, loadR, storeR, allocR, boxR, pickR, buildR, buildSliceR, lenR, nilCheckR, extractR, funcR, ipSlice, sliceR, appendR, callR, minR, maxR, S.box, S.tok, TK.sh, known, tsize, destI, ownTok, srcI, isIn, isSl, isSt, appendI, appendL, bnd, aggBin, nilD, isPtr, fieldOf, sized, enumS, seeR, seeL, hasB, flat, flats, List.foldl_nil, List.foldl_cons, Option.getD_some, Option.getD_none, if_true, if_false, reduceIte, reduceCtorEq, Nat.reduceEqDiff, Nat.reduceAdd, Nat.reduceMul, Nat.reduceLT, Nat.reduceSub, Nat.reduceLeDiff, true_and, and_true, List.map_cons, List.map_nil, List.size_toArray, List.length_cons, List.length_nil, Option.map_some, Option.map_none, Option.bind_some, true_implies, Bool.false_eq_true, Bool.true_eq_false, false_implies, Bool.not_true, Bool.not_false, List.getElem?_cons_zero, List.getElem?_cons_succ, implies_true, and_self, Bool.and_true, Bool.true_and, BEq.rfl, and_assoc, Option.isSome_some, Option.isSome_none, List.take_succ_cons, List.take_zero, List.set_cons_zero, List.set_cons_succ, List.forall_mem_cons, List.not_mem_nil, forall_const, List.range, List.range.loop, ne_eq, not_false_eq_true, not_true_eq_false, List.cons.injEq, Prod.mk.injEq, List.append_nil, List.nil_append, List.cons_append, false_and, and_false, Bool.false_and, Bool.and_false, Nat.reduceBNe, Nat.reduceBEq, beq_self_eq_true, bne_self_eq_false, Nat.reduceBeqDiff, Bool.or_false, Bool.false_or, Bool.or_true, Bool.true_or, vs0, vs1, vs2, vs3, vs4, tys, gl0, Tryd.ntmps18, Tryd.results18, arrs_length, Int.toNat_natCast, g1, g2]
    refine ⟨by omega, by omega, by omega, by omega, fun h5 => ?_, fun h5 => ?_⟩
    · have h5 : ¬ l.getD i [] = m.getD i [] := by simpa using h5
      have : l ≠ m := fun e => by subst e; exact h5 rfl
      change D.bool false = D.bool (decide (hs (arrs l) = hs (arrs m)))
      rw [hs_arrs, hs_arrs]
      simp [this]
    · have h5 : l.getD i [] = m.getD i [] := by simpa using h5
      refine ⟨⟨i + 1, by omega, fun j h6 => ?_⟩, ⟨⟨wkD_eq rfl, rfl, wkD_eq rfl, rfl, wkD_eq ?_, rfl, trivial⟩, trivial, trivial⟩, by (try simp only); omega⟩
      · rcases Nat.lt_or_ge j i with h7 | h7
        · exact hj j h7
        · obtain rfl : j = i := by omega
          exact h5
      · exact some_i64 (by (try simp only); omega)
  · have hh := of_decide_eq_false hh
    obtain rfl : i = l.length := by omega
    have : l = m := by
      apply List.ext_getElem h
      intro j h6 h7
      have := hj j h6
      simpa [List.getD, h6, h7] using this
    subst this
    simp (config := {dsimp := false}) only [↓a_range, ↓roundQ_normal, ↓roundQ_ret, ↓roundQ_exit, ↓a_skip, ↓a_exit, ↓a_ret, ↓a_seq, ↓a_cond, ↓a_block, ↓a_loop, ↓a_region, ↓a_draw, ↓a_region', ↓a_draw', ↓then_key, ↓with_key, ↓withY_key, ↓cond_key, ↓one_key, ↓thenQ_normal, ↓thenQ_exit, ↓thenQ_ret, ↓blockQ_normal, ↓blockQ_exit, ↓blockQ_ret, ↓aops, ↓aopsD, ↓imp_tt, ↓imp_ff, ↓imp_tf, ↓imp_ft, ↓imp_tnt, ↓imp_tnf, ↓imp_fnt, ↓imp_fnf, look, setL, resQ, argSlots, buildSt, buildArr, intsOf, eqB, keepSl, bindM, bindP, opR, okIf, ok, bad, ev, ofConst, putS, updS, S.upd, dstOk, yieldD, yieldY, strBin, isShift, cellD, retQ, resD, stripO, convR, conv2R, makeR, indexR, indexAddrR, fieldAddrR, loadR, storeR, allocR, boxR, pickR, buildR, buildSliceR, lenR, nilCheckR, extractR, funcR, ipSlice, sliceR, appendR, callR, minR, maxR, S.box, S.tok, TK.sh, known, tsize, destI, ownTok, srcI, isIn, isSl, isSt, appendI, appendL, bnd, aggBin, nilD, isPtr, fieldOf, sized, enumS, seeR, seeL, hasB, flat, flats, List.foldl_nil, List.foldl_cons, Option.getD_some, Option.getD_none, if_true, if_false, reduceIte, reduceCtorEq, Nat.reduceEqDiff, Nat.reduceAdd, Nat.reduceMul, Nat.reduceLT, Nat.reduceSub, Nat.reduceLeDiff, true_and, and_true, List.map_cons, List.map_nil, List.size_toArray, List.length_cons, List.length_nil, Option.map_some, Option.map_none, Option.bind_some, true_implies, Bool.false_eq_true, Bool.true_eq_false, false_implies, Bool.not_true, Bool.not_false, List.getElem?_cons_zero, List.getElem?_cons_succ, implies_true, and_self, Bool.and_true, Bool.true_and, BEq.rfl, and_assoc, Option.isSome_some, Option.isSome_none, List.take_succ_cons, List.take_zero, List.set_cons_zero, List.set_cons_succ, List.forall_mem_cons, List.not_mem_nil, forall_const, List.range, List.range.loop, ne_eq, not_false_eq_true, not_true_eq_false, List.cons.injEq, Prod.mk.injEq, List.append_nil, List.nil_append, List.cons_append, false_and, and_false, Bool.false_and, Bool.and_false, Nat.reduceBNe, Nat.reduceBEq, beq_self_eq_true, bne_self_eq_false, Nat.reduceBeqDiff, Bool.or_false, Bool.false_or, Bool.or_true, Bool.true_or, vs0, vs1, vs2, vs3, vs4, tys, gl0, Tryd.ntmps18, Tryd.results18]
    simp
    all_goals rfl
theorem c_clash : Contract E 19 := by
  refine contract_see hE hgl (show E.P.funcs[19]? = some Tryd.f19 from Tryd.func19) rfl (p := sp_clash) (fun _ _ _ => rfl) ?_
  intro args hv
  unfold sp_clash at hv ⊢
  split at hv
  case h_2 => exact hv.elim
  rename_i es fs
  refine ⟨by simp, Nat.le_of_ble_eq_true rfl, ?_⟩
  simp only [givesIf] at hv
  obtain ⟨⟨l, rfl⟩, ⟨m, rfl⟩, ⟨h3, h4⟩, h5, h6⟩ := hv
  simp only [slis_length, ts_slis] at h3 h4 h5 h6
  simp (config := {dsimp := false}) only [↓a_range, ↓roundQ_normal, ↓roundQ_ret, ↓roundQ_exit, ↓a_skip, ↓a_exit, ↓a_ret, ↓a_seq, ↓a_cond, ↓a_block, ↓a_loop, ↓a_region, ↓a_draw, ↓a_region', ↓a_draw', ↓then_key, ↓with_key, ↓withY_key, ↓cond_key, ↓one_key, ↓thenQ_normal, ↓thenQ_exit, ↓thenQ_ret, ↓blockQ_normal, ↓blockQ_exit, ↓blockQ_ret, ↓aops, ↓aopsD, ↓imp_tt, ↓imp_ff, ↓imp_tf, ↓imp_ft, ↓imp_tnt, ↓imp_tnf, ↓imp_fnt, ↓imp_fnf, look, setL, resQ, argSlots, buildSt, buildArr, intsOf, eqB, keepSl, bindM, bindP, opR, okIf, ok, bad, ev, ofConst, putS, updS, S.upd, dstOk, yieldD, yieldY, strBin, isShift, cellD, retQ, resD, stripO, convR, conv2R, makeR, indexR, indexAddrR, fieldAddrR, loadR, storeR, allocR, boxR, pickR, buildR, buildSliceR, lenR, nilCheckR, extractR, funcR, ipSlice, sliceR, appendR, callR, minR, maxR, S.box, S.tok, TK.sh, known, tsize, destI, ownTok, srcI, isIn, isSl, isSt, appendI, appendL, bnd, aggBin, nilD, isPtr, fieldOf, sized, enumS, seeR, seeL, hasB, flat, flats, List.foldl_nil, List.foldl_cons, Option.getD_some, Option.getD_none, if_true, if_false, reduceIte, reduceCtorEq, Nat.reduceEqDiff, Nat.reduceAdd, Nat.reduceMul, Nat.reduceLT, Nat.reduceSub, Nat.reduceLeDiff, true_and, and_true, List.map_cons, List.map_nil, List.size_toArray, List.length_cons, List.length_nil, Option.map_some, Option.map_none, Option.bind_some, true_implies, Bool.false_eq_true, Bool.true_eq_false, false_implies, Bool.not_true, Bool.not_false, List.getElem?_cons_zero, List.getElem?_cons_succ, implies_true, and_self, Bool.and_true, Bool.true_and, BEq.rfl, and_assoc, Option.isSome_some, Option.isSome_none, List.take_succ_cons, List.take_zero, List.set_cons_zero, List.set_cons_succ, List.forall_mem_cons, List.not_mem_nil, forall_const, List.range, List.range.loop, ne_eq, not_false_eq_true, not_true_eq_false, List.cons.injEq, Prod.mk.injEq, List.append_nil, List.nil_append, List.cons_append, false_and, and_false, Bool.false_and, Bool.and_false, Nat.reduceBNe, Nat.reduceBEq, beq_self_eq_true, bne_self_eq_false, Nat.reduceBeqDiff, Bool.or_false, Bool.false_or, Bool.or_true, Bool.true_or, vs0, vs1, vs2, vs3, vs4, tys, gl0, Tryd.ntmps19, Tryd.results19, slis_length]
  refine loopI {i : Nat // i ≤ l.length ∧ ∀ j, j < i → ∀ k, k < m.length → ¬ (l.getD j [] ≠ m.getD k [] ∧ sumP (sumP (l.getD j [])) = sumP (sumP (m.getD k [])))} (fun i => [(0, .sl .no 1 (slis l)), (1, .sl .no 1 (slis m)), (5, .int .i64 (i.1 : Nat))]) (fun _ => ⟨[], [], 8⟩) (fun i => l.length - i.1) ⟨0, by simp⟩ (fun _ => rfl) ?_ ?_
  · exact ⟨⟨wkD_eq rfl, rfl, wkD_eq rfl, rfl, wkD_eq rfl, rfl, trivial⟩, trivial, trivial⟩
  rintro ⟨i, hi, hj⟩
  simp (config := {dsimp := false}) only [↓a_range, ↓roundQ_normal, ↓roundQ_ret, ↓roundQ_exit, ↓a_skip, ↓a_exit, ↓a_ret, ↓a_seq, ↓a_cond, ↓a_block, ↓a_loop, ↓a_region, ↓a_draw, ↓a_region', ↓a_draw', ↓then_key, ↓with_key, ↓withY_key, ↓cond_key, ↓one_key, ↓thenQ_normal, ↓thenQ_exit, ↓thenQ_ret, ↓blockQ_normal, ↓blockQ_exit, ↓blockQ_ret, ↓aops, ↓aopsD, ↓imp_tt, ↓imp_ff, ↓imp_tf, ↓imp_ft, ↓imp_tnt, ↓imp_tnf, ↓imp_fnt, ↓imp_fnf, look, setL, resQ, argSlots, buildSt, buildArr, intsOf, eqB, keepSl, bindM, bindP, opR, okIf, ok, bad, ev, ofConst, putS, updS, S.upd, dstOk, yieldD, yieldY, strBin, isShift, cellD, retQ, resD, stripO, convR, conv2R, makeR, indexR, indexAddrR, fieldAddrR, loadR, storeR, allocR, boxR, pickR, buildR, buildSliceR, lenR, nilCheckR, extractR, funcR, ipSlice, sliceR, appendR, callR, minR, maxR, S.box, S.tok, TK.sh, known, tsize, destI, ownTok, srcI, isIn, isSl, isSt, appendI, appendL, bnd, aggBin, nilD, isPtr, fieldOf, sized, enumS, seeR, seeL, hasB, flat, flats, List.foldl_nil, List.foldl_cons, Option.getD_some, Option.getD_none, if_true, if_false, reduceIte, reduceCtorEq, Nat.reduceEqDiff, Nat.reduceAdd, Nat.reduceMul, Nat.reduceLT, Nat.reduceSub, Nat.reduceLeDiff, true_and, and_true, List.map_cons, List.map_nil, List.size_toArray, List.length_cons, List.length_nil, Option.map_some, Option.map_none, Option.bind_some, true_implies, Bool.false_eq_true, Bool.true_eq_false, false_implies, Bool.not_true, Bool.not_false, List.getElem?_cons_zero, List.getElem?_cons_succ, implies_true, and_self, Bool.and_true, Bool.true_and, BEq.rfl, and_assoc, Option.isSome_some, Option.isSome_none, List.take_succ_cons, List.take_zero, List.set_cons_zero, List.set_cons_succ, List.forall_mem_cons, List.not_mem_nil, forall_const, List.range, List.range.loop, ne_eq, not_false_eq_true, not_true_eq_false, List.cons.injEq, Prod.mk.injEq, List.append_nil, List.nil_append, List.cons_append, false_and, and_false, Bool.false_and, Bool.and_false, Nat.reduceBNe, Nat.reduceBEq, beq_self_eq_true, bne_self_eq_false, Nat.reduceBeqDiff, Bool.or_false, Bool.false_or, Bool.or_true, Bool.true_or, vs0, vs1, vs2, vs3, vs4, tys, gl0, Tryd.ntmps19, Tryd.results19, slis_length]
  refine ⟨fun hh => ?_, fun hh => ?_⟩
  · have hh := of_decide_eq_true hh
    refine loopI {k : Nat // k ≤ m.length ∧ ∀ j, j < k → ¬ (l.getD i [] ≠ m.getD j [] ∧ sumP (sumP (l.getD i [])) = sumP (sumP (m.getD j [])))} (fun k => [(0, .sl .no 1 (slis l)), (1, .sl .no 1 (slis m)), (5, .int .i64 (i : Nat)), (6, .int .i64 (k.1 : Nat))]) (fun _ => ⟨[], [], 28⟩) (fun k => m.length - k.1) ⟨0, by simp⟩ (fun _ => rfl) ?_ ?_
    · exact ⟨⟨wkD_eq rfl, rfl, wkD_eq rfl, rfl, wkD_eq rfl, rfl, wkD_eq rfl, rfl, trivial⟩, trivial, trivial⟩
    rintro ⟨k, hk, hjk⟩
    simp (config := {dsimp := false}) only [↓a_range, ↓roundQ_normal, ↓roundQ_ret, ↓roundQ_exit, ↓a_skip, ↓a_exit, ↓a_ret, ↓a_seq, ↓a_cond, ↓a_block, ↓a_loop, ↓a_region, ↓a_draw, ↓a_region', ↓a_draw', ↓then_key, ↓with_key, ↓withY_key, ↓cond_key, ↓one_key, ↓thenQ_normal, ↓thenQ_exit, ↓thenQ_ret, ↓blockQ_normal, ↓blockQ_exit, ↓blockQ_ret, ↓aops, ↓aopsD, ↓imp_tt, ↓imp_ff, ↓imp_tf, ↓imp_ft, ↓imp_tnt, ↓imp_tnf, ↓imp_fnt, ↓imp_fnf, look, setL, resQ, argSlots, buildSt, buildArr, intsOf, eqB, keepSl, bindM, bindP, opR, okIf, ok, bad, ev, ofConst, putS, updS, S.upd, dstOk, yieldD, yieldY, strBin, isShift, cellD, retQ, resD, stripO, convR, conv2R, makeR, indexR, indexAddrR, fieldAddrR, loadR, storeR, allocR, boxR, pickR, buildR, buildSliceR, lenR, nilCheckR, extractR, funcR, ipSlice, sliceR, appendR, callR, minR, maxR, S.box, S.tok, TK.sh, known, tsize, destI, ownTok, srcI, isIn, isSl, isSt, appendI, appendL, bnd, aggBin, nilD, isPtr, fieldOf, sized, enumS, seeR, seeL, hasB, flat, flats, List.foldl_nil, List.foldl_cons, Option.getD_some, Option.getD_none, if_true, if_false, reduceIte, reduceCtorEq, Nat.reduceEqDiff, Nat.reduceAdd, Nat.reduceMul, Nat.reduceLT, Nat.reduceSub, Nat.reduceLeDiff, true_and, and_true, List.map_cons, List.map_nil, List.size_toArray, List.length_cons, List.length_nil, Option.map_some, Option.map_none, Option.bind_some, true_implies, Bool.false_eq_true, Bool.true_eq_false, false_implies, Bool.not_true, Bool.not_false, List.getElem?_cons_zero, List.getElem?_cons_succ, implies_true, and_self, Bool.and_true, Bool.true_and, BEq.rfl, and_assoc, Option.isSome_some, Option.isSome_none, List.take_succ_cons, List.take_zero, List.set_cons_zero, List.set_cons_succ, List.forall_mem_cons, List.not_mem_nil, forall_const, List.range, List.range.loop, ne_eq, not_false_eq_true, not_true_eq_false, List.cons.injEq, Prod.mk.injEq, List.append_nil, List.nil_append, List.cons_append, false_and, and_false, Bool.false_and, Bool.and_false, Nat.reduceBNe, Nat.reduceBEq, beq_self_eq_true, bne_self_eq_false, Nat.reduceBeqDiff, Bool.or_false, Bool.false_or, Bool.or_true, Bool.true_or, vs0, vs1, vs2, vs3, vs4, tys, gl0, Tryd.ntmps19, Tryd.results19, slis_length]
    refine ⟨fun h2 => ?_, fun h2 => ?_⟩
    · have h2 := of_decide_eq_true h2
      have g1 := slis_get l i (by omega)
      have g2 := slis_get m k (by omega)
      have hil : i < l.length := by omega
      have hkl : k < m.length := by omega
      obtain ⟨a1, a2⟩ := h5 (l.getD i []) (getD_mem hil)
      obtain ⟨b1, b2⟩ := h6 (m.getD k []) (getD_mem hkl)
      have hne := strN_inj a2 b2
      refine drawI [0, 1, 5, 6] (by kernel_rfl) ?_
      by_cases he : l.getD i [] = m.getD k []
      · simp (config := {dsimp := false}) only [↓a_range, ↓roundQ_normal, ↓roundQ_ret, ↓roundQ_exit, ↓a_skip, ↓a_exit, ↓a_ret, ↓a_seq, ↓a_cond, ↓a_block, ↓a_loop, ↓a_region, ↓a_draw, ↓a_region', ↓a_draw', ↓then_key, ↓with_key, ↓withY_key, ↓cond_key, ↓one_key, ↓thenQ_normal, ↓thenQ_exit, ↓thenQ_ret, ↓blockQ_normal, ↓blockQ_exit, ↓blockQ_ret, ↓aops, ↓aopsD, ↓imp_tt, ↓imp_ff, ↓imp_tf, ↓imp_ft, ↓imp_tnt, ↓imp_tnf, ↓imp_fnt, ↓imp_fnf, look, setL, resQ, argSlots, buildSt, buildArr, intsOf, eqB, keepSl, bindM, bindP, opR, okIf, ok, bad, ev, ofConst, putS, updS, S.upd, dstOk, yieldD, yieldY, strBin, isShift, cellD, retQ, resD, stripO, convR, conv2R, makeR, indexR, indexAddrR, fieldAddrR, loadR, storeR, allocR, boxR, pickR, buildR, buildSliceR, lenR, nilCheckR, extractR, funcR, ipSlice, sliceR, appendR, callR, minR, maxR, S.box, S.tok, TK.sh, known, tsize, destI, ownTok, srcI, isIn, isSl, isSt, appendI, appendL, bnd, aggBin, nilD, isPtr, fieldOf, sized, enumS, seeR, seeL, hasB, flat, flats, List.foldl_nil, List.foldl_cons, Option.getD_some, Option.getD_none, if_true, if_false, reduceIte, reduceCtorEq, Nat.reduceEqDiff, Nat.reduceAdd, Nat.reduceMul, Nat.reduceLT, Nat.reduceSub, Nat.reduceLeDiff, true_and, and_true, List.map_cons, List.map_nil, List.size_toArray, List.length_cons, List.length_nil, Option.map_some, Option.map_none, Option.bind_some, true_implies, Bool.false_eq_true, Bool.true_eq_false, false_implies, Bool.not_true, Bool.not_false, List.getElem?_cons_zero, List.getElem?_cons_succ, implies_true, and_self, Bool.and_true, Bool.true_and, BEq.rfl, and_assoc, Option.isSome_some, Option.isSome_none, List.take_succ_cons, List.take_zero, List.set_cons_zero, List.set_cons_succ, List.forall_mem_cons, List.not_mem_nil, forall_const, List.range, List.range.loop, ne_eq, not_false_eq_true, not_true_eq_false, List.cons.injEq, Prod.mk.injEq, List.append_nil, List.nil_append, List.cons_append, false_and, and_false, Bool.false_and, Bool.and_false, Nat.reduceBNe, Nat.reduceBEq, beq_self_eq_true, bne_self_eq_false, Nat.reduceBeqDiff, Bool.or_false, Bool.false_or, Bool.or_true, Bool.true_or, vs0, vs1, vs2, vs3, vs4, tys, gl0, Tryd.ntmps19, Tryd.results19, PF.toR, givesIf, slis_length, Int.toNat_natCast, g1, g2, hne, he, decide_true, spec_twice, sp_twice, c_twice, b_twice]
        refine ⟨by omega, by omega, by omega, by omega, ⟨k + 1, by omega, fun j hj' => ?_⟩, ⟨⟨wkD_eq rfl, rfl, wkD_eq rfl, rfl, wkD_eq rfl, rfl, wkD_eq ?_, rfl, trivial⟩, trivial, trivial⟩, by (try simp only); omega⟩
        · rcases Nat.lt_or_ge j k with h7 | h7
          · exact hjk j h7
          · obtain rfl : j = k := by omega
            exact fun h8 => h8.1 he
        · exact some_i64 (by (try simp only); omega)
      · simp (config := {dsimp := false}) only [↓a_range, ↓roundQ_normal, ↓roundQ_ret, ↓roundQ_exit, ↓a_skip, ↓a_exit, ↓a_ret, ↓a_seq, ↓a_cond, ↓a_block, ↓a_loop, ↓a_region, ↓a_draw, ↓a_region', ↓a_draw', ↓then_key, ↓with_key, ↓withY_key, ↓cond_key, ↓one_key, ↓thenQ_normal, ↓thenQ_exit, ↓thenQ_ret, ↓blockQ_normal, ↓blockQ_exit, ↓blockQ_ret, ↓aops, ↓aopsD, ↓imp_tt, ↓imp_ff, ↓imp_tf, ↓imp_ft, ↓imp_tnt, ↓imp_tnf, ↓imp_fnt, ↓imp_fnf, look, setL, resQ, argSlots, buildSt, buildArr, intsOf, eqB, keepSl, bindM, bindP, opR, okIf, ok, bad, ev, ofConst, putS, updS, S.upd, dstOk, yieldD, yieldY, strBin, isShift, cellD, retQ, resD, stripO, convR, conv2R, makeR, indexR, indexAddrR, fieldAddrR, loadR, storeR, allocR, boxR, pickR, buildR, buildSliceR, lenR, nilCheckR, extractR, funcR, ipSlice, sliceR, appendR, callR, minR, maxR, S.box, S.tok, TK.sh, known, tsize, destI, ownTok, srcI, isIn, isSl, isSt, appendI, appendL, bnd, aggBin, nilD, isPtr, fieldOf, sized, enumS, seeR, seeL, hasB, flat, flats, List.foldl_nil, List.foldl_cons, Option.getD_some, Option.getD_none, if_true, if_false, reduceIte, reduceCtorEq, Nat.reduceEqDiff, Nat.reduceAdd, Nat.reduceMul, Nat.reduceLT, Nat.reduceSub, Nat.reduceLeDiff, true_and, and_true, List.map_cons, List.map_nil, List.size_toArray, List.length_cons, List.length_nil, Option.map_some, Option.map_none, Option.bind_some, true_implies, Bool.false_eq_true, Bool.true_eq_false, false_implies, Bool.not_true, Bool.not_false, List.getElem?_cons_zero, List.getElem?_cons_succ, implies_true, and_self, Bool.and_true, Bool.true_and, BEq.rfl, and_assoc, Option.isSome_some, Option.isSome_none, List.take_succ_cons, List.take_zero, List.set_cons_zero, List.set_cons_succ, List.forall_mem_cons, List.not_mem_nil, forall_const, List.range, List.range.loop, ne_eq, not_false_eq_true, not_true_eq_false, List.cons.injEq, Prod.mk.injEq, List.append_nil, List.nil_append, List.cons_append, false_and, and_false, Bool.false_and, Bool.and_false, Nat.reduceBNe, Nat.reduceBEq, beq_self_eq_true, bne_self_eq_false, Nat.reduceBeqDiff, Bool.or_false, Bool.false_or, Bool.or_true, Bool.true_or, vs0, vs1, vs2, vs3, vs4, tys, gl0, Tryd.ntmps19, Tryd.results19, PF.toR, givesIf, slis_length, Int.toNat_natCast, g1, g2, hne, he, spec_twice, sp_twice, c_twice, b_twice]
        refine ⟨by omega, by omega, by omega, by omega, fun _ => ⟨by omega, by omega, by omega, by omega, by omega, by omega, fun h8 => ?_, fun h8 => ?_⟩, fun h8 => absurd h8 (by simp)⟩
        · rw [ts_slis, ts_slis, clash_true hil hkl he (of_decide_eq_true h8)]
        · have h8 := of_decide_eq_false h8
          refine ⟨⟨k + 1, by omega, fun j hj' => ?_⟩, ⟨⟨wkD_eq rfl, rfl, wkD_eq rfl, rfl, wkD_eq rfl, rfl, wkD_eq ?_, rfl, trivial⟩, trivial, trivial⟩, by (try simp only); omega⟩
          · rcases Nat.lt_or_ge j k with h7 | h7
            · exact hjk j h7
            · obtain rfl : j = k := by omega
              exact fun h9 => h8 h9.2
          · exact some_i64 (by (try simp only); omega)
    · have h2 := of_decide_eq_false h2
      refine ⟨⟨i + 1, by omega, fun j hj' k' hk' => ?_⟩, ⟨⟨wkD_eq rfl, rfl, wkD_eq rfl, rfl, wkD_eq ?_, rfl, trivial⟩, trivial, trivial⟩, by (try simp only); omega⟩
      · rcases Nat.lt_or_ge j i with h7 | h7
        · exact hj j h7 k' hk'
        · obtain rfl : j = i := by omega
          exact hjk k' (by omega)
      · exact some_i64 (by (try simp only); omega)
  · have hh := of_decide_eq_false hh
    have := clash_false (l := l) (m := m) fun j h7 k h8 => hj j (by omega) k h8
    simp (config := {dsimp := false}) only [↓a_range, ↓roundQ_normal, ↓roundQ_ret, ↓roundQ_exit, ↓a_skip, ↓a_exit, ↓a_ret, ↓a_seq, ↓a_cond, ↓a_block, ↓a_loop, ↓a_region, ↓a_draw, ↓a_region', ↓a_draw', ↓then_key, ↓with_key, ↓withY_key, ↓cond_key, ↓one_key, ↓thenQ_normal, ↓thenQ_exit, ↓thenQ_ret, ↓blockQ_normal, ↓blockQ_exit, ↓blockQ_ret, ↓aops, ↓aopsD, ↓imp_tt, ↓imp_ff, ↓imp_tf, ↓imp_ft, ↓imp_tnt, ↓imp_tnf, ↓imp_fnt, ↓imp_fnf, look, setL, resQ, argSlots, buildSt, buildArr, intsOf, eqB, keepSl, bindM, bindP, opR, okIf, ok, bad, ev, ofConst, putS, updS, S.upd, dstOk, yieldD, yieldY, strBin, isShift, cellD, retQ, resD, stripO, convR, conv2R, makeR, indexR, indexAddrR, fieldAddrR, loadR, storeR, allocR, boxR, pickR, buildR, buildSliceR, lenR, nilCheckR, extractR, funcR, ipSlice, sliceR, appendR, callR, minR, maxR, S.box, S.tok, TK.sh, known, tsize, destI, ownTok, srcI, isIn, isSl, isSt, appendI, appendL, bnd, aggBin, nilD, isPtr, fieldOf, sized, enumS, seeR, seeL, hasB, flat, flats, List.foldl_nil, List.foldl_cons, Option.getD_some, Option.getD_none, if_true, if_false, reduceIte, reduceCtorEq, Nat.reduceEqDiff, Nat.reduceAdd, Nat.reduceMul, Nat.reduceLT, Nat.reduceSub, Nat.reduceLeDiff, true_and, and_true, List.map_cons, List.map_nil, List.size_toArray, List.length_cons, List.length_nil, Option.map_some, Option.map_none, Option.bind_some, true_implies, Bool.false_eq_true, Bool.true_eq_false, false_implies, Bool.not_true, Bool.not_false, List.getElem?_cons_zero, List.getElem?_cons_succ, implies_true, and_self, Bool.and_true, Bool.true_and, BEq.rfl, and_assoc, Option.isSome_some, Option.isSome_none, List.take_succ_cons, List.take_zero, List.set_cons_zero, List.set_cons_succ, List.forall_mem_cons, List.not_mem_nil, forall_const, List.range, List.range.loop, ne_eq, not_false_eq_true, not_true_eq_false, List.cons.injEq, Prod.mk.injEq, List.append_nil, List.nil_append, List.cons_append, false_and, and_false, Bool.false_and, Bool.and_false, Nat.reduceBNe, Nat.reduceBEq, beq_self_eq_true, bne_self_eq_false, Nat.reduceBeqDiff, Bool.or_false, Bool.false_or, Bool.or_true, Bool.true_or, vs0, vs1, vs2, vs3, vs4, tys, gl0, Tryd.ntmps19, Tryd.results19, ts_slis, this, givesIf]
    all_goals rfl
end Go.Vi.C8
end
