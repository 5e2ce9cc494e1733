/- Parts of this proof, joined. No condition. -/
import Derived.Test.YtfokjpmcifkoeaaProg
import Derived.Shelf.SlSortCmp.Whole1
import Derived.Shelf.Sort.Plain
import Derived.Shelf.Slices.CompactI
import Derived.Test.YtfokjpmcifkoeaaPv
namespace Go.Proofs
open Go.Shelf
def Try.laySort_ren : Go.Shelf.Ren := ⟨fun | 6 => 52 | 15 => 63 | 14 => 64 | 28 => 74 | 29 => 75 | 20 => 76 | 21 => 77 | 22 => 78 | 23 => 79 | 24 => 80 | 25 => 81 | 26 => 82 | 27 => 83 | 46 => 90 | 47 => 85 | 48 => 86 | 49 => 91 | 50 => 92 | 57 => 94 | n => n, fun | 22 => 22 | 24 => 23 | 25 => 63 | 3 => 3 | 39 => 77 | 0 => 0 | 53 => 89 | 55 => 91 | 4 => 4 | 46 => 82 | 45 => 81 | 50 => 86 | 5 => 5 | 9 => 9 | 66 => 97 | 70 => 101 | 76 => 105 | 77 => 106 | n => n, fun | n => n⟩
theorem Try.laySort : Go.Proofs.SlLaysF.n6 Try.prog Try.laySort_ren := {
  mixed := by kernel_rfl
  f6 := ⟨"slices.SortFunc[[][]int,[]int]", by decide, Try.func52.trans (congrArg some (by kernel_rfl))⟩
  f14 := ⟨"slices.pdqsortCmpFunc[[]int]", by decide, Try.func64.trans (congrArg some (by kernel_rfl))⟩
  f15 := Try.func63.trans (congrArg some (by kernel_rfl))
  f20 := ⟨"slices.insertionSortCmpFunc[[]int]", by decide, Try.func76.trans (congrArg some (by kernel_rfl))⟩
  f21 := ⟨"slices.heapSortCmpFunc[[]int]", by decide, Try.func77.trans (congrArg some (by kernel_rfl))⟩
  f22 := ⟨"slices.breakPatternsCmpFunc[[]int]", by decide, Try.func78.trans (congrArg some (by kernel_rfl))⟩
  f23 := ⟨"slices.choosePivotCmpFunc[[]int]", by decide, Try.func79.trans (congrArg some (by kernel_rfl))⟩
  f24 := ⟨"slices.reverseRangeCmpFunc[[]int]", by decide, Try.func80.trans (congrArg some (by kernel_rfl))⟩
  f25 := ⟨"slices.partialInsertionSortCmpFunc[[]int]", by decide, Try.func81.trans (congrArg some (by kernel_rfl))⟩
  f26 := ⟨"slices.partitionEqualCmpFunc[[]int]", by decide, Try.func82.trans (congrArg some (by kernel_rfl))⟩
  f27 := ⟨"slices.partitionCmpFunc[[]int]", by decide, Try.func83.trans (congrArg some (by kernel_rfl))⟩
  f28 := Try.func74.trans (congrArg some (by kernel_rfl))
  f29 := Try.func75.trans (congrArg some (by kernel_rfl))
  f46 := ⟨"slices.siftDownCmpFunc[[]int]", by decide, Try.func90.trans (congrArg some (by kernel_rfl))⟩
  f47 := Try.func85.trans (congrArg some (by kernel_rfl))
  f48 := Try.func86.trans (congrArg some (by kernel_rfl))
  f49 := ⟨"slices.medianAdjacentCmpFunc[[]int]", by decide, Try.func91.trans (congrArg some (by kernel_rfl))⟩
  f50 := ⟨"slices.medianCmpFunc[[]int]", by decide, Try.func92.trans (congrArg some (by kernel_rfl))⟩
  f57 := ⟨"slices.order2CmpFunc[[]int]", by decide, Try.func94.trans (congrArg some (by kernel_rfl))⟩
  t0 := Try.underlying0
  a0 := Try.isAgg0
  z0 := Try.sizeOf0
  v0 := Try.zeroValue0
  t3 := Try.underlying3
  a3 := Try.isAgg3
  z3 := Try.sizeOf3
  v3 := Try.zeroValue3
  t4 := Try.underlying4
  a4 := Try.isAgg4
  z4 := Try.sizeOf4
  v4 := Try.zeroValue4
  t5 := Try.underlying5
  a5 := Try.isAgg5
  z5 := Try.sizeOf5
  v5 := Try.zeroValue5
  t9 := Try.underlying9
  a9 := Try.isAgg9
  z9 := Try.sizeOf9
  v9 := Try.zeroValue9
  t22 := Try.underlying22
  a22 := Try.isAgg22
  z22 := Try.sizeOf22
  v22 := Try.zeroValue22
  a24 := Try.isAgg23
  z24 := Try.sizeOf23
  t25 := Try.underlying63
  a25 := Try.isAgg63
  z25 := Try.sizeOf63
  v25 := Try.zeroValue63
  t39 := Try.underlying77
  a39 := Try.isAgg77
  z39 := Try.sizeOf77
  v39 := Try.zeroValue77
  t45 := Try.underlying81
  a45 := Try.isAgg81
  z45 := Try.sizeOf81
  v45 := Try.zeroValue81
  t46 := Try.underlying82
  a46 := Try.isAgg82
  z46 := Try.sizeOf82
  v46 := Try.zeroValue82
  t50 := Try.underlying86
  a50 := Try.isAgg86
  z50 := Try.sizeOf86
  v50 := Try.zeroValue86
  t53 := Try.underlying89
  a53 := Try.isAgg89
  z53 := Try.sizeOf89
  v53 := Try.zeroValue89
  t55 := Try.underlying91
  a55 := Try.isAgg91
  z55 := Try.sizeOf91
  v55 := Try.zeroValue91
  t66 := Try.underlying97
  a66 := Try.isAgg97
  z66 := Try.sizeOf97
  v66 := Try.zeroValue97
  t70 := Try.underlying101
  a70 := Try.isAgg101
  z70 := Try.sizeOf101
  v70 := Try.zeroValue101
  t76 := Try.underlying105
  a76 := Try.isAgg105
  z76 := Try.sizeOf105
  v76 := Try.zeroValue105
  t77 := Try.underlying106
  a77 := Try.isAgg106
  z77 := Try.sizeOf106
  v77 := Try.zeroValue106 }
end Go.Proofs
namespace Go.Proofs
open Go.Shelf
def Try.lays189_ren : Go.Shelf.Ren := ⟨fun | 189 => 51 | 125 => 63 | 257 => 62 | 128 => 74 | 129 => 75 | 294 => 65 | 295 => 66 | 296 => 67 | 297 => 68 | 298 => 69 | 299 => 70 | 216 => 71 | 300 => 72 | 301 => 73 | 328 => 84 | 329 => 85 | 330 => 86 | 331 => 87 | 332 => 88 | 215 => 89 | 343 => 93 | n => n, fun | 28 => 23 | 3 => 3 | 46 => 77 | 0 => 0 | 51 => 89 | 53 => 91 | 4 => 4 | 183 => 82 | 182 => 81 | 131 => 86 | 5 => 5 | 9 => 9 | 218 => 97 | 222 => 101 | 228 => 105 | 229 => 106 | n => n, fun | n => n⟩
theorem Try.lays189 : Go.Proofs.Lays.n189 Try.prog Try.lays189_ren := {
  mixed := by kernel_rfl
  f125 := Try.func63.trans (congrArg some (by kernel_rfl))
  f128 := Try.func74.trans (congrArg some (by kernel_rfl))
  f129 := Try.func75.trans (congrArg some (by kernel_rfl))
  f189 := Try.func51.trans (congrArg some (by kernel_rfl))
  f215 := Try.func89.trans (congrArg some (by kernel_rfl))
  f216 := Try.func71.trans (congrArg some (by kernel_rfl))
  f257 := Try.func62.trans (congrArg some (by kernel_rfl))
  f294 := Try.func65.trans (congrArg some (by kernel_rfl))
  f295 := Try.func66.trans (congrArg some (by kernel_rfl))
  f296 := Try.func67.trans (congrArg some (by kernel_rfl))
  f297 := Try.func68.trans (congrArg some (by kernel_rfl))
  f298 := Try.func69.trans (congrArg some (by kernel_rfl))
  f299 := Try.func70.trans (congrArg some (by kernel_rfl))
  f300 := Try.func72.trans (congrArg some (by kernel_rfl))
  f301 := Try.func73.trans (congrArg some (by kernel_rfl))
  f328 := Try.func84.trans (congrArg some (by kernel_rfl))
  f329 := Try.func85.trans (congrArg some (by kernel_rfl))
  f330 := Try.func86.trans (congrArg some (by kernel_rfl))
  f331 := Try.func87.trans (congrArg some (by kernel_rfl))
  f332 := Try.func88.trans (congrArg some (by kernel_rfl))
  f343 := Try.func93.trans (congrArg some (by kernel_rfl))
  t0 := Try.underlying0
  a0 := Try.isAgg0
  z0 := Try.sizeOf0
  v0 := Try.zeroValue0
  t3 := Try.underlying3
  a3 := Try.isAgg3
  z3 := Try.sizeOf3
  v3 := Try.zeroValue3
  t4 := Try.underlying4
  a4 := Try.isAgg4
  z4 := Try.sizeOf4
  v4 := Try.zeroValue4
  t5 := Try.underlying5
  a5 := Try.isAgg5
  z5 := Try.sizeOf5
  v5 := Try.zeroValue5
  t9 := Try.underlying9
  a9 := Try.isAgg9
  z9 := Try.sizeOf9
  v9 := Try.zeroValue9
  t28 := Try.underlying23
  a28 := Try.isAgg23
  z28 := Try.sizeOf23
  v28 := Try.zeroValue23
  t46 := Try.underlying77
  a46 := Try.isAgg77
  z46 := Try.sizeOf77
  v46 := Try.zeroValue77
  t51 := Try.underlying89
  a51 := Try.isAgg89
  z51 := Try.sizeOf89
  v51 := Try.zeroValue89
  t53 := Try.underlying91
  a53 := Try.isAgg91
  z53 := Try.sizeOf91
  v53 := Try.zeroValue91
  t131 := Try.underlying86
  a131 := Try.isAgg86
  z131 := Try.sizeOf86
  v131 := Try.zeroValue86
  t182 := Try.underlying81
  a182 := Try.isAgg81
  z182 := Try.sizeOf81
  v182 := Try.zeroValue81
  t183 := Try.underlying82
  a183 := Try.isAgg82
  z183 := Try.sizeOf82
  v183 := Try.zeroValue82
  t218 := Try.underlying97
  a218 := Try.isAgg97
  z218 := Try.sizeOf97
  v218 := Try.zeroValue97
  t222 := Try.underlying101
  a222 := Try.isAgg101
  z222 := Try.sizeOf101
  v222 := Try.zeroValue101
  t228 := Try.underlying105
  a228 := Try.isAgg105
  z228 := Try.sizeOf105
  v228 := Try.zeroValue105
  t229 := Try.underlying106
  a229 := Try.isAgg106
  z229 := Try.sizeOf106
  v229 := Try.zeroValue106 }
end Go.Proofs
namespace Go.Proofs.Ytfokjpmcifkoeaa
open Pv
instance : TyOne Try.prog 2 := ⟨⟨_, Try.underlying2, rfl⟩, by kernel_rfl⟩
instance : TySize Try.prog 2 1 := ⟨by kernel_rfl⟩
instance : TyZero Try.prog 2 (.int .i64 0) := .mk' (by kernel_rfl)
instance : TyOne Try.prog 3 := ⟨⟨_, Try.underlying3, rfl⟩, by kernel_rfl⟩
instance : TySize Try.prog 3 1 := ⟨by kernel_rfl⟩
instance : TyZero Try.prog 3 (.int .i64 0) := .mk' (by kernel_rfl)
instance : TyOne Try.prog 4 := ⟨⟨_, Try.underlying4, rfl⟩, by kernel_rfl⟩
instance : TySize Try.prog 4 1 := ⟨by kernel_rfl⟩
instance : TyZero Try.prog 4 (.bool false) := .mk' (by kernel_rfl)
instance : TyOne Try.prog 5 := ⟨⟨_, Try.underlying5, rfl⟩, by kernel_rfl⟩
instance : TySize Try.prog 5 1 := ⟨by kernel_rfl⟩
instance : TyZero Try.prog 5 (.int .u8 0) := .mk' (by kernel_rfl)
instance : TyOne Try.prog 6 := ⟨⟨_, Try.underlying6, rfl⟩, by kernel_rfl⟩
instance : TySize Try.prog 6 1 := ⟨by kernel_rfl⟩
instance : TyZero Try.prog 6 (.int .u8 0) := .mk' (by kernel_rfl)
instance : TyRow Try.prog 7 4 := ⟨⟨_, Try.underlying7, rfl⟩, by kernel_rfl⟩
instance : TySize Try.prog 7 4 := ⟨by kernel_rfl⟩
instance : TyZero Try.prog 7 (.agg #[.int .i64 0, .int .i64 0, .bool false, .int .u8 0]) := .mk' (by kernel_rfl)
instance : TyField Try.prog 7 0 0 := .mk' (n := 1) Try.underlying7 rfl rfl (by kernel_rfl) (by decide)
instance : TyField Try.prog 7 1 1 := .mk' (n := 1) Try.underlying7 rfl rfl (by kernel_rfl) (by decide)
instance : TyField Try.prog 7 2 2 := .mk' (n := 1) Try.underlying7 rfl rfl (by kernel_rfl) (by decide)
instance : TyField Try.prog 7 3 3 := .mk' (n := 1) Try.underlying7 rfl rfl (by kernel_rfl) (by decide)
instance : TyStruct Try.prog 7 [.int .i64 0, .int .i64 0, .bool false, .int .u8 0] [(0, 1), (1, 1), (2, 1), (3, 1)] := .mk' Try.underlying7 (by kernel_rfl) (by kernel_rfl)
instance : TyRow Try.prog 8 4 := ⟨⟨_, Try.underlying8, rfl⟩, by kernel_rfl⟩
instance : TySize Try.prog 8 4 := ⟨by kernel_rfl⟩
instance : TyZero Try.prog 8 (.agg #[.int .i64 0, .int .i64 0, .bool false, .int .u8 0]) := .mk' (by kernel_rfl)
instance : TyField Try.prog 8 0 0 := .mk' (n := 1) Try.underlying8 rfl rfl (by kernel_rfl) (by decide)
instance : TyField Try.prog 8 1 1 := .mk' (n := 1) Try.underlying8 rfl rfl (by kernel_rfl) (by decide)
instance : TyField Try.prog 8 2 2 := .mk' (n := 1) Try.underlying8 rfl rfl (by kernel_rfl) (by decide)
instance : TyField Try.prog 8 3 3 := .mk' (n := 1) Try.underlying8 rfl rfl (by kernel_rfl) (by decide)
instance : TyStruct Try.prog 8 [.int .i64 0, .int .i64 0, .bool false, .int .u8 0] [(0, 1), (1, 1), (2, 1), (3, 1)] := .mk' Try.underlying8 (by kernel_rfl) (by kernel_rfl)
instance : TyOne Try.prog 9 := ⟨⟨_, Try.underlying9, rfl⟩, by kernel_rfl⟩
instance : TySize Try.prog 9 1 := ⟨by kernel_rfl⟩
instance : TyZero Try.prog 9 (.string ⟨#[]⟩) := .mk' (by kernel_rfl)
instance : TyOne Try.prog 10 := ⟨⟨_, Try.underlying10, rfl⟩, by kernel_rfl⟩
instance : TySize Try.prog 10 1 := ⟨by kernel_rfl⟩
instance : TyZero Try.prog 10 (.string ⟨#[]⟩) := .mk' (by kernel_rfl)
instance : TyOne Try.prog 11 := ⟨⟨_, Try.underlying11, rfl⟩, by kernel_rfl⟩
instance : TySize Try.prog 11 1 := ⟨by kernel_rfl⟩
instance : TyZero Try.prog 11 (.string ⟨#[]⟩) := .mk' (by kernel_rfl)
instance : TyOne Try.prog 12 := ⟨⟨_, Try.underlying12, rfl⟩, by kernel_rfl⟩
instance : TySize Try.prog 12 1 := ⟨by kernel_rfl⟩
instance : TyZero Try.prog 12 (.int .u64 0) := .mk' (by kernel_rfl)
instance : TyRow Try.prog 13 2 := ⟨⟨_, Try.underlying13, rfl⟩, by kernel_rfl⟩
instance : TySize Try.prog 13 2 := ⟨by kernel_rfl⟩
instance : TyZero Try.prog 13 (.agg #[.string ⟨#[]⟩, .int .u64 0]) := .mk' (by kernel_rfl)
instance : TyField Try.prog 13 0 0 := .mk' (n := 1) Try.underlying13 rfl rfl (by kernel_rfl) (by decide)
instance : TyField Try.prog 13 1 1 := .mk' (n := 1) Try.underlying13 rfl rfl (by kernel_rfl) (by decide)
instance : TyStruct Try.prog 13 [.string ⟨#[]⟩, .int .u64 0] [(0, 1), (1, 1)] := .mk' Try.underlying13 (by kernel_rfl) (by kernel_rfl)
instance : TyRow Try.prog 14 2 := ⟨⟨_, Try.underlying14, rfl⟩, by kernel_rfl⟩
instance : TySize Try.prog 14 2 := ⟨by kernel_rfl⟩
instance : TyZero Try.prog 14 (.agg #[.string ⟨#[]⟩, .int .u64 0]) := .mk' (by kernel_rfl)
instance : TyField Try.prog 14 0 0 := .mk' (n := 1) Try.underlying14 rfl rfl (by kernel_rfl) (by decide)
instance : TyField Try.prog 14 1 1 := .mk' (n := 1) Try.underlying14 rfl rfl (by kernel_rfl) (by decide)
instance : TyStruct Try.prog 14 [.string ⟨#[]⟩, .int .u64 0] [(0, 1), (1, 1)] := .mk' Try.underlying14 (by kernel_rfl) (by kernel_rfl)
instance : TyOne Try.prog 15 := ⟨⟨_, Try.underlying15, rfl⟩, by kernel_rfl⟩
instance : TySize Try.prog 15 1 := ⟨by kernel_rfl⟩
instance : TyOne Try.prog 16 := ⟨⟨_, Try.underlying16, rfl⟩, by kernel_rfl⟩
instance : TySize Try.prog 16 1 := ⟨by kernel_rfl⟩
instance : TyOne Try.prog 17 := ⟨⟨_, Try.underlying17, rfl⟩, by kernel_rfl⟩
instance : TySize Try.prog 17 1 := ⟨by kernel_rfl⟩
instance : TyRow Try.prog 18 1 := ⟨⟨_, Try.underlying18, rfl⟩, by kernel_rfl⟩
instance : TySize Try.prog 18 1 := ⟨by kernel_rfl⟩
instance : TyField Try.prog 18 0 0 := .mk' (n := 1) Try.underlying18 rfl rfl (by kernel_rfl) (by decide)
instance : TyRow Try.prog 19 1 := ⟨⟨_, Try.underlying19, rfl⟩, by kernel_rfl⟩
instance : TySize Try.prog 19 1 := ⟨by kernel_rfl⟩
instance : TyField Try.prog 19 0 0 := .mk' (n := 1) Try.underlying19 rfl rfl (by kernel_rfl) (by decide)
instance : TyOne Try.prog 21 := ⟨⟨_, Try.underlying21, rfl⟩, by kernel_rfl⟩
instance : TySize Try.prog 21 1 := ⟨by kernel_rfl⟩
instance : TyZero Try.prog 21 (.int .i32 0) := .mk' (by kernel_rfl)
instance : TyOne Try.prog 22 := ⟨⟨_, Try.underlying22, rfl⟩, by kernel_rfl⟩
instance : TySize Try.prog 22 1 := ⟨by kernel_rfl⟩
instance : TyZero Try.prog 22 (.slice none 0 0) := .mk' (by kernel_rfl)
instance : TySl Try.prog 22 23 1 24 := .mk' (z := (.slice none 0 0)) Try.underlying22 (by kernel_rfl) rfl (by decide) (by decide)
instance : TyOne Try.prog 23 := ⟨⟨_, Try.underlying23, rfl⟩, by kernel_rfl⟩
instance : TySize Try.prog 23 1 := ⟨by kernel_rfl⟩
instance : TyZero Try.prog 23 (.slice none 0 0) := .mk' (by kernel_rfl)
instance : TySl Try.prog 23 3 1 8 := .mk' (z := (.int .i64 0)) Try.underlying23 (by kernel_rfl) rfl (by decide) (by decide)
instance : TyOne Try.prog 25 := ⟨⟨_, Try.underlying25, rfl⟩, by kernel_rfl⟩
instance : TySize Try.prog 25 1 := ⟨by kernel_rfl⟩
instance : TyZero Try.prog 25 (.int .i64 0) := .mk' (by kernel_rfl)
instance : TyOne Try.prog 41 := ⟨⟨_, Try.underlying41, rfl⟩, by kernel_rfl⟩
instance : TySize Try.prog 41 1 := ⟨by kernel_rfl⟩
instance : TyZero Try.prog 41 (.slice none 0 0) := .mk' (by kernel_rfl)
instance : TySl Try.prog 41 42 1 24 := .mk' (z := (.slice none 0 0)) Try.underlying41 (by kernel_rfl) rfl (by decide) (by decide)
instance : TyOne Try.prog 42 := ⟨⟨_, Try.underlying42, rfl⟩, by kernel_rfl⟩
instance : TySize Try.prog 42 1 := ⟨by kernel_rfl⟩
instance : TyZero Try.prog 42 (.slice none 0 0) := .mk' (by kernel_rfl)
instance : TySl Try.prog 42 4 1 1 := .mk' (z := (.bool false)) Try.underlying42 (by kernel_rfl) rfl (by decide) (by decide)
instance : TyOne Try.prog 49 := ⟨⟨_, Try.underlying49, rfl⟩, by kernel_rfl⟩
instance : TySize Try.prog 49 1 := ⟨by kernel_rfl⟩
instance : TyZero Try.prog 49 (.slice none 0 0) := .mk' (by kernel_rfl)
instance : TySl Try.prog 49 22 1 24 := .mk' (z := (.slice none 0 0)) Try.underlying49 (by kernel_rfl) rfl (by decide) (by decide)
instance : TyOne Try.prog 52 := ⟨⟨_, Try.underlying52, rfl⟩, by kernel_rfl⟩
instance : TySize Try.prog 52 1 := ⟨by kernel_rfl⟩
instance : TyZero Try.prog 52 (.slice none 0 0) := .mk' (by kernel_rfl)
instance : TySl Try.prog 52 3 1 8 := .mk' (z := (.int .i64 0)) Try.underlying52 (by kernel_rfl) rfl (by decide) (by decide)
instance : TyOne Try.prog 53 := ⟨⟨_, Try.underlying53, rfl⟩, by kernel_rfl⟩
instance : TySize Try.prog 53 1 := ⟨by kernel_rfl⟩
instance : TyOne Try.prog 54 := ⟨⟨_, Try.underlying54, rfl⟩, by kernel_rfl⟩
instance : TySize Try.prog 54 1 := ⟨by kernel_rfl⟩
instance : TyZero Try.prog 54 (.slice none 0 0) := .mk' (by kernel_rfl)
instance : TySl Try.prog 54 3 1 8 := .mk' (z := (.int .i64 0)) Try.underlying54 (by kernel_rfl) rfl (by decide) (by decide)
instance : TyOne Try.prog 77 := ⟨⟨_, Try.underlying77, rfl⟩, by kernel_rfl⟩
instance : TySize Try.prog 77 1 := ⟨by kernel_rfl⟩
instance : TyZero Try.prog 77 (.int .u64 0) := .mk' (by kernel_rfl)
instance : TyOne Try.prog 81 := ⟨⟨_, Try.underlying81, rfl⟩, by kernel_rfl⟩
instance : TySize Try.prog 81 1 := ⟨by kernel_rfl⟩
instance : TyZero Try.prog 81 (.int .i64 0) := .mk' (by kernel_rfl)
instance : TyOne Try.prog 89 := ⟨⟨_, Try.underlying89, rfl⟩, by kernel_rfl⟩
instance : TySize Try.prog 89 1 := ⟨by kernel_rfl⟩
instance : TyZero Try.prog 89 (.int .u32 0) := .mk' (by kernel_rfl)
instance : TyOne Try.prog 91 := ⟨⟨_, Try.underlying91, rfl⟩, by kernel_rfl⟩
instance : TySize Try.prog 91 1 := ⟨by kernel_rfl⟩
instance : TyZero Try.prog 91 (.int .u64 0) := .mk' (by kernel_rfl)
instance : TyOne Try.prog 97 := ⟨⟨_, Try.underlying97, rfl⟩, by kernel_rfl⟩
instance : TySize Try.prog 97 1 := ⟨by kernel_rfl⟩
instance : TyZero Try.prog 97 (.int .u64 0) := .mk' (by kernel_rfl)
instance : TyOne Try.prog 101 := ⟨⟨_, Try.underlying101, rfl⟩, by kernel_rfl⟩
instance : TySize Try.prog 101 1 := ⟨by kernel_rfl⟩
instance : TyOne Try.prog 105 := ⟨⟨_, Try.underlying105, rfl⟩, by kernel_rfl⟩
instance : TySize Try.prog 105 1 := ⟨by kernel_rfl⟩
instance : TyRow Try.prog 110 4 := ⟨⟨_, Try.underlying110, rfl⟩, by kernel_rfl⟩
instance : TySize Try.prog 110 4 := ⟨by kernel_rfl⟩
instance : TyField Try.prog 110 0 0 := .mk' (n := 1) Try.underlying110 rfl rfl (by kernel_rfl) (by decide)
instance : TyField Try.prog 110 1 1 := .mk' (n := 1) Try.underlying110 rfl rfl (by kernel_rfl) (by decide)
instance : TyField Try.prog 110 2 2 := .mk' (n := 1) Try.underlying110 rfl rfl (by kernel_rfl) (by decide)
instance : TyField Try.prog 110 3 3 := .mk' (n := 1) Try.underlying110 rfl rfl (by kernel_rfl) (by decide)
instance : TyRow Try.prog 111 4 := ⟨⟨_, Try.underlying111, rfl⟩, by kernel_rfl⟩
instance : TySize Try.prog 111 4 := ⟨by kernel_rfl⟩
instance : TyField Try.prog 111 0 0 := .mk' (n := 1) Try.underlying111 rfl rfl (by kernel_rfl) (by decide)
instance : TyField Try.prog 111 1 1 := .mk' (n := 1) Try.underlying111 rfl rfl (by kernel_rfl) (by decide)
instance : TyField Try.prog 111 2 2 := .mk' (n := 1) Try.underlying111 rfl rfl (by kernel_rfl) (by decide)
instance : TyField Try.prog 111 3 3 := .mk' (n := 1) Try.underlying111 rfl rfl (by kernel_rfl) (by decide)
instance : TyOne Try.prog 115 := ⟨⟨_, Try.underlying115, rfl⟩, by kernel_rfl⟩
instance : TySize Try.prog 115 1 := ⟨by kernel_rfl⟩
instance : TyZero Try.prog 115 (.int .u8 0) := .mk' (by kernel_rfl)
instance : TyOne Try.prog 116 := ⟨⟨_, Try.underlying116, rfl⟩, by kernel_rfl⟩
instance : TySize Try.prog 116 1 := ⟨by kernel_rfl⟩
instance : TyZero Try.prog 116 (.int .u8 0) := .mk' (by kernel_rfl)
instance : TyOne Try.prog 118 := ⟨⟨_, Try.underlying118, rfl⟩, by kernel_rfl⟩
instance : TySize Try.prog 118 1 := ⟨by kernel_rfl⟩
instance : TyOne Try.prog 119 := ⟨⟨_, Try.underlying119, rfl⟩, by kernel_rfl⟩
instance : TySize Try.prog 119 1 := ⟨by kernel_rfl⟩
instance : TyZero Try.prog 119 (.int .i32 0) := .mk' (by kernel_rfl)
instance : TyOne Try.prog 120 := ⟨⟨_, Try.underlying120, rfl⟩, by kernel_rfl⟩
instance : TySize Try.prog 120 1 := ⟨by kernel_rfl⟩
instance : TyZero Try.prog 120 (.int .i32 0) := .mk' (by kernel_rfl)
instance : TyRow Try.prog 121 11 := ⟨⟨_, Try.underlying121, rfl⟩, by kernel_rfl⟩
instance : TySize Try.prog 121 11 := ⟨by kernel_rfl⟩
instance : TyField Try.prog 121 0 0 := .mk' (n := 1) Try.underlying121 rfl rfl (by kernel_rfl) (by decide)
instance : TyField Try.prog 121 1 1 := .mk' (n := 1) Try.underlying121 rfl rfl (by kernel_rfl) (by decide)
instance : TyField Try.prog 121 2 2 := .mk' (n := 1) Try.underlying121 rfl rfl (by kernel_rfl) (by decide)
instance : TyField Try.prog 121 3 3 := .mk' (n := 1) Try.underlying121 rfl rfl (by kernel_rfl) (by decide)
instance : TyField Try.prog 121 4 4 := .mk' (n := 1) Try.underlying121 rfl rfl (by kernel_rfl) (by decide)
instance : TyField Try.prog 121 5 5 := .mk' (n := 1) Try.underlying121 rfl rfl (by kernel_rfl) (by decide)
instance : TyField Try.prog 121 6 6 := .mk' (n := 1) Try.underlying121 rfl rfl (by kernel_rfl) (by decide)
instance : TyField Try.prog 121 8 8 := .mk' (n := 1) Try.underlying121 rfl rfl (by kernel_rfl) (by decide)
instance : TyField Try.prog 121 9 9 := .mk' (n := 1) Try.underlying121 rfl rfl (by kernel_rfl) (by decide)
instance : TyField Try.prog 121 10 10 := .mk' (n := 1) Try.underlying121 rfl rfl (by kernel_rfl) (by decide)
instance : TyRow Try.prog 122 11 := ⟨⟨_, Try.underlying122, rfl⟩, by kernel_rfl⟩
instance : TySize Try.prog 122 11 := ⟨by kernel_rfl⟩
instance : TyField Try.prog 122 0 0 := .mk' (n := 1) Try.underlying122 rfl rfl (by kernel_rfl) (by decide)
instance : TyField Try.prog 122 1 1 := .mk' (n := 1) Try.underlying122 rfl rfl (by kernel_rfl) (by decide)
instance : TyField Try.prog 122 2 2 := .mk' (n := 1) Try.underlying122 rfl rfl (by kernel_rfl) (by decide)
instance : TyField Try.prog 122 3 3 := .mk' (n := 1) Try.underlying122 rfl rfl (by kernel_rfl) (by decide)
instance : TyField Try.prog 122 4 4 := .mk' (n := 1) Try.underlying122 rfl rfl (by kernel_rfl) (by decide)
instance : TyField Try.prog 122 5 5 := .mk' (n := 1) Try.underlying122 rfl rfl (by kernel_rfl) (by decide)
instance : TyField Try.prog 122 6 6 := .mk' (n := 1) Try.underlying122 rfl rfl (by kernel_rfl) (by decide)
instance : TyField Try.prog 122 8 8 := .mk' (n := 1) Try.underlying122 rfl rfl (by kernel_rfl) (by decide)
instance : TyField Try.prog 122 9 9 := .mk' (n := 1) Try.underlying122 rfl rfl (by kernel_rfl) (by decide)
instance : TyField Try.prog 122 10 10 := .mk' (n := 1) Try.underlying122 rfl rfl (by kernel_rfl) (by decide)
end Go.Proofs.Ytfokjpmcifkoeaa
