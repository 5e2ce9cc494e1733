/- What the program says of its types, as the machine asks it. Written by a program for this seat. No condition. -/
import Derived.Test.YtonangdimkgdpaaPv
import Derived.Test.YtonangdimkgdpaaProg
namespace Go.Proofs.Ytonangdimkgdpaa
open Pv
instance : TyOne Try.prog 2 := ⟨⟨_, Try.underlying2, rfl⟩, by kernel_rfl⟩
instance : TySize Try.prog 2 1 := ⟨by kernel_rfl⟩
instance : TyZero Try.prog 2 (.int .i64 0) := .mk' (by kernel_rfl)
instance : TyOne Try.prog 3 := ⟨⟨_, Try.underlying3, rfl⟩, by kernel_rfl⟩
instance : TySize Try.prog 3 1 := ⟨by kernel_rfl⟩
instance : TyZero Try.prog 3 (.int .i64 0) := .mk' (by kernel_rfl)
instance : TyOne Try.prog 4 := ⟨⟨_, Try.underlying4, rfl⟩, by kernel_rfl⟩
instance : TySize Try.prog 4 1 := ⟨by kernel_rfl⟩
instance : TyZero Try.prog 4 (.bool false) := .mk' (by kernel_rfl)
instance : TyOne Try.prog 5 := ⟨⟨_, Try.underlying5, rfl⟩, by kernel_rfl⟩
instance : TySize Try.prog 5 1 := ⟨by kernel_rfl⟩
instance : TyZero Try.prog 5 (.int .u8 0) := .mk' (by kernel_rfl)
instance : TyOne Try.prog 6 := ⟨⟨_, Try.underlying6, rfl⟩, by kernel_rfl⟩
instance : TySize Try.prog 6 1 := ⟨by kernel_rfl⟩
instance : TyZero Try.prog 6 (.int .u8 0) := .mk' (by kernel_rfl)
instance : TyRow Try.prog 7 4 := ⟨⟨_, Try.underlying7, rfl⟩, by kernel_rfl⟩
instance : TySize Try.prog 7 4 := ⟨by kernel_rfl⟩
instance : TyZero Try.prog 7 (.agg #[.int .i64 0, .int .i64 0, .bool false, .int .u8 0]) := .mk' (by kernel_rfl)
instance : TyField Try.prog 7 0 0 := .mk' (n := 1) Try.underlying7 rfl rfl (by kernel_rfl) (by decide)
instance : TyField Try.prog 7 1 1 := .mk' (n := 1) Try.underlying7 rfl rfl (by kernel_rfl) (by decide)
instance : TyField Try.prog 7 2 2 := .mk' (n := 1) Try.underlying7 rfl rfl (by kernel_rfl) (by decide)
instance : TyField Try.prog 7 3 3 := .mk' (n := 1) Try.underlying7 rfl rfl (by kernel_rfl) (by decide)
instance : TyStruct Try.prog 7 [.int .i64 0, .int .i64 0, .bool false, .int .u8 0] [(0, 1), (1, 1), (2, 1), (3, 1)] := .mk' Try.underlying7 (by kernel_rfl) (by kernel_rfl)
instance : TyRow Try.prog 8 4 := ⟨⟨_, Try.underlying8, rfl⟩, by kernel_rfl⟩
instance : TySize Try.prog 8 4 := ⟨by kernel_rfl⟩
instance : TyZero Try.prog 8 (.agg #[.int .i64 0, .int .i64 0, .bool false, .int .u8 0]) := .mk' (by kernel_rfl)
instance : TyField Try.prog 8 0 0 := .mk' (n := 1) Try.underlying8 rfl rfl (by kernel_rfl) (by decide)
instance : TyField Try.prog 8 1 1 := .mk' (n := 1) Try.underlying8 rfl rfl (by kernel_rfl) (by decide)
instance : TyField Try.prog 8 2 2 := .mk' (n := 1) Try.underlying8 rfl rfl (by kernel_rfl) (by decide)
instance : TyField Try.prog 8 3 3 := .mk' (n := 1) Try.underlying8 rfl rfl (by kernel_rfl) (by decide)
instance : TyStruct Try.prog 8 [.int .i64 0, .int .i64 0, .bool false, .int .u8 0] [(0, 1), (1, 1), (2, 1), (3, 1)] := .mk' Try.underlying8 (by kernel_rfl) (by kernel_rfl)
instance : TyOne Try.prog 9 := ⟨⟨_, Try.underlying9, rfl⟩, by kernel_rfl⟩
instance : TySize Try.prog 9 1 := ⟨by kernel_rfl⟩
instance : TyZero Try.prog 9 (.string ⟨#[]⟩) := .mk' (by kernel_rfl)
instance : TyOne Try.prog 10 := ⟨⟨_, Try.underlying10, rfl⟩, by kernel_rfl⟩
instance : TySize Try.prog 10 1 := ⟨by kernel_rfl⟩
instance : TyZero Try.prog 10 (.string ⟨#[]⟩) := .mk' (by kernel_rfl)
instance : TyOne Try.prog 11 := ⟨⟨_, Try.underlying11, rfl⟩, by kernel_rfl⟩
instance : TySize Try.prog 11 1 := ⟨by kernel_rfl⟩
instance : TyZero Try.prog 11 (.string ⟨#[]⟩) := .mk' (by kernel_rfl)
instance : TyOne Try.prog 12 := ⟨⟨_, Try.underlying12, rfl⟩, by kernel_rfl⟩
instance : TySize Try.prog 12 1 := ⟨by kernel_rfl⟩
instance : TyZero Try.prog 12 (.int .u64 0) := .mk' (by kernel_rfl)
instance : TyRow Try.prog 13 2 := ⟨⟨_, Try.underlying13, rfl⟩, by kernel_rfl⟩
instance : TySize Try.prog 13 2 := ⟨by kernel_rfl⟩
instance : TyZero Try.prog 13 (.agg #[.string ⟨#[]⟩, .int .u64 0]) := .mk' (by kernel_rfl)
instance : TyField Try.prog 13 0 0 := .mk' (n := 1) Try.underlying13 rfl rfl (by kernel_rfl) (by decide)
instance : TyField Try.prog 13 1 1 := .mk' (n := 1) Try.underlying13 rfl rfl (by kernel_rfl) (by decide)
instance : TyStruct Try.prog 13 [.string ⟨#[]⟩, .int .u64 0] [(0, 1), (1, 1)] := .mk' Try.underlying13 (by kernel_rfl) (by kernel_rfl)
instance : TyRow Try.prog 14 2 := ⟨⟨_, Try.underlying14, rfl⟩, by kernel_rfl⟩
instance : TySize Try.prog 14 2 := ⟨by kernel_rfl⟩
instance : TyZero Try.prog 14 (.agg #[.string ⟨#[]⟩, .int .u64 0]) := .mk' (by kernel_rfl)
instance : TyField Try.prog 14 0 0 := .mk' (n := 1) Try.underlying14 rfl rfl (by kernel_rfl) (by decide)
instance : TyField Try.prog 14 1 1 := .mk' (n := 1) Try.underlying14 rfl rfl (by kernel_rfl) (by decide)
instance : TyStruct Try.prog 14 [.string ⟨#[]⟩, .int .u64 0] [(0, 1), (1, 1)] := .mk' Try.underlying14 (by kernel_rfl) (by kernel_rfl)
instance : TyOne Try.prog 15 := ⟨⟨_, Try.underlying15, rfl⟩, by kernel_rfl⟩
instance : TySize Try.prog 15 1 := ⟨by kernel_rfl⟩
instance : TyOne Try.prog 16 := ⟨⟨_, Try.underlying16, rfl⟩, by kernel_rfl⟩
instance : TySize Try.prog 16 1 := ⟨by kernel_rfl⟩
instance : TyOne Try.prog 17 := ⟨⟨_, Try.underlying17, rfl⟩, by kernel_rfl⟩
instance : TySize Try.prog 17 1 := ⟨by kernel_rfl⟩
instance : TyRow Try.prog 18 1 := ⟨⟨_, Try.underlying18, rfl⟩, by kernel_rfl⟩
instance : TySize Try.prog 18 1 := ⟨by kernel_rfl⟩
instance : TyField Try.prog 18 0 0 := .mk' (n := 1) Try.underlying18 rfl rfl (by kernel_rfl) (by decide)
instance : TyRow Try.prog 19 1 := ⟨⟨_, Try.underlying19, rfl⟩, by kernel_rfl⟩
instance : TySize Try.prog 19 1 := ⟨by kernel_rfl⟩
instance : TyField Try.prog 19 0 0 := .mk' (n := 1) Try.underlying19 rfl rfl (by kernel_rfl) (by decide)
instance : TyOne Try.prog 21 := ⟨⟨_, Try.underlying21, rfl⟩, by kernel_rfl⟩
instance : TySize Try.prog 21 1 := ⟨by kernel_rfl⟩
instance : TyZero Try.prog 21 (.int .i32 0) := .mk' (by kernel_rfl)
instance : TyOne Try.prog 22 := ⟨⟨_, Try.underlying22, rfl⟩, by kernel_rfl⟩
instance : TySize Try.prog 22 1 := ⟨by kernel_rfl⟩
instance : TyZero Try.prog 22 (.int .u64 0) := .mk' (by kernel_rfl)
instance : TyRow Try.prog 23 3 := ⟨⟨_, Try.underlying23, rfl⟩, by kernel_rfl⟩
instance : TySize Try.prog 23 3 := ⟨by kernel_rfl⟩
instance : TyZero Try.prog 23 (.agg #[.int .u64 0, .int .u64 0, .int .u64 0]) := .mk' (by kernel_rfl)
instance : TyField Try.prog 23 0 0 := .mk' (n := 1) Try.underlying23 rfl rfl (by kernel_rfl) (by decide)
instance : TyField Try.prog 23 1 1 := .mk' (n := 1) Try.underlying23 rfl rfl (by kernel_rfl) (by decide)
instance : TyField Try.prog 23 2 2 := .mk' (n := 1) Try.underlying23 rfl rfl (by kernel_rfl) (by decide)
instance : TyStruct Try.prog 23 [.int .u64 0, .int .u64 0, .int .u64 0] [(0, 1), (1, 1), (2, 1)] := .mk' Try.underlying23 (by kernel_rfl) (by kernel_rfl)
instance : TyRow Try.prog 24 3 := ⟨⟨_, Try.underlying24, rfl⟩, by kernel_rfl⟩
instance : TySize Try.prog 24 3 := ⟨by kernel_rfl⟩
instance : TyZero Try.prog 24 (.agg #[.int .u64 0, .int .u64 0, .int .u64 0]) := .mk' (by kernel_rfl)
instance : TyField Try.prog 24 0 0 := .mk' (n := 1) Try.underlying24 rfl rfl (by kernel_rfl) (by decide)
instance : TyField Try.prog 24 1 1 := .mk' (n := 1) Try.underlying24 rfl rfl (by kernel_rfl) (by decide)
instance : TyField Try.prog 24 2 2 := .mk' (n := 1) Try.underlying24 rfl rfl (by kernel_rfl) (by decide)
instance : TyStruct Try.prog 24 [.int .u64 0, .int .u64 0, .int .u64 0] [(0, 1), (1, 1), (2, 1)] := .mk' Try.underlying24 (by kernel_rfl) (by kernel_rfl)
instance : TyOne Try.prog 25 := ⟨⟨_, Try.underlying25, rfl⟩, by kernel_rfl⟩
instance : TySize Try.prog 25 1 := ⟨by kernel_rfl⟩
instance : TyZero Try.prog 25 (.slice none 0 0) := .mk' (by kernel_rfl)
instance : TySl Try.prog 25 38 7 56 := .mk' (z := (.agg #[.int .i64 0, .int .i64 0, .int .i64 0, .int .i64 0, .int .u64 0, .int .u64 0, .int .u64 0])) Try.underlying25 (by kernel_rfl) rfl (by decide) (by decide)
instance : TyRow Try.prog 26 2 := ⟨⟨_, Try.underlying26, rfl⟩, by kernel_rfl⟩
instance : TySize Try.prog 26 2 := ⟨by kernel_rfl⟩
instance : TyZero Try.prog 26 (.agg #[.int .i64 0, .int .i64 0]) := .mk' (by kernel_rfl)
instance : TyField Try.prog 26 0 0 := .mk' (n := 1) Try.underlying26 rfl rfl (by kernel_rfl) (by decide)
instance : TyField Try.prog 26 1 1 := .mk' (n := 1) Try.underlying26 rfl rfl (by kernel_rfl) (by decide)
instance : TyStruct Try.prog 26 [.int .i64 0, .int .i64 0] [(0, 1), (1, 1)] := .mk' Try.underlying26 (by kernel_rfl) (by kernel_rfl)
instance : TyRow Try.prog 27 2 := ⟨⟨_, Try.underlying27, rfl⟩, by kernel_rfl⟩
instance : TySize Try.prog 27 2 := ⟨by kernel_rfl⟩
instance : TyZero Try.prog 27 (.agg #[.int .i64 0, .int .i64 0]) := .mk' (by kernel_rfl)
instance : TyField Try.prog 27 0 0 := .mk' (n := 1) Try.underlying27 rfl rfl (by kernel_rfl) (by decide)
instance : TyField Try.prog 27 1 1 := .mk' (n := 1) Try.underlying27 rfl rfl (by kernel_rfl) (by decide)
instance : TyStruct Try.prog 27 [.int .i64 0, .int .i64 0] [(0, 1), (1, 1)] := .mk' Try.underlying27 (by kernel_rfl) (by kernel_rfl)
instance : TyOne Try.prog 29 := ⟨⟨_, Try.underlying29, rfl⟩, by kernel_rfl⟩
instance : TySize Try.prog 29 1 := ⟨by kernel_rfl⟩
instance : TyZero Try.prog 29 (.int .i64 0) := .mk' (by kernel_rfl)
instance : TyRow Try.prog 35 4 := ⟨⟨_, Try.underlying35, rfl⟩, by kernel_rfl⟩
instance : TySize Try.prog 35 4 := ⟨by kernel_rfl⟩
instance : TyZero Try.prog 35 (.agg #[.int .i64 0, .int .i64 0, .int .i64 0, .int .i64 0]) := .mk' (by kernel_rfl)
instance : TyField Try.prog 35 0 0 := .mk' (n := 1) Try.underlying35 rfl rfl (by kernel_rfl) (by decide)
instance : TyField Try.prog 35 1 1 := .mk' (n := 1) Try.underlying35 rfl rfl (by kernel_rfl) (by decide)
instance : TyField Try.prog 35 2 2 := .mk' (n := 1) Try.underlying35 rfl rfl (by kernel_rfl) (by decide)
instance : TyField Try.prog 35 3 3 := .mk' (n := 1) Try.underlying35 rfl rfl (by kernel_rfl) (by decide)
instance : TyStruct Try.prog 35 [.int .i64 0, .int .i64 0, .int .i64 0, .int .i64 0] [(0, 1), (1, 1), (2, 1), (3, 1)] := .mk' Try.underlying35 (by kernel_rfl) (by kernel_rfl)
instance : TyRow Try.prog 36 4 := ⟨⟨_, Try.underlying36, rfl⟩, by kernel_rfl⟩
instance : TySize Try.prog 36 4 := ⟨by kernel_rfl⟩
instance : TyZero Try.prog 36 (.agg #[.int .i64 0, .int .i64 0, .int .i64 0, .int .i64 0]) := .mk' (by kernel_rfl)
instance : TyField Try.prog 36 0 0 := .mk' (n := 1) Try.underlying36 rfl rfl (by kernel_rfl) (by decide)
instance : TyField Try.prog 36 1 1 := .mk' (n := 1) Try.underlying36 rfl rfl (by kernel_rfl) (by decide)
instance : TyField Try.prog 36 2 2 := .mk' (n := 1) Try.underlying36 rfl rfl (by kernel_rfl) (by decide)
instance : TyField Try.prog 36 3 3 := .mk' (n := 1) Try.underlying36 rfl rfl (by kernel_rfl) (by decide)
instance : TyStruct Try.prog 36 [.int .i64 0, .int .i64 0, .int .i64 0, .int .i64 0] [(0, 1), (1, 1), (2, 1), (3, 1)] := .mk' Try.underlying36 (by kernel_rfl) (by kernel_rfl)
instance : TyRow Try.prog 37 7 := ⟨⟨_, Try.underlying37, rfl⟩, by kernel_rfl⟩
instance : TySize Try.prog 37 7 := ⟨by kernel_rfl⟩
instance : TyZero Try.prog 37 (.agg #[.int .i64 0, .int .i64 0, .int .i64 0, .int .i64 0, .int .u64 0, .int .u64 0, .int .u64 0]) := .mk' (by kernel_rfl)
instance : TyField Try.prog 37 0 0 := .mk' (n := 4) Try.underlying37 rfl rfl (by kernel_rfl) (by decide)
instance : TyField Try.prog 37 1 4 := .mk' (n := 3) Try.underlying37 rfl rfl (by kernel_rfl) (by decide)
instance : TyStruct Try.prog 37 [.int .i64 0, .int .i64 0, .int .i64 0, .int .i64 0, .int .u64 0, .int .u64 0, .int .u64 0] [(0, 4), (4, 3)] := .mk' Try.underlying37 (by kernel_rfl) (by kernel_rfl)
instance : TyRow Try.prog 38 7 := ⟨⟨_, Try.underlying38, rfl⟩, by kernel_rfl⟩
instance : TySize Try.prog 38 7 := ⟨by kernel_rfl⟩
instance : TyZero Try.prog 38 (.agg #[.int .i64 0, .int .i64 0, .int .i64 0, .int .i64 0, .int .u64 0, .int .u64 0, .int .u64 0]) := .mk' (by kernel_rfl)
instance : TyField Try.prog 38 0 0 := .mk' (n := 4) Try.underlying38 rfl rfl (by kernel_rfl) (by decide)
instance : TyField Try.prog 38 1 4 := .mk' (n := 3) Try.underlying38 rfl rfl (by kernel_rfl) (by decide)
instance : TyStruct Try.prog 38 [.int .i64 0, .int .i64 0, .int .i64 0, .int .i64 0, .int .u64 0, .int .u64 0, .int .u64 0] [(0, 4), (4, 3)] := .mk' Try.underlying38 (by kernel_rfl) (by kernel_rfl)
instance : TyOne Try.prog 41 := ⟨⟨_, Try.underlying41, rfl⟩, by kernel_rfl⟩
instance : TySize Try.prog 41 1 := ⟨by kernel_rfl⟩
instance : TyZero Try.prog 41 (.slice none 0 0) := .mk' (by kernel_rfl)
instance : TySl Try.prog 41 27 2 16 := .mk' (z := (.agg #[.int .i64 0, .int .i64 0])) Try.underlying41 (by kernel_rfl) rfl (by decide) (by decide)
instance : TyRow Try.prog 56 4 := ⟨⟨_, Try.underlying56, rfl⟩, by kernel_rfl⟩
instance : TySize Try.prog 56 4 := ⟨by kernel_rfl⟩
instance : TyZero Try.prog 56 (.agg #[.int .i64 0, .slice none 0 0, .int .i64 0, .int .i64 0]) := .mk' (by kernel_rfl)
instance : TyField Try.prog 56 0 0 := .mk' (n := 1) Try.underlying56 rfl rfl (by kernel_rfl) (by decide)
instance : TyField Try.prog 56 1 1 := .mk' (n := 1) Try.underlying56 rfl rfl (by kernel_rfl) (by decide)
instance : TyField Try.prog 56 2 2 := .mk' (n := 1) Try.underlying56 rfl rfl (by kernel_rfl) (by decide)
instance : TyField Try.prog 56 3 3 := .mk' (n := 1) Try.underlying56 rfl rfl (by kernel_rfl) (by decide)
instance : TyStruct Try.prog 56 [.int .i64 0, .slice none 0 0, .int .i64 0, .int .i64 0] [(0, 1), (1, 1), (2, 1), (3, 1)] := .mk' Try.underlying56 (by kernel_rfl) (by kernel_rfl)
instance : TyOne Try.prog 57 := ⟨⟨_, Try.underlying57, rfl⟩, by kernel_rfl⟩
instance : TySize Try.prog 57 1 := ⟨by kernel_rfl⟩
instance : TyZero Try.prog 57 (.slice none 0 0) := .mk' (by kernel_rfl)
instance : TySl Try.prog 57 56 4 48 := .mk' (z := (.agg #[.int .i64 0, .slice none 0 0, .int .i64 0, .int .i64 0])) Try.underlying57 (by kernel_rfl) rfl (by decide) (by decide)
instance : TyOne Try.prog 58 := ⟨⟨_, Try.underlying58, rfl⟩, by kernel_rfl⟩
instance : TySize Try.prog 58 1 := ⟨by kernel_rfl⟩
instance : TyZero Try.prog 58 (.slice none 0 0) := .mk' (by kernel_rfl)
instance : TySl Try.prog 58 3 1 8 := .mk' (z := (.int .i64 0)) Try.underlying58 (by kernel_rfl) rfl (by decide) (by decide)
instance : TyOne Try.prog 67 := ⟨⟨_, Try.underlying67, rfl⟩, by kernel_rfl⟩
instance : TySize Try.prog 67 1 := ⟨by kernel_rfl⟩
instance : TyZero Try.prog 67 (.slice none 0 0) := .mk' (by kernel_rfl)
instance : TySl Try.prog 67 36 4 32 := .mk' (z := (.agg #[.int .i64 0, .int .i64 0, .int .i64 0, .int .i64 0])) Try.underlying67 (by kernel_rfl) rfl (by decide) (by decide)
instance : TyOne Try.prog 80 := ⟨⟨_, Try.underlying80, rfl⟩, by kernel_rfl⟩
instance : TySize Try.prog 80 1 := ⟨by kernel_rfl⟩
instance : TyZero Try.prog 80 (.int .u64 0) := .mk' (by kernel_rfl)
instance : TyRow Try.prog 82 4 := ⟨⟨_, Try.underlying82, rfl⟩, by kernel_rfl⟩
instance : TySize Try.prog 82 4 := ⟨by kernel_rfl⟩
instance : TyField Try.prog 82 0 0 := .mk' (n := 1) Try.underlying82 rfl rfl (by kernel_rfl) (by decide)
instance : TyField Try.prog 82 1 1 := .mk' (n := 1) Try.underlying82 rfl rfl (by kernel_rfl) (by decide)
instance : TyField Try.prog 82 2 2 := .mk' (n := 1) Try.underlying82 rfl rfl (by kernel_rfl) (by decide)
instance : TyField Try.prog 82 3 3 := .mk' (n := 1) Try.underlying82 rfl rfl (by kernel_rfl) (by decide)
instance : TyRow Try.prog 83 4 := ⟨⟨_, Try.underlying83, rfl⟩, by kernel_rfl⟩
instance : TySize Try.prog 83 4 := ⟨by kernel_rfl⟩
instance : TyField Try.prog 83 0 0 := .mk' (n := 1) Try.underlying83 rfl rfl (by kernel_rfl) (by decide)
instance : TyField Try.prog 83 1 1 := .mk' (n := 1) Try.underlying83 rfl rfl (by kernel_rfl) (by decide)
instance : TyField Try.prog 83 2 2 := .mk' (n := 1) Try.underlying83 rfl rfl (by kernel_rfl) (by decide)
instance : TyField Try.prog 83 3 3 := .mk' (n := 1) Try.underlying83 rfl rfl (by kernel_rfl) (by decide)
instance : TyOne Try.prog 88 := ⟨⟨_, Try.underlying88, rfl⟩, by kernel_rfl⟩
instance : TySize Try.prog 88 1 := ⟨by kernel_rfl⟩
instance : TyZero Try.prog 88 (.int .u32 0) := .mk' (by kernel_rfl)
instance : TyOne Try.prog 89 := ⟨⟨_, Try.underlying89, rfl⟩, by kernel_rfl⟩
instance : TySize Try.prog 89 1 := ⟨by kernel_rfl⟩
instance : TyZero Try.prog 89 (.int .u8 0) := .mk' (by kernel_rfl)
instance : TyOne Try.prog 90 := ⟨⟨_, Try.underlying90, rfl⟩, by kernel_rfl⟩
instance : TySize Try.prog 90 1 := ⟨by kernel_rfl⟩
instance : TyZero Try.prog 90 (.int .u8 0) := .mk' (by kernel_rfl)
instance : TyOne Try.prog 92 := ⟨⟨_, Try.underlying92, rfl⟩, by kernel_rfl⟩
instance : TySize Try.prog 92 1 := ⟨by kernel_rfl⟩
instance : TyOne Try.prog 93 := ⟨⟨_, Try.underlying93, rfl⟩, by kernel_rfl⟩
instance : TySize Try.prog 93 1 := ⟨by kernel_rfl⟩
instance : TyZero Try.prog 93 (.int .i32 0) := .mk' (by kernel_rfl)
instance : TyOne Try.prog 94 := ⟨⟨_, Try.underlying94, rfl⟩, by kernel_rfl⟩
instance : TySize Try.prog 94 1 := ⟨by kernel_rfl⟩
instance : TyZero Try.prog 94 (.int .i32 0) := .mk' (by kernel_rfl)
instance : TyRow Try.prog 95 11 := ⟨⟨_, Try.underlying95, rfl⟩, by kernel_rfl⟩
instance : TySize Try.prog 95 11 := ⟨by kernel_rfl⟩
instance : TyField Try.prog 95 0 0 := .mk' (n := 1) Try.underlying95 rfl rfl (by kernel_rfl) (by decide)
instance : TyField Try.prog 95 1 1 := .mk' (n := 1) Try.underlying95 rfl rfl (by kernel_rfl) (by decide)
instance : TyField Try.prog 95 2 2 := .mk' (n := 1) Try.underlying95 rfl rfl (by kernel_rfl) (by decide)
instance : TyField Try.prog 95 3 3 := .mk' (n := 1) Try.underlying95 rfl rfl (by kernel_rfl) (by decide)
instance : TyField Try.prog 95 4 4 := .mk' (n := 1) Try.underlying95 rfl rfl (by kernel_rfl) (by decide)
instance : TyField Try.prog 95 5 5 := .mk' (n := 1) Try.underlying95 rfl rfl (by kernel_rfl) (by decide)
instance : TyField Try.prog 95 6 6 := .mk' (n := 1) Try.underlying95 rfl rfl (by kernel_rfl) (by decide)
instance : TyField Try.prog 95 8 8 := .mk' (n := 1) Try.underlying95 rfl rfl (by kernel_rfl) (by decide)
instance : TyField Try.prog 95 9 9 := .mk' (n := 1) Try.underlying95 rfl rfl (by kernel_rfl) (by decide)
instance : TyField Try.prog 95 10 10 := .mk' (n := 1) Try.underlying95 rfl rfl (by kernel_rfl) (by decide)
instance : TyRow Try.prog 96 11 := ⟨⟨_, Try.underlying96, rfl⟩, by kernel_rfl⟩
instance : TySize Try.prog 96 11 := ⟨by kernel_rfl⟩
instance : TyField Try.prog 96 0 0 := .mk' (n := 1) Try.underlying96 rfl rfl (by kernel_rfl) (by decide)
instance : TyField Try.prog 96 1 1 := .mk' (n := 1) Try.underlying96 rfl rfl (by kernel_rfl) (by decide)
instance : TyField Try.prog 96 2 2 := .mk' (n := 1) Try.underlying96 rfl rfl (by kernel_rfl) (by decide)
instance : TyField Try.prog 96 3 3 := .mk' (n := 1) Try.underlying96 rfl rfl (by kernel_rfl) (by decide)
instance : TyField Try.prog 96 4 4 := .mk' (n := 1) Try.underlying96 rfl rfl (by kernel_rfl) (by decide)
instance : TyField Try.prog 96 5 5 := .mk' (n := 1) Try.underlying96 rfl rfl (by kernel_rfl) (by decide)
instance : TyField Try.prog 96 6 6 := .mk' (n := 1) Try.underlying96 rfl rfl (by kernel_rfl) (by decide)
instance : TyField Try.prog 96 8 8 := .mk' (n := 1) Try.underlying96 rfl rfl (by kernel_rfl) (by decide)
instance : TyField Try.prog 96 9 9 := .mk' (n := 1) Try.underlying96 rfl rfl (by kernel_rfl) (by decide)
instance : TyField Try.prog 96 10 10 := .mk' (n := 1) Try.underlying96 rfl rfl (by kernel_rfl) (by decide)
end Go.Proofs.Ytonangdimkgdpaa
