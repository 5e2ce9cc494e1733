/- What the program says of its types, as the machine asks it. Written by a program for this seat. No condition. -/
import Derived.Test.YtnpbnlmhmjejhaaPv
import Derived.Test.YtnpbnlmhmjejhaaProg
namespace Go.Proofs.Ytnpbnlmhmjejhaa
open Pv
instance : TyOne Try.prog 2 := ⟨⟨_, Try.underlying2, rfl⟩, by kernel_rfl⟩
instance : TySize Try.prog 2 1 := ⟨by kernel_rfl⟩
instance : TyZero Try.prog 2 (.int .i64 0) := .mk' (by kernel_rfl)
instance : TyOne Try.prog 3 := ⟨⟨_, Try.underlying3, rfl⟩, by kernel_rfl⟩
instance : TySize Try.prog 3 1 := ⟨by kernel_rfl⟩
instance : TyZero Try.prog 3 (.int .i64 0) := .mk' (by kernel_rfl)
instance : TyOne Try.prog 4 := ⟨⟨_, Try.underlying4, rfl⟩, by kernel_rfl⟩
instance : TySize Try.prog 4 1 := ⟨by kernel_rfl⟩
instance : TyZero Try.prog 4 (.bool false) := .mk' (by kernel_rfl)
instance : TyOne Try.prog 5 := ⟨⟨_, Try.underlying5, rfl⟩, by kernel_rfl⟩
instance : TySize Try.prog 5 1 := ⟨by kernel_rfl⟩
instance : TyZero Try.prog 5 (.int .u8 0) := .mk' (by kernel_rfl)
instance : TyOne Try.prog 6 := ⟨⟨_, Try.underlying6, rfl⟩, by kernel_rfl⟩
instance : TySize Try.prog 6 1 := ⟨by kernel_rfl⟩
instance : TyZero Try.prog 6 (.int .u8 0) := .mk' (by kernel_rfl)
instance : TyRow Try.prog 7 4 := ⟨⟨_, Try.underlying7, rfl⟩, by kernel_rfl⟩
instance : TySize Try.prog 7 4 := ⟨by kernel_rfl⟩
instance : TyZero Try.prog 7 (.agg #[.int .i64 0, .int .i64 0, .bool false, .int .u8 0]) := .mk' (by kernel_rfl)
instance : TyField Try.prog 7 0 0 := .mk' (n := 1) Try.underlying7 rfl rfl (by kernel_rfl) (by decide)
instance : TyField Try.prog 7 1 1 := .mk' (n := 1) Try.underlying7 rfl rfl (by kernel_rfl) (by decide)
instance : TyField Try.prog 7 2 2 := .mk' (n := 1) Try.underlying7 rfl rfl (by kernel_rfl) (by decide)
instance : TyField Try.prog 7 3 3 := .mk' (n := 1) Try.underlying7 rfl rfl (by kernel_rfl) (by decide)
instance : TyStruct Try.prog 7 [.int .i64 0, .int .i64 0, .bool false, .int .u8 0] [(0, 1), (1, 1), (2, 1), (3, 1)] := .mk' Try.underlying7 (by kernel_rfl) (by kernel_rfl)
instance : TyRow Try.prog 8 4 := ⟨⟨_, Try.underlying8, rfl⟩, by kernel_rfl⟩
instance : TySize Try.prog 8 4 := ⟨by kernel_rfl⟩
instance : TyZero Try.prog 8 (.agg #[.int .i64 0, .int .i64 0, .bool false, .int .u8 0]) := .mk' (by kernel_rfl)
instance : TyField Try.prog 8 0 0 := .mk' (n := 1) Try.underlying8 rfl rfl (by kernel_rfl) (by decide)
instance : TyField Try.prog 8 1 1 := .mk' (n := 1) Try.underlying8 rfl rfl (by kernel_rfl) (by decide)
instance : TyField Try.prog 8 2 2 := .mk' (n := 1) Try.underlying8 rfl rfl (by kernel_rfl) (by decide)
instance : TyField Try.prog 8 3 3 := .mk' (n := 1) Try.underlying8 rfl rfl (by kernel_rfl) (by decide)
instance : TyStruct Try.prog 8 [.int .i64 0, .int .i64 0, .bool false, .int .u8 0] [(0, 1), (1, 1), (2, 1), (3, 1)] := .mk' Try.underlying8 (by kernel_rfl) (by kernel_rfl)
instance : TyOne Try.prog 9 := ⟨⟨_, Try.underlying9, rfl⟩, by kernel_rfl⟩
instance : TySize Try.prog 9 1 := ⟨by kernel_rfl⟩
instance : TyZero Try.prog 9 (.string ⟨#[]⟩) := .mk' (by kernel_rfl)
instance : TyOne Try.prog 10 := ⟨⟨_, Try.underlying10, rfl⟩, by kernel_rfl⟩
instance : TySize Try.prog 10 1 := ⟨by kernel_rfl⟩
instance : TyZero Try.prog 10 (.string ⟨#[]⟩) := .mk' (by kernel_rfl)
instance : TyOne Try.prog 11 := ⟨⟨_, Try.underlying11, rfl⟩, by kernel_rfl⟩
instance : TySize Try.prog 11 1 := ⟨by kernel_rfl⟩
instance : TyZero Try.prog 11 (.string ⟨#[]⟩) := .mk' (by kernel_rfl)
instance : TyOne Try.prog 12 := ⟨⟨_, Try.underlying12, rfl⟩, by kernel_rfl⟩
instance : TySize Try.prog 12 1 := ⟨by kernel_rfl⟩
instance : TyZero Try.prog 12 (.int .u64 0) := .mk' (by kernel_rfl)
instance : TyRow Try.prog 13 2 := ⟨⟨_, Try.underlying13, rfl⟩, by kernel_rfl⟩
instance : TySize Try.prog 13 2 := ⟨by kernel_rfl⟩
instance : TyZero Try.prog 13 (.agg #[.string ⟨#[]⟩, .int .u64 0]) := .mk' (by kernel_rfl)
instance : TyField Try.prog 13 0 0 := .mk' (n := 1) Try.underlying13 rfl rfl (by kernel_rfl) (by decide)
instance : TyField Try.prog 13 1 1 := .mk' (n := 1) Try.underlying13 rfl rfl (by kernel_rfl) (by decide)
instance : TyStruct Try.prog 13 [.string ⟨#[]⟩, .int .u64 0] [(0, 1), (1, 1)] := .mk' Try.underlying13 (by kernel_rfl) (by kernel_rfl)
instance : TyRow Try.prog 14 2 := ⟨⟨_, Try.underlying14, rfl⟩, by kernel_rfl⟩
instance : TySize Try.prog 14 2 := ⟨by kernel_rfl⟩
instance : TyZero Try.prog 14 (.agg #[.string ⟨#[]⟩, .int .u64 0]) := .mk' (by kernel_rfl)
instance : TyField Try.prog 14 0 0 := .mk' (n := 1) Try.underlying14 rfl rfl (by kernel_rfl) (by decide)
instance : TyField Try.prog 14 1 1 := .mk' (n := 1) Try.underlying14 rfl rfl (by kernel_rfl) (by decide)
instance : TyStruct Try.prog 14 [.string ⟨#[]⟩, .int .u64 0] [(0, 1), (1, 1)] := .mk' Try.underlying14 (by kernel_rfl) (by kernel_rfl)
instance : TyOne Try.prog 15 := ⟨⟨_, Try.underlying15, rfl⟩, by kernel_rfl⟩
instance : TySize Try.prog 15 1 := ⟨by kernel_rfl⟩
instance : TyOne Try.prog 16 := ⟨⟨_, Try.underlying16, rfl⟩, by kernel_rfl⟩
instance : TySize Try.prog 16 1 := ⟨by kernel_rfl⟩
instance : TyOne Try.prog 17 := ⟨⟨_, Try.underlying17, rfl⟩, by kernel_rfl⟩
instance : TySize Try.prog 17 1 := ⟨by kernel_rfl⟩
instance : TyRow Try.prog 18 1 := ⟨⟨_, Try.underlying18, rfl⟩, by kernel_rfl⟩
instance : TySize Try.prog 18 1 := ⟨by kernel_rfl⟩
instance : TyField Try.prog 18 0 0 := .mk' (n := 1) Try.underlying18 rfl rfl (by kernel_rfl) (by decide)
instance : TyRow Try.prog 19 1 := ⟨⟨_, Try.underlying19, rfl⟩, by kernel_rfl⟩
instance : TySize Try.prog 19 1 := ⟨by kernel_rfl⟩
instance : TyField Try.prog 19 0 0 := .mk' (n := 1) Try.underlying19 rfl rfl (by kernel_rfl) (by decide)
instance : TyOne Try.prog 21 := ⟨⟨_, Try.underlying21, rfl⟩, by kernel_rfl⟩
instance : TySize Try.prog 21 1 := ⟨by kernel_rfl⟩
instance : TyZero Try.prog 21 (.int .i32 0) := .mk' (by kernel_rfl)
instance : TyOne Try.prog 22 := ⟨⟨_, Try.underlying22, rfl⟩, by kernel_rfl⟩
instance : TySize Try.prog 22 1 := ⟨by kernel_rfl⟩
instance : TyZero Try.prog 22 (.slice none 0 0) := .mk' (by kernel_rfl)
instance : TySl Try.prog 22 38 5 48 := .mk' (z := (.agg #[.int .i64 0, .int .i64 0, .int .u8 0, .int .i64 0, .string ⟨#[]⟩])) Try.underlying22 (by kernel_rfl) rfl (by decide) (by decide)
instance : TyOne Try.prog 24 := ⟨⟨_, Try.underlying24, rfl⟩, by kernel_rfl⟩
instance : TySize Try.prog 24 1 := ⟨by kernel_rfl⟩
instance : TyOne Try.prog 25 := ⟨⟨_, Try.underlying25, rfl⟩, by kernel_rfl⟩
instance : TySize Try.prog 25 1 := ⟨by kernel_rfl⟩
instance : TyZero Try.prog 25 (.int .i64 0) := .mk' (by kernel_rfl)
instance : TyOne Try.prog 28 := ⟨⟨_, Try.underlying28, rfl⟩, by kernel_rfl⟩
instance : TySize Try.prog 28 1 := ⟨by kernel_rfl⟩
instance : TyRow Try.prog 33 2 := ⟨⟨_, Try.underlying33, rfl⟩, by kernel_rfl⟩
instance : TySize Try.prog 33 2 := ⟨by kernel_rfl⟩
instance : TyZero Try.prog 33 (.agg #[.int .i64 0, .int .i64 0]) := .mk' (by kernel_rfl)
instance : TyField Try.prog 33 0 0 := .mk' (n := 1) Try.underlying33 rfl rfl (by kernel_rfl) (by decide)
instance : TyField Try.prog 33 1 1 := .mk' (n := 1) Try.underlying33 rfl rfl (by kernel_rfl) (by decide)
instance : TyStruct Try.prog 33 [.int .i64 0, .int .i64 0] [(0, 1), (1, 1)] := .mk' Try.underlying33 (by kernel_rfl) (by kernel_rfl)
instance : TyRow Try.prog 34 2 := ⟨⟨_, Try.underlying34, rfl⟩, by kernel_rfl⟩
instance : TySize Try.prog 34 2 := ⟨by kernel_rfl⟩
instance : TyZero Try.prog 34 (.agg #[.int .i64 0, .int .i64 0]) := .mk' (by kernel_rfl)
instance : TyField Try.prog 34 0 0 := .mk' (n := 1) Try.underlying34 rfl rfl (by kernel_rfl) (by decide)
instance : TyField Try.prog 34 1 1 := .mk' (n := 1) Try.underlying34 rfl rfl (by kernel_rfl) (by decide)
instance : TyStruct Try.prog 34 [.int .i64 0, .int .i64 0] [(0, 1), (1, 1)] := .mk' Try.underlying34 (by kernel_rfl) (by kernel_rfl)
instance : TyRow Try.prog 35 3 := ⟨⟨_, Try.underlying35, rfl⟩, by kernel_rfl⟩
instance : TySize Try.prog 35 3 := ⟨by kernel_rfl⟩
instance : TyZero Try.prog 35 (.agg #[.int .u8 0, .int .i64 0, .string ⟨#[]⟩]) := .mk' (by kernel_rfl)
instance : TyField Try.prog 35 0 0 := .mk' (n := 1) Try.underlying35 rfl rfl (by kernel_rfl) (by decide)
instance : TyField Try.prog 35 1 1 := .mk' (n := 1) Try.underlying35 rfl rfl (by kernel_rfl) (by decide)
instance : TyField Try.prog 35 2 2 := .mk' (n := 1) Try.underlying35 rfl rfl (by kernel_rfl) (by decide)
instance : TyStruct Try.prog 35 [.int .u8 0, .int .i64 0, .string ⟨#[]⟩] [(0, 1), (1, 1), (2, 1)] := .mk' Try.underlying35 (by kernel_rfl) (by kernel_rfl)
instance : TyRow Try.prog 36 3 := ⟨⟨_, Try.underlying36, rfl⟩, by kernel_rfl⟩
instance : TySize Try.prog 36 3 := ⟨by kernel_rfl⟩
instance : TyZero Try.prog 36 (.agg #[.int .u8 0, .int .i64 0, .string ⟨#[]⟩]) := .mk' (by kernel_rfl)
instance : TyField Try.prog 36 0 0 := .mk' (n := 1) Try.underlying36 rfl rfl (by kernel_rfl) (by decide)
instance : TyField Try.prog 36 1 1 := .mk' (n := 1) Try.underlying36 rfl rfl (by kernel_rfl) (by decide)
instance : TyField Try.prog 36 2 2 := .mk' (n := 1) Try.underlying36 rfl rfl (by kernel_rfl) (by decide)
instance : TyStruct Try.prog 36 [.int .u8 0, .int .i64 0, .string ⟨#[]⟩] [(0, 1), (1, 1), (2, 1)] := .mk' Try.underlying36 (by kernel_rfl) (by kernel_rfl)
instance : TyRow Try.prog 37 5 := ⟨⟨_, Try.underlying37, rfl⟩, by kernel_rfl⟩
instance : TySize Try.prog 37 5 := ⟨by kernel_rfl⟩
instance : TyZero Try.prog 37 (.agg #[.int .i64 0, .int .i64 0, .int .u8 0, .int .i64 0, .string ⟨#[]⟩]) := .mk' (by kernel_rfl)
instance : TyField Try.prog 37 0 0 := .mk' (n := 2) Try.underlying37 rfl rfl (by kernel_rfl) (by decide)
instance : TyField Try.prog 37 1 2 := .mk' (n := 3) Try.underlying37 rfl rfl (by kernel_rfl) (by decide)
instance : TyStruct Try.prog 37 [.int .i64 0, .int .i64 0, .int .u8 0, .int .i64 0, .string ⟨#[]⟩] [(0, 2), (2, 3)] := .mk' Try.underlying37 (by kernel_rfl) (by kernel_rfl)
instance : TyRow Try.prog 38 5 := ⟨⟨_, Try.underlying38, rfl⟩, by kernel_rfl⟩
instance : TySize Try.prog 38 5 := ⟨by kernel_rfl⟩
instance : TyZero Try.prog 38 (.agg #[.int .i64 0, .int .i64 0, .int .u8 0, .int .i64 0, .string ⟨#[]⟩]) := .mk' (by kernel_rfl)
instance : TyField Try.prog 38 0 0 := .mk' (n := 2) Try.underlying38 rfl rfl (by kernel_rfl) (by decide)
instance : TyField Try.prog 38 1 2 := .mk' (n := 3) Try.underlying38 rfl rfl (by kernel_rfl) (by decide)
instance : TyStruct Try.prog 38 [.int .i64 0, .int .i64 0, .int .u8 0, .int .i64 0, .string ⟨#[]⟩] [(0, 2), (2, 3)] := .mk' Try.underlying38 (by kernel_rfl) (by kernel_rfl)
instance : TyOne Try.prog 41 := ⟨⟨_, Try.underlying41, rfl⟩, by kernel_rfl⟩
instance : TySize Try.prog 41 1 := ⟨by kernel_rfl⟩
instance : TyZero Try.prog 41 (.slice none 0 0) := .mk' (by kernel_rfl)
instance : TySl Try.prog 41 44 3 24 := .mk' (z := (.agg #[.int .i64 0, .int .i64 0, .int .i64 0])) Try.underlying41 (by kernel_rfl) rfl (by decide) (by decide)
instance : TyRow Try.prog 43 3 := ⟨⟨_, Try.underlying43, rfl⟩, by kernel_rfl⟩
instance : TySize Try.prog 43 3 := ⟨by kernel_rfl⟩
instance : TyZero Try.prog 43 (.agg #[.int .i64 0, .int .i64 0, .int .i64 0]) := .mk' (by kernel_rfl)
instance : TyField Try.prog 43 0 0 := .mk' (n := 2) Try.underlying43 rfl rfl (by kernel_rfl) (by decide)
instance : TyField Try.prog 43 1 2 := .mk' (n := 1) Try.underlying43 rfl rfl (by kernel_rfl) (by decide)
instance : TyStruct Try.prog 43 [.int .i64 0, .int .i64 0, .int .i64 0] [(0, 2), (2, 1)] := .mk' Try.underlying43 (by kernel_rfl) (by kernel_rfl)
instance : TyRow Try.prog 44 3 := ⟨⟨_, Try.underlying44, rfl⟩, by kernel_rfl⟩
instance : TySize Try.prog 44 3 := ⟨by kernel_rfl⟩
instance : TyZero Try.prog 44 (.agg #[.int .i64 0, .int .i64 0, .int .i64 0]) := .mk' (by kernel_rfl)
instance : TyField Try.prog 44 0 0 := .mk' (n := 2) Try.underlying44 rfl rfl (by kernel_rfl) (by decide)
instance : TyField Try.prog 44 1 2 := .mk' (n := 1) Try.underlying44 rfl rfl (by kernel_rfl) (by decide)
instance : TyStruct Try.prog 44 [.int .i64 0, .int .i64 0, .int .i64 0] [(0, 2), (2, 1)] := .mk' Try.underlying44 (by kernel_rfl) (by kernel_rfl)
instance : TyOne Try.prog 51 := ⟨⟨_, Try.underlying51, rfl⟩, by kernel_rfl⟩
instance : TySize Try.prog 51 1 := ⟨by kernel_rfl⟩
instance : TyZero Try.prog 51 (.slice none 0 0) := .mk' (by kernel_rfl)
instance : TySl Try.prog 51 55 10 88 := .mk' (z := (.agg #[.bool false, .int .i64 0, .int .i64 0, .int .u8 0, .int .i64 0, .string ⟨#[]⟩, .int .i64 0, .int .i64 0, .int .i64 0, .int .i64 0])) Try.underlying51 (by kernel_rfl) rfl (by decide) (by decide)
instance : TyRow Try.prog 52 4 := ⟨⟨_, Try.underlying52, rfl⟩, by kernel_rfl⟩
instance : TySize Try.prog 52 4 := ⟨by kernel_rfl⟩
instance : TyZero Try.prog 52 (.agg #[.int .i64 0, .int .i64 0, .int .i64 0, .int .i64 0]) := .mk' (by kernel_rfl)
instance : TyField Try.prog 52 0 0 := .mk' (n := 1) Try.underlying52 rfl rfl (by kernel_rfl) (by decide)
instance : TyField Try.prog 52 1 1 := .mk' (n := 1) Try.underlying52 rfl rfl (by kernel_rfl) (by decide)
instance : TyField Try.prog 52 2 2 := .mk' (n := 1) Try.underlying52 rfl rfl (by kernel_rfl) (by decide)
instance : TyField Try.prog 52 3 3 := .mk' (n := 1) Try.underlying52 rfl rfl (by kernel_rfl) (by decide)
instance : TyStruct Try.prog 52 [.int .i64 0, .int .i64 0, .int .i64 0, .int .i64 0] [(0, 1), (1, 1), (2, 1), (3, 1)] := .mk' Try.underlying52 (by kernel_rfl) (by kernel_rfl)
instance : TyRow Try.prog 53 4 := ⟨⟨_, Try.underlying53, rfl⟩, by kernel_rfl⟩
instance : TySize Try.prog 53 4 := ⟨by kernel_rfl⟩
instance : TyZero Try.prog 53 (.agg #[.int .i64 0, .int .i64 0, .int .i64 0, .int .i64 0]) := .mk' (by kernel_rfl)
instance : TyField Try.prog 53 0 0 := .mk' (n := 1) Try.underlying53 rfl rfl (by kernel_rfl) (by decide)
instance : TyField Try.prog 53 1 1 := .mk' (n := 1) Try.underlying53 rfl rfl (by kernel_rfl) (by decide)
instance : TyField Try.prog 53 2 2 := .mk' (n := 1) Try.underlying53 rfl rfl (by kernel_rfl) (by decide)
instance : TyField Try.prog 53 3 3 := .mk' (n := 1) Try.underlying53 rfl rfl (by kernel_rfl) (by decide)
instance : TyStruct Try.prog 53 [.int .i64 0, .int .i64 0, .int .i64 0, .int .i64 0] [(0, 1), (1, 1), (2, 1), (3, 1)] := .mk' Try.underlying53 (by kernel_rfl) (by kernel_rfl)
instance : TyRow Try.prog 54 10 := ⟨⟨_, Try.underlying54, rfl⟩, by kernel_rfl⟩
instance : TySize Try.prog 54 10 := ⟨by kernel_rfl⟩
instance : TyZero Try.prog 54 (.agg #[.bool false, .int .i64 0, .int .i64 0, .int .u8 0, .int .i64 0, .string ⟨#[]⟩, .int .i64 0, .int .i64 0, .int .i64 0, .int .i64 0]) := .mk' (by kernel_rfl)
instance : TyField Try.prog 54 0 0 := .mk' (n := 1) Try.underlying54 rfl rfl (by kernel_rfl) (by decide)
instance : TyField Try.prog 54 1 1 := .mk' (n := 5) Try.underlying54 rfl rfl (by kernel_rfl) (by decide)
instance : TyField Try.prog 54 2 6 := .mk' (n := 4) Try.underlying54 rfl rfl (by kernel_rfl) (by decide)
instance : TyStruct Try.prog 54 [.bool false, .int .i64 0, .int .i64 0, .int .u8 0, .int .i64 0, .string ⟨#[]⟩, .int .i64 0, .int .i64 0, .int .i64 0, .int .i64 0] [(0, 1), (1, 5), (6, 4)] := .mk' Try.underlying54 (by kernel_rfl) (by kernel_rfl)
instance : TyRow Try.prog 55 10 := ⟨⟨_, Try.underlying55, rfl⟩, by kernel_rfl⟩
instance : TySize Try.prog 55 10 := ⟨by kernel_rfl⟩
instance : TyZero Try.prog 55 (.agg #[.bool false, .int .i64 0, .int .i64 0, .int .u8 0, .int .i64 0, .string ⟨#[]⟩, .int .i64 0, .int .i64 0, .int .i64 0, .int .i64 0]) := .mk' (by kernel_rfl)
instance : TyField Try.prog 55 0 0 := .mk' (n := 1) Try.underlying55 rfl rfl (by kernel_rfl) (by decide)
instance : TyField Try.prog 55 1 1 := .mk' (n := 5) Try.underlying55 rfl rfl (by kernel_rfl) (by decide)
instance : TyField Try.prog 55 2 6 := .mk' (n := 4) Try.underlying55 rfl rfl (by kernel_rfl) (by decide)
instance : TyStruct Try.prog 55 [.bool false, .int .i64 0, .int .i64 0, .int .u8 0, .int .i64 0, .string ⟨#[]⟩, .int .i64 0, .int .i64 0, .int .i64 0, .int .i64 0] [(0, 1), (1, 5), (6, 4)] := .mk' Try.underlying55 (by kernel_rfl) (by kernel_rfl)
instance : TyOne Try.prog 64 := ⟨⟨_, Try.underlying64, rfl⟩, by kernel_rfl⟩
instance : TySize Try.prog 64 1 := ⟨by kernel_rfl⟩
instance : TyRow Try.prog 65 1 := ⟨⟨_, Try.underlying65, rfl⟩, by kernel_rfl⟩
instance : TySize Try.prog 65 1 := ⟨by kernel_rfl⟩
instance : TyField Try.prog 65 0 0 := .mk' (n := 1) Try.underlying65 rfl rfl (by kernel_rfl) (by decide)
instance : TyRow Try.prog 66 1 := ⟨⟨_, Try.underlying66, rfl⟩, by kernel_rfl⟩
instance : TySize Try.prog 66 1 := ⟨by kernel_rfl⟩
instance : TyField Try.prog 66 0 0 := .mk' (n := 1) Try.underlying66 rfl rfl (by kernel_rfl) (by decide)
instance : TyOne Try.prog 67 := ⟨⟨_, Try.underlying67, rfl⟩, by kernel_rfl⟩
instance : TySize Try.prog 67 1 := ⟨by kernel_rfl⟩
instance : TyRow Try.prog 69 1 := ⟨⟨_, Try.underlying69, rfl⟩, by kernel_rfl⟩
instance : TySize Try.prog 69 1 := ⟨by kernel_rfl⟩
instance : TyZero Try.prog 69 (.agg #[.slice none 0 0]) := .mk' (by kernel_rfl)
instance : TyField Try.prog 69 0 0 := .mk' (n := 1) Try.underlying69 rfl rfl (by kernel_rfl) (by decide)
instance : TyStruct Try.prog 69 [.slice none 0 0] [(0, 1)] := .mk' Try.underlying69 (by kernel_rfl) (by kernel_rfl)
instance : TyRow Try.prog 70 1 := ⟨⟨_, Try.underlying70, rfl⟩, by kernel_rfl⟩
instance : TySize Try.prog 70 1 := ⟨by kernel_rfl⟩
instance : TyZero Try.prog 70 (.agg #[.slice none 0 0]) := .mk' (by kernel_rfl)
instance : TyField Try.prog 70 0 0 := .mk' (n := 1) Try.underlying70 rfl rfl (by kernel_rfl) (by decide)
instance : TyStruct Try.prog 70 [.slice none 0 0] [(0, 1)] := .mk' Try.underlying70 (by kernel_rfl) (by kernel_rfl)
instance : TyOne Try.prog 86 := ⟨⟨_, Try.underlying86, rfl⟩, by kernel_rfl⟩
instance : TySize Try.prog 86 1 := ⟨by kernel_rfl⟩
instance : TyZero Try.prog 86 (.int .u64 0) := .mk' (by kernel_rfl)
instance : TyOne Try.prog 91 := ⟨⟨_, Try.underlying91, rfl⟩, by kernel_rfl⟩
instance : TySize Try.prog 91 1 := ⟨by kernel_rfl⟩
instance : TyZero Try.prog 91 (.int .i64 0) := .mk' (by kernel_rfl)
instance : TyOne Try.prog 99 := ⟨⟨_, Try.underlying99, rfl⟩, by kernel_rfl⟩
instance : TySize Try.prog 99 1 := ⟨by kernel_rfl⟩
instance : TyZero Try.prog 99 (.int .u32 0) := .mk' (by kernel_rfl)
instance : TyOne Try.prog 101 := ⟨⟨_, Try.underlying101, rfl⟩, by kernel_rfl⟩
instance : TySize Try.prog 101 1 := ⟨by kernel_rfl⟩
instance : TyZero Try.prog 101 (.int .u64 0) := .mk' (by kernel_rfl)
instance : TyOne Try.prog 103 := ⟨⟨_, Try.underlying103, rfl⟩, by kernel_rfl⟩
instance : TySize Try.prog 103 1 := ⟨by kernel_rfl⟩
instance : TyZero Try.prog 103 (.slice none 0 0) := .mk' (by kernel_rfl)
instance : TySl Try.prog 103 5 1 1 := .mk' (z := (.int .u8 0)) Try.underlying103 (by kernel_rfl) rfl (by decide) (by decide)
instance : TyOne Try.prog 107 := ⟨⟨_, Try.underlying107, rfl⟩, by kernel_rfl⟩
instance : TySize Try.prog 107 1 := ⟨by kernel_rfl⟩
instance : TyZero Try.prog 107 (.int .u64 0) := .mk' (by kernel_rfl)
instance : TyOne Try.prog 111 := ⟨⟨_, Try.underlying111, rfl⟩, by kernel_rfl⟩
instance : TySize Try.prog 111 1 := ⟨by kernel_rfl⟩
instance : TyOne Try.prog 114 := ⟨⟨_, Try.underlying114, rfl⟩, by kernel_rfl⟩
instance : TySize Try.prog 114 1 := ⟨by kernel_rfl⟩
instance : TyRow Try.prog 118 4 := ⟨⟨_, Try.underlying118, rfl⟩, by kernel_rfl⟩
instance : TySize Try.prog 118 4 := ⟨by kernel_rfl⟩
instance : TyField Try.prog 118 0 0 := .mk' (n := 1) Try.underlying118 rfl rfl (by kernel_rfl) (by decide)
instance : TyField Try.prog 118 1 1 := .mk' (n := 1) Try.underlying118 rfl rfl (by kernel_rfl) (by decide)
instance : TyField Try.prog 118 2 2 := .mk' (n := 1) Try.underlying118 rfl rfl (by kernel_rfl) (by decide)
instance : TyField Try.prog 118 3 3 := .mk' (n := 1) Try.underlying118 rfl rfl (by kernel_rfl) (by decide)
instance : TyRow Try.prog 119 4 := ⟨⟨_, Try.underlying119, rfl⟩, by kernel_rfl⟩
instance : TySize Try.prog 119 4 := ⟨by kernel_rfl⟩
instance : TyField Try.prog 119 0 0 := .mk' (n := 1) Try.underlying119 rfl rfl (by kernel_rfl) (by decide)
instance : TyField Try.prog 119 1 1 := .mk' (n := 1) Try.underlying119 rfl rfl (by kernel_rfl) (by decide)
instance : TyField Try.prog 119 2 2 := .mk' (n := 1) Try.underlying119 rfl rfl (by kernel_rfl) (by decide)
instance : TyField Try.prog 119 3 3 := .mk' (n := 1) Try.underlying119 rfl rfl (by kernel_rfl) (by decide)
instance : TyOne Try.prog 123 := ⟨⟨_, Try.underlying123, rfl⟩, by kernel_rfl⟩
instance : TySize Try.prog 123 1 := ⟨by kernel_rfl⟩
instance : TyZero Try.prog 123 (.int .u8 0) := .mk' (by kernel_rfl)
instance : TyOne Try.prog 124 := ⟨⟨_, Try.underlying124, rfl⟩, by kernel_rfl⟩
instance : TySize Try.prog 124 1 := ⟨by kernel_rfl⟩
instance : TyZero Try.prog 124 (.int .u8 0) := .mk' (by kernel_rfl)
instance : TyOne Try.prog 126 := ⟨⟨_, Try.underlying126, rfl⟩, by kernel_rfl⟩
instance : TySize Try.prog 126 1 := ⟨by kernel_rfl⟩
instance : TyOne Try.prog 127 := ⟨⟨_, Try.underlying127, rfl⟩, by kernel_rfl⟩
instance : TySize Try.prog 127 1 := ⟨by kernel_rfl⟩
instance : TyZero Try.prog 127 (.int .i32 0) := .mk' (by kernel_rfl)
instance : TyOne Try.prog 128 := ⟨⟨_, Try.underlying128, rfl⟩, by kernel_rfl⟩
instance : TySize Try.prog 128 1 := ⟨by kernel_rfl⟩
instance : TyZero Try.prog 128 (.int .i32 0) := .mk' (by kernel_rfl)
instance : TyRow Try.prog 129 11 := ⟨⟨_, Try.underlying129, rfl⟩, by kernel_rfl⟩
instance : TySize Try.prog 129 11 := ⟨by kernel_rfl⟩
instance : TyField Try.prog 129 0 0 := .mk' (n := 1) Try.underlying129 rfl rfl (by kernel_rfl) (by decide)
instance : TyField Try.prog 129 1 1 := .mk' (n := 1) Try.underlying129 rfl rfl (by kernel_rfl) (by decide)
instance : TyField Try.prog 129 2 2 := .mk' (n := 1) Try.underlying129 rfl rfl (by kernel_rfl) (by decide)
instance : TyField Try.prog 129 3 3 := .mk' (n := 1) Try.underlying129 rfl rfl (by kernel_rfl) (by decide)
instance : TyField Try.prog 129 4 4 := .mk' (n := 1) Try.underlying129 rfl rfl (by kernel_rfl) (by decide)
instance : TyField Try.prog 129 5 5 := .mk' (n := 1) Try.underlying129 rfl rfl (by kernel_rfl) (by decide)
instance : TyField Try.prog 129 6 6 := .mk' (n := 1) Try.underlying129 rfl rfl (by kernel_rfl) (by decide)
instance : TyField Try.prog 129 8 8 := .mk' (n := 1) Try.underlying129 rfl rfl (by kernel_rfl) (by decide)
instance : TyField Try.prog 129 9 9 := .mk' (n := 1) Try.underlying129 rfl rfl (by kernel_rfl) (by decide)
instance : TyField Try.prog 129 10 10 := .mk' (n := 1) Try.underlying129 rfl rfl (by kernel_rfl) (by decide)
instance : TyRow Try.prog 130 11 := ⟨⟨_, Try.underlying130, rfl⟩, by kernel_rfl⟩
instance : TySize Try.prog 130 11 := ⟨by kernel_rfl⟩
instance : TyField Try.prog 130 0 0 := .mk' (n := 1) Try.underlying130 rfl rfl (by kernel_rfl) (by decide)
instance : TyField Try.prog 130 1 1 := .mk' (n := 1) Try.underlying130 rfl rfl (by kernel_rfl) (by decide)
instance : TyField Try.prog 130 2 2 := .mk' (n := 1) Try.underlying130 rfl rfl (by kernel_rfl) (by decide)
instance : TyField Try.prog 130 3 3 := .mk' (n := 1) Try.underlying130 rfl rfl (by kernel_rfl) (by decide)
instance : TyField Try.prog 130 4 4 := .mk' (n := 1) Try.underlying130 rfl rfl (by kernel_rfl) (by decide)
instance : TyField Try.prog 130 5 5 := .mk' (n := 1) Try.underlying130 rfl rfl (by kernel_rfl) (by decide)
instance : TyField Try.prog 130 6 6 := .mk' (n := 1) Try.underlying130 rfl rfl (by kernel_rfl) (by decide)
instance : TyField Try.prog 130 8 8 := .mk' (n := 1) Try.underlying130 rfl rfl (by kernel_rfl) (by decide)
instance : TyField Try.prog 130 9 9 := .mk' (n := 1) Try.underlying130 rfl rfl (by kernel_rfl) (by decide)
instance : TyField Try.prog 130 10 10 := .mk' (n := 1) Try.underlying130 rfl rfl (by kernel_rfl) (by decide)
end Go.Proofs.Ytnpbnlmhmjejhaa
