/- What the program says of its types, as the machine asks it. Written by a program for this seat. No condition. -/
import Derived.Test.YtfacimebfdeaeaaPv
import Derived.Test.YtfacimebfdeaeaaProg
namespace Go.Proofs.Ytfacimebfdeaeaa
open Pv
instance : TyOne Try.prog 2 := ⟨⟨_, Try.underlying2, rfl⟩, by kernel_rfl⟩
instance : TySize Try.prog 2 1 := ⟨by kernel_rfl⟩
instance : TyZero Try.prog 2 (.int .i64 0) := .mk' (by kernel_rfl)
instance : TyOne Try.prog 3 := ⟨⟨_, Try.underlying3, rfl⟩, by kernel_rfl⟩
instance : TySize Try.prog 3 1 := ⟨by kernel_rfl⟩
instance : TyZero Try.prog 3 (.int .i64 0) := .mk' (by kernel_rfl)
instance : TyOne Try.prog 4 := ⟨⟨_, Try.underlying4, rfl⟩, by kernel_rfl⟩
instance : TySize Try.prog 4 1 := ⟨by kernel_rfl⟩
instance : TyZero Try.prog 4 (.bool false) := .mk' (by kernel_rfl)
instance : TyOne Try.prog 5 := ⟨⟨_, Try.underlying5, rfl⟩, by kernel_rfl⟩
instance : TySize Try.prog 5 1 := ⟨by kernel_rfl⟩
instance : TyZero Try.prog 5 (.int .u8 0) := .mk' (by kernel_rfl)
instance : TyOne Try.prog 6 := ⟨⟨_, Try.underlying6, rfl⟩, by kernel_rfl⟩
instance : TySize Try.prog 6 1 := ⟨by kernel_rfl⟩
instance : TyZero Try.prog 6 (.int .u8 0) := .mk' (by kernel_rfl)
instance : TyRow Try.prog 7 4 := ⟨⟨_, Try.underlying7, rfl⟩, by kernel_rfl⟩
instance : TySize Try.prog 7 4 := ⟨by kernel_rfl⟩
instance : TyZero Try.prog 7 (.agg #[.int .i64 0, .int .i64 0, .bool false, .int .u8 0]) := .mk' (by kernel_rfl)
instance : TyField Try.prog 7 0 0 := .mk' (n := 1) Try.underlying7 rfl rfl (by kernel_rfl) (by decide)
instance : TyField Try.prog 7 1 1 := .mk' (n := 1) Try.underlying7 rfl rfl (by kernel_rfl) (by decide)
instance : TyField Try.prog 7 2 2 := .mk' (n := 1) Try.underlying7 rfl rfl (by kernel_rfl) (by decide)
instance : TyField Try.prog 7 3 3 := .mk' (n := 1) Try.underlying7 rfl rfl (by kernel_rfl) (by decide)
instance : TyStruct Try.prog 7 [.int .i64 0, .int .i64 0, .bool false, .int .u8 0] [(0, 1), (1, 1), (2, 1), (3, 1)] := .mk' Try.underlying7 (by kernel_rfl) (by kernel_rfl)
instance : TyRow Try.prog 8 4 := ⟨⟨_, Try.underlying8, rfl⟩, by kernel_rfl⟩
instance : TySize Try.prog 8 4 := ⟨by kernel_rfl⟩
instance : TyZero Try.prog 8 (.agg #[.int .i64 0, .int .i64 0, .bool false, .int .u8 0]) := .mk' (by kernel_rfl)
instance : TyField Try.prog 8 0 0 := .mk' (n := 1) Try.underlying8 rfl rfl (by kernel_rfl) (by decide)
instance : TyField Try.prog 8 1 1 := .mk' (n := 1) Try.underlying8 rfl rfl (by kernel_rfl) (by decide)
instance : TyField Try.prog 8 2 2 := .mk' (n := 1) Try.underlying8 rfl rfl (by kernel_rfl) (by decide)
instance : TyField Try.prog 8 3 3 := .mk' (n := 1) Try.underlying8 rfl rfl (by kernel_rfl) (by decide)
instance : TyStruct Try.prog 8 [.int .i64 0, .int .i64 0, .bool false, .int .u8 0] [(0, 1), (1, 1), (2, 1), (3, 1)] := .mk' Try.underlying8 (by kernel_rfl) (by kernel_rfl)
instance : TyOne Try.prog 9 := ⟨⟨_, Try.underlying9, rfl⟩, by kernel_rfl⟩
instance : TySize Try.prog 9 1 := ⟨by kernel_rfl⟩
instance : TyZero Try.prog 9 (.string ⟨#[]⟩) := .mk' (by kernel_rfl)
instance : TyOne Try.prog 10 := ⟨⟨_, Try.underlying10, rfl⟩, by kernel_rfl⟩
instance : TySize Try.prog 10 1 := ⟨by kernel_rfl⟩
instance : TyZero Try.prog 10 (.string ⟨#[]⟩) := .mk' (by kernel_rfl)
instance : TyOne Try.prog 11 := ⟨⟨_, Try.underlying11, rfl⟩, by kernel_rfl⟩
instance : TySize Try.prog 11 1 := ⟨by kernel_rfl⟩
instance : TyZero Try.prog 11 (.string ⟨#[]⟩) := .mk' (by kernel_rfl)
instance : TyOne Try.prog 12 := ⟨⟨_, Try.underlying12, rfl⟩, by kernel_rfl⟩
instance : TySize Try.prog 12 1 := ⟨by kernel_rfl⟩
instance : TyZero Try.prog 12 (.int .u64 0) := .mk' (by kernel_rfl)
instance : TyRow Try.prog 13 2 := ⟨⟨_, Try.underlying13, rfl⟩, by kernel_rfl⟩
instance : TySize Try.prog 13 2 := ⟨by kernel_rfl⟩
instance : TyZero Try.prog 13 (.agg #[.string ⟨#[]⟩, .int .u64 0]) := .mk' (by kernel_rfl)
instance : TyField Try.prog 13 0 0 := .mk' (n := 1) Try.underlying13 rfl rfl (by kernel_rfl) (by decide)
instance : TyField Try.prog 13 1 1 := .mk' (n := 1) Try.underlying13 rfl rfl (by kernel_rfl) (by decide)
instance : TyStruct Try.prog 13 [.string ⟨#[]⟩, .int .u64 0] [(0, 1), (1, 1)] := .mk' Try.underlying13 (by kernel_rfl) (by kernel_rfl)
instance : TyRow Try.prog 14 2 := ⟨⟨_, Try.underlying14, rfl⟩, by kernel_rfl⟩
instance : TySize Try.prog 14 2 := ⟨by kernel_rfl⟩
instance : TyZero Try.prog 14 (.agg #[.string ⟨#[]⟩, .int .u64 0]) := .mk' (by kernel_rfl)
instance : TyField Try.prog 14 0 0 := .mk' (n := 1) Try.underlying14 rfl rfl (by kernel_rfl) (by decide)
instance : TyField Try.prog 14 1 1 := .mk' (n := 1) Try.underlying14 rfl rfl (by kernel_rfl) (by decide)
instance : TyStruct Try.prog 14 [.string ⟨#[]⟩, .int .u64 0] [(0, 1), (1, 1)] := .mk' Try.underlying14 (by kernel_rfl) (by kernel_rfl)
instance : TyOne Try.prog 15 := ⟨⟨_, Try.underlying15, rfl⟩, by kernel_rfl⟩
instance : TySize Try.prog 15 1 := ⟨by kernel_rfl⟩
instance : TyOne Try.prog 16 := ⟨⟨_, Try.underlying16, rfl⟩, by kernel_rfl⟩
instance : TySize Try.prog 16 1 := ⟨by kernel_rfl⟩
instance : TyOne Try.prog 17 := ⟨⟨_, Try.underlying17, rfl⟩, by kernel_rfl⟩
instance : TySize Try.prog 17 1 := ⟨by kernel_rfl⟩
instance : TyRow Try.prog 18 1 := ⟨⟨_, Try.underlying18, rfl⟩, by kernel_rfl⟩
instance : TySize Try.prog 18 1 := ⟨by kernel_rfl⟩
instance : TyField Try.prog 18 0 0 := .mk' (n := 1) Try.underlying18 rfl rfl (by kernel_rfl) (by decide)
instance : TyRow Try.prog 19 1 := ⟨⟨_, Try.underlying19, rfl⟩, by kernel_rfl⟩
instance : TySize Try.prog 19 1 := ⟨by kernel_rfl⟩
instance : TyField Try.prog 19 0 0 := .mk' (n := 1) Try.underlying19 rfl rfl (by kernel_rfl) (by decide)
instance : TyOne Try.prog 21 := ⟨⟨_, Try.underlying21, rfl⟩, by kernel_rfl⟩
instance : TySize Try.prog 21 1 := ⟨by kernel_rfl⟩
instance : TyZero Try.prog 21 (.int .i32 0) := .mk' (by kernel_rfl)
instance : TyOne Try.prog 22 := ⟨⟨_, Try.underlying22, rfl⟩, by kernel_rfl⟩
instance : TySize Try.prog 22 1 := ⟨by kernel_rfl⟩
instance : TyZero Try.prog 22 (.slice none 0 0) := .mk' (by kernel_rfl)
instance : TySl Try.prog 22 48 8 64 := .mk' (z := (.agg #[.int .i64 0, .int .i64 0, .int .i64 0, .int .i64 0, .int .u8 0, .int .u64 0, .int .i64 0, .bool false])) Try.underlying22 (by kernel_rfl) rfl (by decide) (by decide)
instance : TyOne Try.prog 24 := ⟨⟨_, Try.underlying24, rfl⟩, by kernel_rfl⟩
instance : TySize Try.prog 24 1 := ⟨by kernel_rfl⟩
instance : TyZero Try.prog 24 (.int .i64 0) := .mk' (by kernel_rfl)
instance : TyRow Try.prog 32 4 := ⟨⟨_, Try.underlying32, rfl⟩, by kernel_rfl⟩
instance : TySize Try.prog 32 4 := ⟨by kernel_rfl⟩
instance : TyZero Try.prog 32 (.agg #[.int .i64 0, .int .i64 0, .int .i64 0, .int .i64 0]) := .mk' (by kernel_rfl)
instance : TyField Try.prog 32 0 0 := .mk' (n := 1) Try.underlying32 rfl rfl (by kernel_rfl) (by decide)
instance : TyField Try.prog 32 1 1 := .mk' (n := 1) Try.underlying32 rfl rfl (by kernel_rfl) (by decide)
instance : TyField Try.prog 32 2 2 := .mk' (n := 1) Try.underlying32 rfl rfl (by kernel_rfl) (by decide)
instance : TyField Try.prog 32 3 3 := .mk' (n := 1) Try.underlying32 rfl rfl (by kernel_rfl) (by decide)
instance : TyStruct Try.prog 32 [.int .i64 0, .int .i64 0, .int .i64 0, .int .i64 0] [(0, 1), (1, 1), (2, 1), (3, 1)] := .mk' Try.underlying32 (by kernel_rfl) (by kernel_rfl)
instance : TyRow Try.prog 33 4 := ⟨⟨_, Try.underlying33, rfl⟩, by kernel_rfl⟩
instance : TySize Try.prog 33 4 := ⟨by kernel_rfl⟩
instance : TyZero Try.prog 33 (.agg #[.int .i64 0, .int .i64 0, .int .i64 0, .int .i64 0]) := .mk' (by kernel_rfl)
instance : TyField Try.prog 33 0 0 := .mk' (n := 1) Try.underlying33 rfl rfl (by kernel_rfl) (by decide)
instance : TyField Try.prog 33 1 1 := .mk' (n := 1) Try.underlying33 rfl rfl (by kernel_rfl) (by decide)
instance : TyField Try.prog 33 2 2 := .mk' (n := 1) Try.underlying33 rfl rfl (by kernel_rfl) (by decide)
instance : TyField Try.prog 33 3 3 := .mk' (n := 1) Try.underlying33 rfl rfl (by kernel_rfl) (by decide)
instance : TyStruct Try.prog 33 [.int .i64 0, .int .i64 0, .int .i64 0, .int .i64 0] [(0, 1), (1, 1), (2, 1), (3, 1)] := .mk' Try.underlying33 (by kernel_rfl) (by kernel_rfl)
instance : TyOne Try.prog 34 := ⟨⟨_, Try.underlying34, rfl⟩, by kernel_rfl⟩
instance : TySize Try.prog 34 1 := ⟨by kernel_rfl⟩
instance : TyZero Try.prog 34 (.slice none 0 0) := .mk' (by kernel_rfl)
instance : TySl Try.prog 34 63 7 56 := .mk' (z := (.agg #[.int .i64 0, .int .i64 0, .int .i64 0, .int .i64 0, .int .u64 0, .int .u64 0, .int .u64 0])) Try.underlying34 (by kernel_rfl) rfl (by decide) (by decide)
instance : TyOne Try.prog 37 := ⟨⟨_, Try.underlying37, rfl⟩, by kernel_rfl⟩
instance : TySize Try.prog 37 1 := ⟨by kernel_rfl⟩
instance : TyZero Try.prog 37 (.int .u64 0) := .mk' (by kernel_rfl)
instance : TyOne Try.prog 38 := ⟨⟨_, Try.underlying38, rfl⟩, by kernel_rfl⟩
instance : TySize Try.prog 38 1 := ⟨by kernel_rfl⟩
instance : TyZero Try.prog 38 (.int .u64 0) := .mk' (by kernel_rfl)
instance : TyRow Try.prog 39 3 := ⟨⟨_, Try.underlying39, rfl⟩, by kernel_rfl⟩
instance : TySize Try.prog 39 3 := ⟨by kernel_rfl⟩
instance : TyZero Try.prog 39 (.agg #[.int .u64 0, .int .u64 0, .int .u64 0]) := .mk' (by kernel_rfl)
instance : TyField Try.prog 39 0 0 := .mk' (n := 1) Try.underlying39 rfl rfl (by kernel_rfl) (by decide)
instance : TyField Try.prog 39 1 1 := .mk' (n := 1) Try.underlying39 rfl rfl (by kernel_rfl) (by decide)
instance : TyField Try.prog 39 2 2 := .mk' (n := 1) Try.underlying39 rfl rfl (by kernel_rfl) (by decide)
instance : TyStruct Try.prog 39 [.int .u64 0, .int .u64 0, .int .u64 0] [(0, 1), (1, 1), (2, 1)] := .mk' Try.underlying39 (by kernel_rfl) (by kernel_rfl)
instance : TyRow Try.prog 40 3 := ⟨⟨_, Try.underlying40, rfl⟩, by kernel_rfl⟩
instance : TySize Try.prog 40 3 := ⟨by kernel_rfl⟩
instance : TyZero Try.prog 40 (.agg #[.int .u64 0, .int .u64 0, .int .u64 0]) := .mk' (by kernel_rfl)
instance : TyField Try.prog 40 0 0 := .mk' (n := 1) Try.underlying40 rfl rfl (by kernel_rfl) (by decide)
instance : TyField Try.prog 40 1 1 := .mk' (n := 1) Try.underlying40 rfl rfl (by kernel_rfl) (by decide)
instance : TyField Try.prog 40 2 2 := .mk' (n := 1) Try.underlying40 rfl rfl (by kernel_rfl) (by decide)
instance : TyStruct Try.prog 40 [.int .u64 0, .int .u64 0, .int .u64 0] [(0, 1), (1, 1), (2, 1)] := .mk' Try.underlying40 (by kernel_rfl) (by kernel_rfl)
instance : TyOne Try.prog 43 := ⟨⟨_, Try.underlying43, rfl⟩, by kernel_rfl⟩
instance : TySize Try.prog 43 1 := ⟨by kernel_rfl⟩
instance : TyZero Try.prog 43 (.slice none 0 0) := .mk' (by kernel_rfl)
instance : TySl Try.prog 43 3 1 8 := .mk' (z := (.int .i64 0)) Try.underlying43 (by kernel_rfl) rfl (by decide) (by decide)
instance : TyRow Try.prog 47 8 := ⟨⟨_, Try.underlying47, rfl⟩, by kernel_rfl⟩
instance : TySize Try.prog 47 8 := ⟨by kernel_rfl⟩
instance : TyZero Try.prog 47 (.agg #[.int .i64 0, .int .i64 0, .int .i64 0, .int .i64 0, .int .u8 0, .int .u64 0, .int .i64 0, .bool false]) := .mk' (by kernel_rfl)
instance : TyField Try.prog 47 0 0 := .mk' (n := 4) Try.underlying47 rfl rfl (by kernel_rfl) (by decide)
instance : TyField Try.prog 47 1 4 := .mk' (n := 1) Try.underlying47 rfl rfl (by kernel_rfl) (by decide)
instance : TyField Try.prog 47 2 5 := .mk' (n := 1) Try.underlying47 rfl rfl (by kernel_rfl) (by decide)
instance : TyField Try.prog 47 3 6 := .mk' (n := 1) Try.underlying47 rfl rfl (by kernel_rfl) (by decide)
instance : TyField Try.prog 47 4 7 := .mk' (n := 1) Try.underlying47 rfl rfl (by kernel_rfl) (by decide)
instance : TyStruct Try.prog 47 [.int .i64 0, .int .i64 0, .int .i64 0, .int .i64 0, .int .u8 0, .int .u64 0, .int .i64 0, .bool false] [(0, 4), (4, 1), (5, 1), (6, 1), (7, 1)] := .mk' Try.underlying47 (by kernel_rfl) (by kernel_rfl)
instance : TyRow Try.prog 48 8 := ⟨⟨_, Try.underlying48, rfl⟩, by kernel_rfl⟩
instance : TySize Try.prog 48 8 := ⟨by kernel_rfl⟩
instance : TyZero Try.prog 48 (.agg #[.int .i64 0, .int .i64 0, .int .i64 0, .int .i64 0, .int .u8 0, .int .u64 0, .int .i64 0, .bool false]) := .mk' (by kernel_rfl)
instance : TyField Try.prog 48 0 0 := .mk' (n := 4) Try.underlying48 rfl rfl (by kernel_rfl) (by decide)
instance : TyField Try.prog 48 1 4 := .mk' (n := 1) Try.underlying48 rfl rfl (by kernel_rfl) (by decide)
instance : TyField Try.prog 48 2 5 := .mk' (n := 1) Try.underlying48 rfl rfl (by kernel_rfl) (by decide)
instance : TyField Try.prog 48 3 6 := .mk' (n := 1) Try.underlying48 rfl rfl (by kernel_rfl) (by decide)
instance : TyField Try.prog 48 4 7 := .mk' (n := 1) Try.underlying48 rfl rfl (by kernel_rfl) (by decide)
instance : TyStruct Try.prog 48 [.int .i64 0, .int .i64 0, .int .i64 0, .int .i64 0, .int .u8 0, .int .u64 0, .int .i64 0, .bool false] [(0, 4), (4, 1), (5, 1), (6, 1), (7, 1)] := .mk' Try.underlying48 (by kernel_rfl) (by kernel_rfl)
instance : TyRow Try.prog 60 4 := ⟨⟨_, Try.underlying60, rfl⟩, by kernel_rfl⟩
instance : TySize Try.prog 60 4 := ⟨by kernel_rfl⟩
instance : TyZero Try.prog 60 (.agg #[.int .i64 0, .slice none 0 0, .int .i64 0, .int .i64 0]) := .mk' (by kernel_rfl)
instance : TyField Try.prog 60 0 0 := .mk' (n := 1) Try.underlying60 rfl rfl (by kernel_rfl) (by decide)
instance : TyField Try.prog 60 1 1 := .mk' (n := 1) Try.underlying60 rfl rfl (by kernel_rfl) (by decide)
instance : TyField Try.prog 60 2 2 := .mk' (n := 1) Try.underlying60 rfl rfl (by kernel_rfl) (by decide)
instance : TyField Try.prog 60 3 3 := .mk' (n := 1) Try.underlying60 rfl rfl (by kernel_rfl) (by decide)
instance : TyStruct Try.prog 60 [.int .i64 0, .slice none 0 0, .int .i64 0, .int .i64 0] [(0, 1), (1, 1), (2, 1), (3, 1)] := .mk' Try.underlying60 (by kernel_rfl) (by kernel_rfl)
instance : TyOne Try.prog 61 := ⟨⟨_, Try.underlying61, rfl⟩, by kernel_rfl⟩
instance : TySize Try.prog 61 1 := ⟨by kernel_rfl⟩
instance : TyZero Try.prog 61 (.slice none 0 0) := .mk' (by kernel_rfl)
instance : TySl Try.prog 61 60 4 48 := .mk' (z := (.agg #[.int .i64 0, .slice none 0 0, .int .i64 0, .int .i64 0])) Try.underlying61 (by kernel_rfl) rfl (by decide) (by decide)
instance : TyRow Try.prog 62 7 := ⟨⟨_, Try.underlying62, rfl⟩, by kernel_rfl⟩
instance : TySize Try.prog 62 7 := ⟨by kernel_rfl⟩
instance : TyZero Try.prog 62 (.agg #[.int .i64 0, .int .i64 0, .int .i64 0, .int .i64 0, .int .u64 0, .int .u64 0, .int .u64 0]) := .mk' (by kernel_rfl)
instance : TyField Try.prog 62 0 0 := .mk' (n := 4) Try.underlying62 rfl rfl (by kernel_rfl) (by decide)
instance : TyField Try.prog 62 1 4 := .mk' (n := 3) Try.underlying62 rfl rfl (by kernel_rfl) (by decide)
instance : TyStruct Try.prog 62 [.int .i64 0, .int .i64 0, .int .i64 0, .int .i64 0, .int .u64 0, .int .u64 0, .int .u64 0] [(0, 4), (4, 3)] := .mk' Try.underlying62 (by kernel_rfl) (by kernel_rfl)
instance : TyRow Try.prog 63 7 := ⟨⟨_, Try.underlying63, rfl⟩, by kernel_rfl⟩
instance : TySize Try.prog 63 7 := ⟨by kernel_rfl⟩
instance : TyZero Try.prog 63 (.agg #[.int .i64 0, .int .i64 0, .int .i64 0, .int .i64 0, .int .u64 0, .int .u64 0, .int .u64 0]) := .mk' (by kernel_rfl)
instance : TyField Try.prog 63 0 0 := .mk' (n := 4) Try.underlying63 rfl rfl (by kernel_rfl) (by decide)
instance : TyField Try.prog 63 1 4 := .mk' (n := 3) Try.underlying63 rfl rfl (by kernel_rfl) (by decide)
instance : TyStruct Try.prog 63 [.int .i64 0, .int .i64 0, .int .i64 0, .int .i64 0, .int .u64 0, .int .u64 0, .int .u64 0] [(0, 4), (4, 3)] := .mk' Try.underlying63 (by kernel_rfl) (by kernel_rfl)
instance : TyRow Try.prog 65 13 := ⟨⟨_, Try.underlying65, rfl⟩, by kernel_rfl⟩
instance : TySize Try.prog 65 13 := ⟨by kernel_rfl⟩
instance : TyZero Try.prog 65 (.agg #[.int .u8 0, .int .i64 0, .int .i64 0, .int .i64 0, .int .i64 0, .int .i64 0, .string ⟨#[]⟩, .int .u64 0, .int .u64 0, .int .u64 0, .int .u8 0, .int .u64 0, .int .i64 0]) := .mk' (by kernel_rfl)
instance : TyField Try.prog 65 0 0 := .mk' (n := 1) Try.underlying65 rfl rfl (by kernel_rfl) (by decide)
instance : TyField Try.prog 65 1 1 := .mk' (n := 1) Try.underlying65 rfl rfl (by kernel_rfl) (by decide)
instance : TyField Try.prog 65 2 2 := .mk' (n := 4) Try.underlying65 rfl rfl (by kernel_rfl) (by decide)
instance : TyField Try.prog 65 3 6 := .mk' (n := 1) Try.underlying65 rfl rfl (by kernel_rfl) (by decide)
instance : TyField Try.prog 65 4 7 := .mk' (n := 3) Try.underlying65 rfl rfl (by kernel_rfl) (by decide)
instance : TyField Try.prog 65 5 10 := .mk' (n := 1) Try.underlying65 rfl rfl (by kernel_rfl) (by decide)
instance : TyField Try.prog 65 6 11 := .mk' (n := 1) Try.underlying65 rfl rfl (by kernel_rfl) (by decide)
instance : TyField Try.prog 65 7 12 := .mk' (n := 1) Try.underlying65 rfl rfl (by kernel_rfl) (by decide)
instance : TyStruct Try.prog 65 [.int .u8 0, .int .i64 0, .int .i64 0, .int .i64 0, .int .i64 0, .int .i64 0, .string ⟨#[]⟩, .int .u64 0, .int .u64 0, .int .u64 0, .int .u8 0, .int .u64 0, .int .i64 0] [(0, 1), (1, 1), (2, 4), (6, 1), (7, 3), (10, 1), (11, 1), (12, 1)] := .mk' Try.underlying65 (by kernel_rfl) (by kernel_rfl)
instance : TyRow Try.prog 66 13 := ⟨⟨_, Try.underlying66, rfl⟩, by kernel_rfl⟩
instance : TySize Try.prog 66 13 := ⟨by kernel_rfl⟩
instance : TyZero Try.prog 66 (.agg #[.int .u8 0, .int .i64 0, .int .i64 0, .int .i64 0, .int .i64 0, .int .i64 0, .string ⟨#[]⟩, .int .u64 0, .int .u64 0, .int .u64 0, .int .u8 0, .int .u64 0, .int .i64 0]) := .mk' (by kernel_rfl)
instance : TyField Try.prog 66 0 0 := .mk' (n := 1) Try.underlying66 rfl rfl (by kernel_rfl) (by decide)
instance : TyField Try.prog 66 1 1 := .mk' (n := 1) Try.underlying66 rfl rfl (by kernel_rfl) (by decide)
instance : TyField Try.prog 66 2 2 := .mk' (n := 4) Try.underlying66 rfl rfl (by kernel_rfl) (by decide)
instance : TyField Try.prog 66 3 6 := .mk' (n := 1) Try.underlying66 rfl rfl (by kernel_rfl) (by decide)
instance : TyField Try.prog 66 4 7 := .mk' (n := 3) Try.underlying66 rfl rfl (by kernel_rfl) (by decide)
instance : TyField Try.prog 66 5 10 := .mk' (n := 1) Try.underlying66 rfl rfl (by kernel_rfl) (by decide)
instance : TyField Try.prog 66 6 11 := .mk' (n := 1) Try.underlying66 rfl rfl (by kernel_rfl) (by decide)
instance : TyField Try.prog 66 7 12 := .mk' (n := 1) Try.underlying66 rfl rfl (by kernel_rfl) (by decide)
instance : TyStruct Try.prog 66 [.int .u8 0, .int .i64 0, .int .i64 0, .int .i64 0, .int .i64 0, .int .i64 0, .string ⟨#[]⟩, .int .u64 0, .int .u64 0, .int .u64 0, .int .u8 0, .int .u64 0, .int .i64 0] [(0, 1), (1, 1), (2, 4), (6, 1), (7, 3), (10, 1), (11, 1), (12, 1)] := .mk' Try.underlying66 (by kernel_rfl) (by kernel_rfl)
instance : TyRow Try.prog 67 9 := ⟨⟨_, Try.underlying67, rfl⟩, by kernel_rfl⟩
instance : TySize Try.prog 67 9 := ⟨by kernel_rfl⟩
instance : TyZero Try.prog 67 (.agg #[.int .i64 0, .int .i64 0, .int .u8 0, .int .i64 0, .int .i64 0, .int .i64 0, .int .i64 0, .bool false, .int .u64 0]) := .mk' (by kernel_rfl)
instance : TyField Try.prog 67 0 0 := .mk' (n := 1) Try.underlying67 rfl rfl (by kernel_rfl) (by decide)
instance : TyField Try.prog 67 1 1 := .mk' (n := 1) Try.underlying67 rfl rfl (by kernel_rfl) (by decide)
instance : TyField Try.prog 67 2 2 := .mk' (n := 1) Try.underlying67 rfl rfl (by kernel_rfl) (by decide)
instance : TyField Try.prog 67 3 3 := .mk' (n := 4) Try.underlying67 rfl rfl (by kernel_rfl) (by decide)
instance : TyField Try.prog 67 4 7 := .mk' (n := 1) Try.underlying67 rfl rfl (by kernel_rfl) (by decide)
instance : TyField Try.prog 67 5 8 := .mk' (n := 1) Try.underlying67 rfl rfl (by kernel_rfl) (by decide)
instance : TyStruct Try.prog 67 [.int .i64 0, .int .i64 0, .int .u8 0, .int .i64 0, .int .i64 0, .int .i64 0, .int .i64 0, .bool false, .int .u64 0] [(0, 1), (1, 1), (2, 1), (3, 4), (7, 1), (8, 1)] := .mk' Try.underlying67 (by kernel_rfl) (by kernel_rfl)
instance : TyRow Try.prog 68 9 := ⟨⟨_, Try.underlying68, rfl⟩, by kernel_rfl⟩
instance : TySize Try.prog 68 9 := ⟨by kernel_rfl⟩
instance : TyZero Try.prog 68 (.agg #[.int .i64 0, .int .i64 0, .int .u8 0, .int .i64 0, .int .i64 0, .int .i64 0, .int .i64 0, .bool false, .int .u64 0]) := .mk' (by kernel_rfl)
instance : TyField Try.prog 68 0 0 := .mk' (n := 1) Try.underlying68 rfl rfl (by kernel_rfl) (by decide)
instance : TyField Try.prog 68 1 1 := .mk' (n := 1) Try.underlying68 rfl rfl (by kernel_rfl) (by decide)
instance : TyField Try.prog 68 2 2 := .mk' (n := 1) Try.underlying68 rfl rfl (by kernel_rfl) (by decide)
instance : TyField Try.prog 68 3 3 := .mk' (n := 4) Try.underlying68 rfl rfl (by kernel_rfl) (by decide)
instance : TyField Try.prog 68 4 7 := .mk' (n := 1) Try.underlying68 rfl rfl (by kernel_rfl) (by decide)
instance : TyField Try.prog 68 5 8 := .mk' (n := 1) Try.underlying68 rfl rfl (by kernel_rfl) (by decide)
instance : TyStruct Try.prog 68 [.int .i64 0, .int .i64 0, .int .u8 0, .int .i64 0, .int .i64 0, .int .i64 0, .int .i64 0, .bool false, .int .u64 0] [(0, 1), (1, 1), (2, 1), (3, 4), (7, 1), (8, 1)] := .mk' Try.underlying68 (by kernel_rfl) (by kernel_rfl)
instance : TyOne Try.prog 75 := ⟨⟨_, Try.underlying75, rfl⟩, by kernel_rfl⟩
instance : TySize Try.prog 75 1 := ⟨by kernel_rfl⟩
instance : TyZero Try.prog 75 (.slice none 0 0) := .mk' (by kernel_rfl)
instance : TySl Try.prog 75 68 9 72 := .mk' (z := (.agg #[.int .i64 0, .int .i64 0, .int .u8 0, .int .i64 0, .int .i64 0, .int .i64 0, .int .i64 0, .bool false, .int .u64 0])) Try.underlying75 (by kernel_rfl) rfl (by decide) (by decide)
instance : TyOne Try.prog 80 := ⟨⟨_, Try.underlying80, rfl⟩, by kernel_rfl⟩
instance : TySize Try.prog 80 1 := ⟨by kernel_rfl⟩
instance : TyZero Try.prog 80 (.slice none 0 0) := .mk' (by kernel_rfl)
instance : TySl Try.prog 80 91 11 88 := .mk' (z := (.agg #[.int .i64 0, .int .i64 0, .int .i64 0, .int .i64 0, .int .u8 0, .int .i64 0, .int .i64 0, .int .i64 0, .int .i64 0, .int .i64 0, .int .u64 0])) Try.underlying80 (by kernel_rfl) rfl (by decide) (by decide)
instance : TyRow Try.prog 86 2 := ⟨⟨_, Try.underlying86, rfl⟩, by kernel_rfl⟩
instance : TySize Try.prog 86 2 := ⟨by kernel_rfl⟩
instance : TyZero Try.prog 86 (.agg #[.int .i64 0, .int .i64 0]) := .mk' (by kernel_rfl)
instance : TyField Try.prog 86 0 0 := .mk' (n := 1) Try.underlying86 rfl rfl (by kernel_rfl) (by decide)
instance : TyField Try.prog 86 1 1 := .mk' (n := 1) Try.underlying86 rfl rfl (by kernel_rfl) (by decide)
instance : TyStruct Try.prog 86 [.int .i64 0, .int .i64 0] [(0, 1), (1, 1)] := .mk' Try.underlying86 (by kernel_rfl) (by kernel_rfl)
instance : TyRow Try.prog 87 2 := ⟨⟨_, Try.underlying87, rfl⟩, by kernel_rfl⟩
instance : TySize Try.prog 87 2 := ⟨by kernel_rfl⟩
instance : TyZero Try.prog 87 (.agg #[.int .i64 0, .int .i64 0]) := .mk' (by kernel_rfl)
instance : TyField Try.prog 87 0 0 := .mk' (n := 1) Try.underlying87 rfl rfl (by kernel_rfl) (by decide)
instance : TyField Try.prog 87 1 1 := .mk' (n := 1) Try.underlying87 rfl rfl (by kernel_rfl) (by decide)
instance : TyStruct Try.prog 87 [.int .i64 0, .int .i64 0] [(0, 1), (1, 1)] := .mk' Try.underlying87 (by kernel_rfl) (by kernel_rfl)
instance : TyRow Try.prog 88 3 := ⟨⟨_, Try.underlying88, rfl⟩, by kernel_rfl⟩
instance : TySize Try.prog 88 3 := ⟨by kernel_rfl⟩
instance : TyZero Try.prog 88 (.agg #[.int .i64 0, .int .i64 0, .int .i64 0]) := .mk' (by kernel_rfl)
instance : TyField Try.prog 88 0 0 := .mk' (n := 2) Try.underlying88 rfl rfl (by kernel_rfl) (by decide)
instance : TyField Try.prog 88 1 2 := .mk' (n := 1) Try.underlying88 rfl rfl (by kernel_rfl) (by decide)
instance : TyStruct Try.prog 88 [.int .i64 0, .int .i64 0, .int .i64 0] [(0, 2), (2, 1)] := .mk' Try.underlying88 (by kernel_rfl) (by kernel_rfl)
instance : TyRow Try.prog 89 3 := ⟨⟨_, Try.underlying89, rfl⟩, by kernel_rfl⟩
instance : TySize Try.prog 89 3 := ⟨by kernel_rfl⟩
instance : TyZero Try.prog 89 (.agg #[.int .i64 0, .int .i64 0, .int .i64 0]) := .mk' (by kernel_rfl)
instance : TyField Try.prog 89 0 0 := .mk' (n := 2) Try.underlying89 rfl rfl (by kernel_rfl) (by decide)
instance : TyField Try.prog 89 1 2 := .mk' (n := 1) Try.underlying89 rfl rfl (by kernel_rfl) (by decide)
instance : TyStruct Try.prog 89 [.int .i64 0, .int .i64 0, .int .i64 0] [(0, 2), (2, 1)] := .mk' Try.underlying89 (by kernel_rfl) (by kernel_rfl)
instance : TyRow Try.prog 90 11 := ⟨⟨_, Try.underlying90, rfl⟩, by kernel_rfl⟩
instance : TySize Try.prog 90 11 := ⟨by kernel_rfl⟩
instance : TyZero Try.prog 90 (.agg #[.int .i64 0, .int .i64 0, .int .i64 0, .int .i64 0, .int .u8 0, .int .i64 0, .int .i64 0, .int .i64 0, .int .i64 0, .int .i64 0, .int .u64 0]) := .mk' (by kernel_rfl)
instance : TyField Try.prog 90 0 0 := .mk' (n := 1) Try.underlying90 rfl rfl (by kernel_rfl) (by decide)
instance : TyField Try.prog 90 1 1 := .mk' (n := 3) Try.underlying90 rfl rfl (by kernel_rfl) (by decide)
instance : TyField Try.prog 90 2 4 := .mk' (n := 1) Try.underlying90 rfl rfl (by kernel_rfl) (by decide)
instance : TyField Try.prog 90 3 5 := .mk' (n := 4) Try.underlying90 rfl rfl (by kernel_rfl) (by decide)
instance : TyField Try.prog 90 4 9 := .mk' (n := 1) Try.underlying90 rfl rfl (by kernel_rfl) (by decide)
instance : TyField Try.prog 90 5 10 := .mk' (n := 1) Try.underlying90 rfl rfl (by kernel_rfl) (by decide)
instance : TyStruct Try.prog 90 [.int .i64 0, .int .i64 0, .int .i64 0, .int .i64 0, .int .u8 0, .int .i64 0, .int .i64 0, .int .i64 0, .int .i64 0, .int .i64 0, .int .u64 0] [(0, 1), (1, 3), (4, 1), (5, 4), (9, 1), (10, 1)] := .mk' Try.underlying90 (by kernel_rfl) (by kernel_rfl)
instance : TyRow Try.prog 91 11 := ⟨⟨_, Try.underlying91, rfl⟩, by kernel_rfl⟩
instance : TySize Try.prog 91 11 := ⟨by kernel_rfl⟩
instance : TyZero Try.prog 91 (.agg #[.int .i64 0, .int .i64 0, .int .i64 0, .int .i64 0, .int .u8 0, .int .i64 0, .int .i64 0, .int .i64 0, .int .i64 0, .int .i64 0, .int .u64 0]) := .mk' (by kernel_rfl)
instance : TyField Try.prog 91 0 0 := .mk' (n := 1) Try.underlying91 rfl rfl (by kernel_rfl) (by decide)
instance : TyField Try.prog 91 1 1 := .mk' (n := 3) Try.underlying91 rfl rfl (by kernel_rfl) (by decide)
instance : TyField Try.prog 91 2 4 := .mk' (n := 1) Try.underlying91 rfl rfl (by kernel_rfl) (by decide)
instance : TyField Try.prog 91 3 5 := .mk' (n := 4) Try.underlying91 rfl rfl (by kernel_rfl) (by decide)
instance : TyField Try.prog 91 4 9 := .mk' (n := 1) Try.underlying91 rfl rfl (by kernel_rfl) (by decide)
instance : TyField Try.prog 91 5 10 := .mk' (n := 1) Try.underlying91 rfl rfl (by kernel_rfl) (by decide)
instance : TyStruct Try.prog 91 [.int .i64 0, .int .i64 0, .int .i64 0, .int .i64 0, .int .u8 0, .int .i64 0, .int .i64 0, .int .i64 0, .int .i64 0, .int .i64 0, .int .u64 0] [(0, 1), (1, 3), (4, 1), (5, 4), (9, 1), (10, 1)] := .mk' Try.underlying91 (by kernel_rfl) (by kernel_rfl)
instance : TyOne Try.prog 96 := ⟨⟨_, Try.underlying96, rfl⟩, by kernel_rfl⟩
instance : TySize Try.prog 96 1 := ⟨by kernel_rfl⟩
instance : TyZero Try.prog 96 (.slice none 0 0) := .mk' (by kernel_rfl)
instance : TySl Try.prog 96 24 1 8 := .mk' (z := (.int .i64 0)) Try.underlying96 (by kernel_rfl) rfl (by decide) (by decide)
instance : TyOne Try.prog 103 := ⟨⟨_, Try.underlying103, rfl⟩, by kernel_rfl⟩
instance : TySize Try.prog 103 1 := ⟨by kernel_rfl⟩
instance : TyZero Try.prog 103 (.slice none 0 0) := .mk' (by kernel_rfl)
instance : TySl Try.prog 103 38 1 8 := .mk' (z := (.int .u64 0)) Try.underlying103 (by kernel_rfl) rfl (by decide) (by decide)
instance : TyOne Try.prog 104 := ⟨⟨_, Try.underlying104, rfl⟩, by kernel_rfl⟩
instance : TySize Try.prog 104 1 := ⟨by kernel_rfl⟩
instance : TyZero Try.prog 104 (.slice none 0 0) := .mk' (by kernel_rfl)
instance : TySl Try.prog 104 108 6 48 := .mk' (z := (.agg #[.int .i64 0, .int .i64 0, .int .i64 0, .int .i64 0, .int .i64 0, .int .i64 0])) Try.underlying104 (by kernel_rfl) rfl (by decide) (by decide)
instance : TyRow Try.prog 106 2 := ⟨⟨_, Try.underlying106, rfl⟩, by kernel_rfl⟩
instance : TySize Try.prog 106 2 := ⟨by kernel_rfl⟩
instance : TyZero Try.prog 106 (.agg #[.int .i64 0, .int .i64 0]) := .mk' (by kernel_rfl)
instance : TyArr Try.prog 106 2 3 1 := ⟨Try.underlying106, by kernel_rfl⟩
instance : TyArray Try.prog 106 [.int .i64 0, .int .i64 0] 1 := .mk' Try.underlying106 (by kernel_rfl) (by kernel_rfl)
instance : TyRow Try.prog 107 6 := ⟨⟨_, Try.underlying107, rfl⟩, by kernel_rfl⟩
instance : TySize Try.prog 107 6 := ⟨by kernel_rfl⟩
instance : TyZero Try.prog 107 (.agg #[.int .i64 0, .int .i64 0, .int .i64 0, .int .i64 0, .int .i64 0, .int .i64 0]) := .mk' (by kernel_rfl)
instance : TyField Try.prog 107 0 0 := .mk' (n := 4) Try.underlying107 rfl rfl (by kernel_rfl) (by decide)
instance : TyField Try.prog 107 1 4 := .mk' (n := 2) Try.underlying107 rfl rfl (by kernel_rfl) (by decide)
instance : TyStruct Try.prog 107 [.int .i64 0, .int .i64 0, .int .i64 0, .int .i64 0, .int .i64 0, .int .i64 0] [(0, 4), (4, 2)] := .mk' Try.underlying107 (by kernel_rfl) (by kernel_rfl)
instance : TyRow Try.prog 108 6 := ⟨⟨_, Try.underlying108, rfl⟩, by kernel_rfl⟩
instance : TySize Try.prog 108 6 := ⟨by kernel_rfl⟩
instance : TyZero Try.prog 108 (.agg #[.int .i64 0, .int .i64 0, .int .i64 0, .int .i64 0, .int .i64 0, .int .i64 0]) := .mk' (by kernel_rfl)
instance : TyField Try.prog 108 0 0 := .mk' (n := 4) Try.underlying108 rfl rfl (by kernel_rfl) (by decide)
instance : TyField Try.prog 108 1 4 := .mk' (n := 2) Try.underlying108 rfl rfl (by kernel_rfl) (by decide)
instance : TyStruct Try.prog 108 [.int .i64 0, .int .i64 0, .int .i64 0, .int .i64 0, .int .i64 0, .int .i64 0] [(0, 4), (4, 2)] := .mk' Try.underlying108 (by kernel_rfl) (by kernel_rfl)
instance : TyOne Try.prog 130 := ⟨⟨_, Try.underlying130, rfl⟩, by kernel_rfl⟩
instance : TySize Try.prog 130 1 := ⟨by kernel_rfl⟩
instance : TyZero Try.prog 130 (.slice none 0 0) := .mk' (by kernel_rfl)
instance : TySl Try.prog 130 106 2 16 := .mk' (z := (.agg #[.int .i64 0, .int .i64 0])) Try.underlying130 (by kernel_rfl) rfl (by decide) (by decide)
instance : TyOne Try.prog 139 := ⟨⟨_, Try.underlying139, rfl⟩, by kernel_rfl⟩
instance : TySize Try.prog 139 1 := ⟨by kernel_rfl⟩
instance : TyZero Try.prog 139 (.slice none 0 0) := .mk' (by kernel_rfl)
instance : TySl Try.prog 139 87 2 16 := .mk' (z := (.agg #[.int .i64 0, .int .i64 0])) Try.underlying139 (by kernel_rfl) rfl (by decide) (by decide)
instance : TyOne Try.prog 153 := ⟨⟨_, Try.underlying153, rfl⟩, by kernel_rfl⟩
instance : TySize Try.prog 153 1 := ⟨by kernel_rfl⟩
instance : TyZero Try.prog 153 (.slice none 0 0) := .mk' (by kernel_rfl)
instance : TySl Try.prog 153 33 4 32 := .mk' (z := (.agg #[.int .i64 0, .int .i64 0, .int .i64 0, .int .i64 0])) Try.underlying153 (by kernel_rfl) rfl (by decide) (by decide)
instance : TyOne Try.prog 159 := ⟨⟨_, Try.underlying159, rfl⟩, by kernel_rfl⟩
instance : TySize Try.prog 159 1 := ⟨by kernel_rfl⟩
instance : TyZero Try.prog 159 (.slice none 0 0) := .mk' (by kernel_rfl)
instance : TySl Try.prog 159 5 1 1 := .mk' (z := (.int .u8 0)) Try.underlying159 (by kernel_rfl) rfl (by decide) (by decide)
instance : TyOne Try.prog 164 := ⟨⟨_, Try.underlying164, rfl⟩, by kernel_rfl⟩
instance : TySize Try.prog 164 1 := ⟨by kernel_rfl⟩
instance : TyZero Try.prog 164 (.int .i64 0) := .mk' (by kernel_rfl)
instance : TyOne Try.prog 173 := ⟨⟨_, Try.underlying173, rfl⟩, by kernel_rfl⟩
instance : TySize Try.prog 173 1 := ⟨by kernel_rfl⟩
instance : TyZero Try.prog 173 (.int .u32 0) := .mk' (by kernel_rfl)
instance : TyOne Try.prog 176 := ⟨⟨_, Try.underlying176, rfl⟩, by kernel_rfl⟩
instance : TySize Try.prog 176 1 := ⟨by kernel_rfl⟩
instance : TyZero Try.prog 176 (.int .u64 0) := .mk' (by kernel_rfl)
instance : TyOne Try.prog 180 := ⟨⟨_, Try.underlying180, rfl⟩, by kernel_rfl⟩
instance : TySize Try.prog 180 1 := ⟨by kernel_rfl⟩
instance : TyOne Try.prog 182 := ⟨⟨_, Try.underlying182, rfl⟩, by kernel_rfl⟩
instance : TySize Try.prog 182 1 := ⟨by kernel_rfl⟩
instance : TyRow Try.prog 186 4 := ⟨⟨_, Try.underlying186, rfl⟩, by kernel_rfl⟩
instance : TySize Try.prog 186 4 := ⟨by kernel_rfl⟩
instance : TyField Try.prog 186 0 0 := .mk' (n := 1) Try.underlying186 rfl rfl (by kernel_rfl) (by decide)
instance : TyField Try.prog 186 1 1 := .mk' (n := 1) Try.underlying186 rfl rfl (by kernel_rfl) (by decide)
instance : TyField Try.prog 186 2 2 := .mk' (n := 1) Try.underlying186 rfl rfl (by kernel_rfl) (by decide)
instance : TyField Try.prog 186 3 3 := .mk' (n := 1) Try.underlying186 rfl rfl (by kernel_rfl) (by decide)
instance : TyRow Try.prog 187 4 := ⟨⟨_, Try.underlying187, rfl⟩, by kernel_rfl⟩
instance : TySize Try.prog 187 4 := ⟨by kernel_rfl⟩
instance : TyField Try.prog 187 0 0 := .mk' (n := 1) Try.underlying187 rfl rfl (by kernel_rfl) (by decide)
instance : TyField Try.prog 187 1 1 := .mk' (n := 1) Try.underlying187 rfl rfl (by kernel_rfl) (by decide)
instance : TyField Try.prog 187 2 2 := .mk' (n := 1) Try.underlying187 rfl rfl (by kernel_rfl) (by decide)
instance : TyField Try.prog 187 3 3 := .mk' (n := 1) Try.underlying187 rfl rfl (by kernel_rfl) (by decide)
instance : TyOne Try.prog 192 := ⟨⟨_, Try.underlying192, rfl⟩, by kernel_rfl⟩
instance : TySize Try.prog 192 1 := ⟨by kernel_rfl⟩
instance : TyZero Try.prog 192 (.int .u8 0) := .mk' (by kernel_rfl)
instance : TyOne Try.prog 193 := ⟨⟨_, Try.underlying193, rfl⟩, by kernel_rfl⟩
instance : TySize Try.prog 193 1 := ⟨by kernel_rfl⟩
instance : TyZero Try.prog 193 (.int .u8 0) := .mk' (by kernel_rfl)
instance : TyOne Try.prog 195 := ⟨⟨_, Try.underlying195, rfl⟩, by kernel_rfl⟩
instance : TySize Try.prog 195 1 := ⟨by kernel_rfl⟩
instance : TyOne Try.prog 196 := ⟨⟨_, Try.underlying196, rfl⟩, by kernel_rfl⟩
instance : TySize Try.prog 196 1 := ⟨by kernel_rfl⟩
instance : TyZero Try.prog 196 (.int .i32 0) := .mk' (by kernel_rfl)
instance : TyOne Try.prog 197 := ⟨⟨_, Try.underlying197, rfl⟩, by kernel_rfl⟩
instance : TySize Try.prog 197 1 := ⟨by kernel_rfl⟩
instance : TyZero Try.prog 197 (.int .i32 0) := .mk' (by kernel_rfl)
instance : TyRow Try.prog 198 11 := ⟨⟨_, Try.underlying198, rfl⟩, by kernel_rfl⟩
instance : TySize Try.prog 198 11 := ⟨by kernel_rfl⟩
instance : TyField Try.prog 198 0 0 := .mk' (n := 1) Try.underlying198 rfl rfl (by kernel_rfl) (by decide)
instance : TyField Try.prog 198 1 1 := .mk' (n := 1) Try.underlying198 rfl rfl (by kernel_rfl) (by decide)
instance : TyField Try.prog 198 2 2 := .mk' (n := 1) Try.underlying198 rfl rfl (by kernel_rfl) (by decide)
instance : TyField Try.prog 198 3 3 := .mk' (n := 1) Try.underlying198 rfl rfl (by kernel_rfl) (by decide)
instance : TyField Try.prog 198 4 4 := .mk' (n := 1) Try.underlying198 rfl rfl (by kernel_rfl) (by decide)
instance : TyField Try.prog 198 5 5 := .mk' (n := 1) Try.underlying198 rfl rfl (by kernel_rfl) (by decide)
instance : TyField Try.prog 198 6 6 := .mk' (n := 1) Try.underlying198 rfl rfl (by kernel_rfl) (by decide)
instance : TyField Try.prog 198 8 8 := .mk' (n := 1) Try.underlying198 rfl rfl (by kernel_rfl) (by decide)
instance : TyField Try.prog 198 9 9 := .mk' (n := 1) Try.underlying198 rfl rfl (by kernel_rfl) (by decide)
instance : TyField Try.prog 198 10 10 := .mk' (n := 1) Try.underlying198 rfl rfl (by kernel_rfl) (by decide)
instance : TyRow Try.prog 199 11 := ⟨⟨_, Try.underlying199, rfl⟩, by kernel_rfl⟩
instance : TySize Try.prog 199 11 := ⟨by kernel_rfl⟩
instance : TyField Try.prog 199 0 0 := .mk' (n := 1) Try.underlying199 rfl rfl (by kernel_rfl) (by decide)
instance : TyField Try.prog 199 1 1 := .mk' (n := 1) Try.underlying199 rfl rfl (by kernel_rfl) (by decide)
instance : TyField Try.prog 199 2 2 := .mk' (n := 1) Try.underlying199 rfl rfl (by kernel_rfl) (by decide)
instance : TyField Try.prog 199 3 3 := .mk' (n := 1) Try.underlying199 rfl rfl (by kernel_rfl) (by decide)
instance : TyField Try.prog 199 4 4 := .mk' (n := 1) Try.underlying199 rfl rfl (by kernel_rfl) (by decide)
instance : TyField Try.prog 199 5 5 := .mk' (n := 1) Try.underlying199 rfl rfl (by kernel_rfl) (by decide)
instance : TyField Try.prog 199 6 6 := .mk' (n := 1) Try.underlying199 rfl rfl (by kernel_rfl) (by decide)
instance : TyField Try.prog 199 8 8 := .mk' (n := 1) Try.underlying199 rfl rfl (by kernel_rfl) (by decide)
instance : TyField Try.prog 199 9 9 := .mk' (n := 1) Try.underlying199 rfl rfl (by kernel_rfl) (by decide)
instance : TyField Try.prog 199 10 10 := .mk' (n := 1) Try.underlying199 rfl rfl (by kernel_rfl) (by decide)
end Go.Proofs.Ytfacimebfdeaeaa
