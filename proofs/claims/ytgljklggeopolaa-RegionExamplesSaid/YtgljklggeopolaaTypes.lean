/- What the program says of its types, as the machine asks it. Written by a program for this seat. No condition. -/
import Derived.Test.YtgljklggeopolaaPv
import Derived.Test.YtgljklggeopolaaProg
namespace Go.Proofs.Ytgljklggeopolaa
open Pv
instance : TyOne Try.prog 2 := ⟨⟨_, Try.underlying2, rfl⟩, by kernel_rfl⟩
instance : TySize Try.prog 2 1 := ⟨by kernel_rfl⟩
instance : TyZero Try.prog 2 (.int .i64 0) := .mk' (by kernel_rfl)
instance : TyOne Try.prog 3 := ⟨⟨_, Try.underlying3, rfl⟩, by kernel_rfl⟩
instance : TySize Try.prog 3 1 := ⟨by kernel_rfl⟩
instance : TyZero Try.prog 3 (.int .i64 0) := .mk' (by kernel_rfl)
instance : TyOne Try.prog 4 := ⟨⟨_, Try.underlying4, rfl⟩, by kernel_rfl⟩
instance : TySize Try.prog 4 1 := ⟨by kernel_rfl⟩
instance : TyZero Try.prog 4 (.bool false) := .mk' (by kernel_rfl)
instance : TyOne Try.prog 5 := ⟨⟨_, Try.underlying5, rfl⟩, by kernel_rfl⟩
instance : TySize Try.prog 5 1 := ⟨by kernel_rfl⟩
instance : TyZero Try.prog 5 (.int .u8 0) := .mk' (by kernel_rfl)
instance : TyOne Try.prog 6 := ⟨⟨_, Try.underlying6, rfl⟩, by kernel_rfl⟩
instance : TySize Try.prog 6 1 := ⟨by kernel_rfl⟩
instance : TyZero Try.prog 6 (.int .u8 0) := .mk' (by kernel_rfl)
instance : TyRow Try.prog 7 4 := ⟨⟨_, Try.underlying7, rfl⟩, by kernel_rfl⟩
instance : TySize Try.prog 7 4 := ⟨by kernel_rfl⟩
instance : TyZero Try.prog 7 (.agg #[.int .i64 0, .int .i64 0, .bool false, .int .u8 0]) := .mk' (by kernel_rfl)
instance : TyField Try.prog 7 0 0 := .mk' (n := 1) Try.underlying7 rfl rfl (by kernel_rfl) (by decide)
instance : TyField Try.prog 7 1 1 := .mk' (n := 1) Try.underlying7 rfl rfl (by kernel_rfl) (by decide)
instance : TyField Try.prog 7 2 2 := .mk' (n := 1) Try.underlying7 rfl rfl (by kernel_rfl) (by decide)
instance : TyField Try.prog 7 3 3 := .mk' (n := 1) Try.underlying7 rfl rfl (by kernel_rfl) (by decide)
instance : TyStruct Try.prog 7 [.int .i64 0, .int .i64 0, .bool false, .int .u8 0] [(0, 1), (1, 1), (2, 1), (3, 1)] := .mk' Try.underlying7 (by kernel_rfl) (by kernel_rfl)
instance : TyRow Try.prog 8 4 := ⟨⟨_, Try.underlying8, rfl⟩, by kernel_rfl⟩
instance : TySize Try.prog 8 4 := ⟨by kernel_rfl⟩
instance : TyZero Try.prog 8 (.agg #[.int .i64 0, .int .i64 0, .bool false, .int .u8 0]) := .mk' (by kernel_rfl)
instance : TyField Try.prog 8 0 0 := .mk' (n := 1) Try.underlying8 rfl rfl (by kernel_rfl) (by decide)
instance : TyField Try.prog 8 1 1 := .mk' (n := 1) Try.underlying8 rfl rfl (by kernel_rfl) (by decide)
instance : TyField Try.prog 8 2 2 := .mk' (n := 1) Try.underlying8 rfl rfl (by kernel_rfl) (by decide)
instance : TyField Try.prog 8 3 3 := .mk' (n := 1) Try.underlying8 rfl rfl (by kernel_rfl) (by decide)
instance : TyStruct Try.prog 8 [.int .i64 0, .int .i64 0, .bool false, .int .u8 0] [(0, 1), (1, 1), (2, 1), (3, 1)] := .mk' Try.underlying8 (by kernel_rfl) (by kernel_rfl)
instance : TyOne Try.prog 9 := ⟨⟨_, Try.underlying9, rfl⟩, by kernel_rfl⟩
instance : TySize Try.prog 9 1 := ⟨by kernel_rfl⟩
instance : TyZero Try.prog 9 (.string ⟨#[]⟩) := .mk' (by kernel_rfl)
instance : TyOne Try.prog 10 := ⟨⟨_, Try.underlying10, rfl⟩, by kernel_rfl⟩
instance : TySize Try.prog 10 1 := ⟨by kernel_rfl⟩
instance : TyZero Try.prog 10 (.string ⟨#[]⟩) := .mk' (by kernel_rfl)
instance : TyOne Try.prog 11 := ⟨⟨_, Try.underlying11, rfl⟩, by kernel_rfl⟩
instance : TySize Try.prog 11 1 := ⟨by kernel_rfl⟩
instance : TyZero Try.prog 11 (.string ⟨#[]⟩) := .mk' (by kernel_rfl)
instance : TyOne Try.prog 12 := ⟨⟨_, Try.underlying12, rfl⟩, by kernel_rfl⟩
instance : TySize Try.prog 12 1 := ⟨by kernel_rfl⟩
instance : TyZero Try.prog 12 (.int .u64 0) := .mk' (by kernel_rfl)
instance : TyRow Try.prog 13 2 := ⟨⟨_, Try.underlying13, rfl⟩, by kernel_rfl⟩
instance : TySize Try.prog 13 2 := ⟨by kernel_rfl⟩
instance : TyZero Try.prog 13 (.agg #[.string ⟨#[]⟩, .int .u64 0]) := .mk' (by kernel_rfl)
instance : TyField Try.prog 13 0 0 := .mk' (n := 1) Try.underlying13 rfl rfl (by kernel_rfl) (by decide)
instance : TyField Try.prog 13 1 1 := .mk' (n := 1) Try.underlying13 rfl rfl (by kernel_rfl) (by decide)
instance : TyStruct Try.prog 13 [.string ⟨#[]⟩, .int .u64 0] [(0, 1), (1, 1)] := .mk' Try.underlying13 (by kernel_rfl) (by kernel_rfl)
instance : TyRow Try.prog 14 2 := ⟨⟨_, Try.underlying14, rfl⟩, by kernel_rfl⟩
instance : TySize Try.prog 14 2 := ⟨by kernel_rfl⟩
instance : TyZero Try.prog 14 (.agg #[.string ⟨#[]⟩, .int .u64 0]) := .mk' (by kernel_rfl)
instance : TyField Try.prog 14 0 0 := .mk' (n := 1) Try.underlying14 rfl rfl (by kernel_rfl) (by decide)
instance : TyField Try.prog 14 1 1 := .mk' (n := 1) Try.underlying14 rfl rfl (by kernel_rfl) (by decide)
instance : TyStruct Try.prog 14 [.string ⟨#[]⟩, .int .u64 0] [(0, 1), (1, 1)] := .mk' Try.underlying14 (by kernel_rfl) (by kernel_rfl)
instance : TyOne Try.prog 15 := ⟨⟨_, Try.underlying15, rfl⟩, by kernel_rfl⟩
instance : TySize Try.prog 15 1 := ⟨by kernel_rfl⟩
instance : TyOne Try.prog 16 := ⟨⟨_, Try.underlying16, rfl⟩, by kernel_rfl⟩
instance : TySize Try.prog 16 1 := ⟨by kernel_rfl⟩
instance : TyOne Try.prog 17 := ⟨⟨_, Try.underlying17, rfl⟩, by kernel_rfl⟩
instance : TySize Try.prog 17 1 := ⟨by kernel_rfl⟩
instance : TyRow Try.prog 18 1 := ⟨⟨_, Try.underlying18, rfl⟩, by kernel_rfl⟩
instance : TySize Try.prog 18 1 := ⟨by kernel_rfl⟩
instance : TyField Try.prog 18 0 0 := .mk' (n := 1) Try.underlying18 rfl rfl (by kernel_rfl) (by decide)
instance : TyRow Try.prog 19 1 := ⟨⟨_, Try.underlying19, rfl⟩, by kernel_rfl⟩
instance : TySize Try.prog 19 1 := ⟨by kernel_rfl⟩
instance : TyField Try.prog 19 0 0 := .mk' (n := 1) Try.underlying19 rfl rfl (by kernel_rfl) (by decide)
instance : TyOne Try.prog 21 := ⟨⟨_, Try.underlying21, rfl⟩, by kernel_rfl⟩
instance : TySize Try.prog 21 1 := ⟨by kernel_rfl⟩
instance : TyZero Try.prog 21 (.int .i32 0) := .mk' (by kernel_rfl)
instance : TyRow Try.prog 22 4 := ⟨⟨_, Try.underlying22, rfl⟩, by kernel_rfl⟩
instance : TySize Try.prog 22 4 := ⟨by kernel_rfl⟩
instance : TyZero Try.prog 22 (.agg #[.int .i64 0, .int .i64 0, .int .i64 0, .int .i64 0]) := .mk' (by kernel_rfl)
instance : TyField Try.prog 22 0 0 := .mk' (n := 1) Try.underlying22 rfl rfl (by kernel_rfl) (by decide)
instance : TyField Try.prog 22 1 1 := .mk' (n := 1) Try.underlying22 rfl rfl (by kernel_rfl) (by decide)
instance : TyField Try.prog 22 2 2 := .mk' (n := 1) Try.underlying22 rfl rfl (by kernel_rfl) (by decide)
instance : TyField Try.prog 22 3 3 := .mk' (n := 1) Try.underlying22 rfl rfl (by kernel_rfl) (by decide)
instance : TyStruct Try.prog 22 [.int .i64 0, .int .i64 0, .int .i64 0, .int .i64 0] [(0, 1), (1, 1), (2, 1), (3, 1)] := .mk' Try.underlying22 (by kernel_rfl) (by kernel_rfl)
instance : TyRow Try.prog 23 4 := ⟨⟨_, Try.underlying23, rfl⟩, by kernel_rfl⟩
instance : TySize Try.prog 23 4 := ⟨by kernel_rfl⟩
instance : TyZero Try.prog 23 (.agg #[.int .i64 0, .int .i64 0, .int .i64 0, .int .i64 0]) := .mk' (by kernel_rfl)
instance : TyField Try.prog 23 0 0 := .mk' (n := 1) Try.underlying23 rfl rfl (by kernel_rfl) (by decide)
instance : TyField Try.prog 23 1 1 := .mk' (n := 1) Try.underlying23 rfl rfl (by kernel_rfl) (by decide)
instance : TyField Try.prog 23 2 2 := .mk' (n := 1) Try.underlying23 rfl rfl (by kernel_rfl) (by decide)
instance : TyField Try.prog 23 3 3 := .mk' (n := 1) Try.underlying23 rfl rfl (by kernel_rfl) (by decide)
instance : TyStruct Try.prog 23 [.int .i64 0, .int .i64 0, .int .i64 0, .int .i64 0] [(0, 1), (1, 1), (2, 1), (3, 1)] := .mk' Try.underlying23 (by kernel_rfl) (by kernel_rfl)
instance : TyOne Try.prog 24 := ⟨⟨_, Try.underlying24, rfl⟩, by kernel_rfl⟩
instance : TySize Try.prog 24 1 := ⟨by kernel_rfl⟩
instance : TyZero Try.prog 24 (.slice none 0 0) := .mk' (by kernel_rfl)
instance : TySl Try.prog 24 35 7 56 := .mk' (z := (.agg #[.int .i64 0, .int .i64 0, .int .i64 0, .int .i64 0, .int .u64 0, .int .u64 0, .int .u64 0])) Try.underlying24 (by kernel_rfl) rfl (by decide) (by decide)
instance : TyOne Try.prog 26 := ⟨⟨_, Try.underlying26, rfl⟩, by kernel_rfl⟩
instance : TySize Try.prog 26 1 := ⟨by kernel_rfl⟩
instance : TyZero Try.prog 26 (.int .u64 0) := .mk' (by kernel_rfl)
instance : TyRow Try.prog 27 3 := ⟨⟨_, Try.underlying27, rfl⟩, by kernel_rfl⟩
instance : TySize Try.prog 27 3 := ⟨by kernel_rfl⟩
instance : TyZero Try.prog 27 (.agg #[.int .u64 0, .int .u64 0, .int .u64 0]) := .mk' (by kernel_rfl)
instance : TyField Try.prog 27 0 0 := .mk' (n := 1) Try.underlying27 rfl rfl (by kernel_rfl) (by decide)
instance : TyField Try.prog 27 1 1 := .mk' (n := 1) Try.underlying27 rfl rfl (by kernel_rfl) (by decide)
instance : TyField Try.prog 27 2 2 := .mk' (n := 1) Try.underlying27 rfl rfl (by kernel_rfl) (by decide)
instance : TyStruct Try.prog 27 [.int .u64 0, .int .u64 0, .int .u64 0] [(0, 1), (1, 1), (2, 1)] := .mk' Try.underlying27 (by kernel_rfl) (by kernel_rfl)
instance : TyRow Try.prog 28 3 := ⟨⟨_, Try.underlying28, rfl⟩, by kernel_rfl⟩
instance : TySize Try.prog 28 3 := ⟨by kernel_rfl⟩
instance : TyZero Try.prog 28 (.agg #[.int .u64 0, .int .u64 0, .int .u64 0]) := .mk' (by kernel_rfl)
instance : TyField Try.prog 28 0 0 := .mk' (n := 1) Try.underlying28 rfl rfl (by kernel_rfl) (by decide)
instance : TyField Try.prog 28 1 1 := .mk' (n := 1) Try.underlying28 rfl rfl (by kernel_rfl) (by decide)
instance : TyField Try.prog 28 2 2 := .mk' (n := 1) Try.underlying28 rfl rfl (by kernel_rfl) (by decide)
instance : TyStruct Try.prog 28 [.int .u64 0, .int .u64 0, .int .u64 0] [(0, 1), (1, 1), (2, 1)] := .mk' Try.underlying28 (by kernel_rfl) (by kernel_rfl)
instance : TyOne Try.prog 29 := ⟨⟨_, Try.underlying29, rfl⟩, by kernel_rfl⟩
instance : TySize Try.prog 29 1 := ⟨by kernel_rfl⟩
instance : TyZero Try.prog 29 (.int .i64 0) := .mk' (by kernel_rfl)
instance : TyRow Try.prog 34 7 := ⟨⟨_, Try.underlying34, rfl⟩, by kernel_rfl⟩
instance : TySize Try.prog 34 7 := ⟨by kernel_rfl⟩
instance : TyZero Try.prog 34 (.agg #[.int .i64 0, .int .i64 0, .int .i64 0, .int .i64 0, .int .u64 0, .int .u64 0, .int .u64 0]) := .mk' (by kernel_rfl)
instance : TyField Try.prog 34 0 0 := .mk' (n := 4) Try.underlying34 rfl rfl (by kernel_rfl) (by decide)
instance : TyField Try.prog 34 1 4 := .mk' (n := 3) Try.underlying34 rfl rfl (by kernel_rfl) (by decide)
instance : TyStruct Try.prog 34 [.int .i64 0, .int .i64 0, .int .i64 0, .int .i64 0, .int .u64 0, .int .u64 0, .int .u64 0] [(0, 4), (4, 3)] := .mk' Try.underlying34 (by kernel_rfl) (by kernel_rfl)
instance : TyRow Try.prog 35 7 := ⟨⟨_, Try.underlying35, rfl⟩, by kernel_rfl⟩
instance : TySize Try.prog 35 7 := ⟨by kernel_rfl⟩
instance : TyZero Try.prog 35 (.agg #[.int .i64 0, .int .i64 0, .int .i64 0, .int .i64 0, .int .u64 0, .int .u64 0, .int .u64 0]) := .mk' (by kernel_rfl)
instance : TyField Try.prog 35 0 0 := .mk' (n := 4) Try.underlying35 rfl rfl (by kernel_rfl) (by decide)
instance : TyField Try.prog 35 1 4 := .mk' (n := 3) Try.underlying35 rfl rfl (by kernel_rfl) (by decide)
instance : TyStruct Try.prog 35 [.int .i64 0, .int .i64 0, .int .i64 0, .int .i64 0, .int .u64 0, .int .u64 0, .int .u64 0] [(0, 4), (4, 3)] := .mk' Try.underlying35 (by kernel_rfl) (by kernel_rfl)
instance : TyOne Try.prog 39 := ⟨⟨_, Try.underlying39, rfl⟩, by kernel_rfl⟩
instance : TySize Try.prog 39 1 := ⟨by kernel_rfl⟩
instance : TyZero Try.prog 39 (.slice none 0 0) := .mk' (by kernel_rfl)
instance : TySl Try.prog 39 23 4 32 := .mk' (z := (.agg #[.int .i64 0, .int .i64 0, .int .i64 0, .int .i64 0])) Try.underlying39 (by kernel_rfl) rfl (by decide) (by decide)
instance : TyOne Try.prog 40 := ⟨⟨_, Try.underlying40, rfl⟩, by kernel_rfl⟩
instance : TySize Try.prog 40 1 := ⟨by kernel_rfl⟩
instance : TyZero Try.prog 40 (.slice none 0 0) := .mk' (by kernel_rfl)
instance : TySl Try.prog 40 3 1 8 := .mk' (z := (.int .i64 0)) Try.underlying40 (by kernel_rfl) rfl (by decide) (by decide)
instance : TyRow Try.prog 55 2 := ⟨⟨_, Try.underlying55, rfl⟩, by kernel_rfl⟩
instance : TySize Try.prog 55 2 := ⟨by kernel_rfl⟩
instance : TyZero Try.prog 55 (.agg #[.int .i64 0, .int .i64 0]) := .mk' (by kernel_rfl)
instance : TyField Try.prog 55 0 0 := .mk' (n := 1) Try.underlying55 rfl rfl (by kernel_rfl) (by decide)
instance : TyField Try.prog 55 1 1 := .mk' (n := 1) Try.underlying55 rfl rfl (by kernel_rfl) (by decide)
instance : TyStruct Try.prog 55 [.int .i64 0, .int .i64 0] [(0, 1), (1, 1)] := .mk' Try.underlying55 (by kernel_rfl) (by kernel_rfl)
instance : TyRow Try.prog 56 2 := ⟨⟨_, Try.underlying56, rfl⟩, by kernel_rfl⟩
instance : TySize Try.prog 56 2 := ⟨by kernel_rfl⟩
instance : TyZero Try.prog 56 (.agg #[.int .i64 0, .int .i64 0]) := .mk' (by kernel_rfl)
instance : TyField Try.prog 56 0 0 := .mk' (n := 1) Try.underlying56 rfl rfl (by kernel_rfl) (by decide)
instance : TyField Try.prog 56 1 1 := .mk' (n := 1) Try.underlying56 rfl rfl (by kernel_rfl) (by decide)
instance : TyStruct Try.prog 56 [.int .i64 0, .int .i64 0] [(0, 1), (1, 1)] := .mk' Try.underlying56 (by kernel_rfl) (by kernel_rfl)
instance : TyRow Try.prog 58 7 := ⟨⟨_, Try.underlying58, rfl⟩, by kernel_rfl⟩
instance : TySize Try.prog 58 7 := ⟨by kernel_rfl⟩
instance : TyZero Try.prog 58 (.agg #[.int .i64 0, .int .i64 0, .int .i64 0, .int .i64 0, .int .u64 0, .int .u64 0, .int .u64 0]) := .mk' (by kernel_rfl)
instance : TyField Try.prog 58 0 0 := .mk' (n := 4) Try.underlying58 rfl rfl (by kernel_rfl) (by decide)
instance : TyField Try.prog 58 1 4 := .mk' (n := 3) Try.underlying58 rfl rfl (by kernel_rfl) (by decide)
instance : TyStruct Try.prog 58 [.int .i64 0, .int .i64 0, .int .i64 0, .int .i64 0, .int .u64 0, .int .u64 0, .int .u64 0] [(0, 4), (4, 3)] := .mk' Try.underlying58 (by kernel_rfl) (by kernel_rfl)
instance : TyOne Try.prog 60 := ⟨⟨_, Try.underlying60, rfl⟩, by kernel_rfl⟩
instance : TySize Try.prog 60 1 := ⟨by kernel_rfl⟩
instance : TyZero Try.prog 60 (.slice none 0 0) := .mk' (by kernel_rfl)
instance : TySl Try.prog 60 58 7 56 := .mk' (z := (.agg #[.int .i64 0, .int .i64 0, .int .i64 0, .int .i64 0, .int .u64 0, .int .u64 0, .int .u64 0])) Try.underlying60 (by kernel_rfl) rfl (by decide) (by decide)
instance : TyOne Try.prog 68 := ⟨⟨_, Try.underlying68, rfl⟩, by kernel_rfl⟩
instance : TySize Try.prog 68 1 := ⟨by kernel_rfl⟩
instance : TyZero Try.prog 68 (.slice none 0 0) := .mk' (by kernel_rfl)
instance : TySl Try.prog 68 26 1 8 := .mk' (z := (.int .u64 0)) Try.underlying68 (by kernel_rfl) rfl (by decide) (by decide)
instance : TyOne Try.prog 69 := ⟨⟨_, Try.underlying69, rfl⟩, by kernel_rfl⟩
instance : TySize Try.prog 69 1 := ⟨by kernel_rfl⟩
instance : TyZero Try.prog 69 (.slice none 0 0) := .mk' (by kernel_rfl)
instance : TySl Try.prog 69 73 6 48 := .mk' (z := (.agg #[.int .i64 0, .int .i64 0, .int .i64 0, .int .i64 0, .int .i64 0, .int .i64 0])) Try.underlying69 (by kernel_rfl) rfl (by decide) (by decide)
instance : TyRow Try.prog 71 2 := ⟨⟨_, Try.underlying71, rfl⟩, by kernel_rfl⟩
instance : TySize Try.prog 71 2 := ⟨by kernel_rfl⟩
instance : TyZero Try.prog 71 (.agg #[.int .i64 0, .int .i64 0]) := .mk' (by kernel_rfl)
instance : TyArr Try.prog 71 2 3 1 := ⟨Try.underlying71, by kernel_rfl⟩
instance : TyArray Try.prog 71 [.int .i64 0, .int .i64 0] 1 := .mk' Try.underlying71 (by kernel_rfl) (by kernel_rfl)
instance : TyRow Try.prog 72 6 := ⟨⟨_, Try.underlying72, rfl⟩, by kernel_rfl⟩
instance : TySize Try.prog 72 6 := ⟨by kernel_rfl⟩
instance : TyZero Try.prog 72 (.agg #[.int .i64 0, .int .i64 0, .int .i64 0, .int .i64 0, .int .i64 0, .int .i64 0]) := .mk' (by kernel_rfl)
instance : TyField Try.prog 72 0 0 := .mk' (n := 4) Try.underlying72 rfl rfl (by kernel_rfl) (by decide)
instance : TyField Try.prog 72 1 4 := .mk' (n := 2) Try.underlying72 rfl rfl (by kernel_rfl) (by decide)
instance : TyStruct Try.prog 72 [.int .i64 0, .int .i64 0, .int .i64 0, .int .i64 0, .int .i64 0, .int .i64 0] [(0, 4), (4, 2)] := .mk' Try.underlying72 (by kernel_rfl) (by kernel_rfl)
instance : TyRow Try.prog 73 6 := ⟨⟨_, Try.underlying73, rfl⟩, by kernel_rfl⟩
instance : TySize Try.prog 73 6 := ⟨by kernel_rfl⟩
instance : TyZero Try.prog 73 (.agg #[.int .i64 0, .int .i64 0, .int .i64 0, .int .i64 0, .int .i64 0, .int .i64 0]) := .mk' (by kernel_rfl)
instance : TyField Try.prog 73 0 0 := .mk' (n := 4) Try.underlying73 rfl rfl (by kernel_rfl) (by decide)
instance : TyField Try.prog 73 1 4 := .mk' (n := 2) Try.underlying73 rfl rfl (by kernel_rfl) (by decide)
instance : TyStruct Try.prog 73 [.int .i64 0, .int .i64 0, .int .i64 0, .int .i64 0, .int .i64 0, .int .i64 0] [(0, 4), (4, 2)] := .mk' Try.underlying73 (by kernel_rfl) (by kernel_rfl)
instance : TyOne Try.prog 77 := ⟨⟨_, Try.underlying77, rfl⟩, by kernel_rfl⟩
instance : TySize Try.prog 77 1 := ⟨by kernel_rfl⟩
instance : TyZero Try.prog 77 (.slice none 0 0) := .mk' (by kernel_rfl)
instance : TySl Try.prog 77 56 2 16 := .mk' (z := (.agg #[.int .i64 0, .int .i64 0])) Try.underlying77 (by kernel_rfl) rfl (by decide) (by decide)
instance : TyOne Try.prog 89 := ⟨⟨_, Try.underlying89, rfl⟩, by kernel_rfl⟩
instance : TySize Try.prog 89 1 := ⟨by kernel_rfl⟩
instance : TyZero Try.prog 89 (.slice none 0 0) := .mk' (by kernel_rfl)
instance : TySl Try.prog 89 71 2 16 := .mk' (z := (.agg #[.int .i64 0, .int .i64 0])) Try.underlying89 (by kernel_rfl) rfl (by decide) (by decide)
instance : TyOne Try.prog 108 := ⟨⟨_, Try.underlying108, rfl⟩, by kernel_rfl⟩
instance : TySize Try.prog 108 1 := ⟨by kernel_rfl⟩
instance : TyZero Try.prog 108 (.int .u64 0) := .mk' (by kernel_rfl)
instance : TyOne Try.prog 114 := ⟨⟨_, Try.underlying114, rfl⟩, by kernel_rfl⟩
instance : TySize Try.prog 114 1 := ⟨by kernel_rfl⟩
instance : TyZero Try.prog 114 (.int .i64 0) := .mk' (by kernel_rfl)
instance : TyOne Try.prog 123 := ⟨⟨_, Try.underlying123, rfl⟩, by kernel_rfl⟩
instance : TySize Try.prog 123 1 := ⟨by kernel_rfl⟩
instance : TyZero Try.prog 123 (.int .u32 0) := .mk' (by kernel_rfl)
instance : TyOne Try.prog 125 := ⟨⟨_, Try.underlying125, rfl⟩, by kernel_rfl⟩
instance : TySize Try.prog 125 1 := ⟨by kernel_rfl⟩
instance : TyZero Try.prog 125 (.int .u64 0) := .mk' (by kernel_rfl)
instance : TyOne Try.prog 129 := ⟨⟨_, Try.underlying129, rfl⟩, by kernel_rfl⟩
instance : TySize Try.prog 129 1 := ⟨by kernel_rfl⟩
instance : TyOne Try.prog 131 := ⟨⟨_, Try.underlying131, rfl⟩, by kernel_rfl⟩
instance : TySize Try.prog 131 1 := ⟨by kernel_rfl⟩
instance : TyRow Try.prog 135 4 := ⟨⟨_, Try.underlying135, rfl⟩, by kernel_rfl⟩
instance : TySize Try.prog 135 4 := ⟨by kernel_rfl⟩
instance : TyField Try.prog 135 0 0 := .mk' (n := 1) Try.underlying135 rfl rfl (by kernel_rfl) (by decide)
instance : TyField Try.prog 135 1 1 := .mk' (n := 1) Try.underlying135 rfl rfl (by kernel_rfl) (by decide)
instance : TyField Try.prog 135 2 2 := .mk' (n := 1) Try.underlying135 rfl rfl (by kernel_rfl) (by decide)
instance : TyField Try.prog 135 3 3 := .mk' (n := 1) Try.underlying135 rfl rfl (by kernel_rfl) (by decide)
instance : TyRow Try.prog 136 4 := ⟨⟨_, Try.underlying136, rfl⟩, by kernel_rfl⟩
instance : TySize Try.prog 136 4 := ⟨by kernel_rfl⟩
instance : TyField Try.prog 136 0 0 := .mk' (n := 1) Try.underlying136 rfl rfl (by kernel_rfl) (by decide)
instance : TyField Try.prog 136 1 1 := .mk' (n := 1) Try.underlying136 rfl rfl (by kernel_rfl) (by decide)
instance : TyField Try.prog 136 2 2 := .mk' (n := 1) Try.underlying136 rfl rfl (by kernel_rfl) (by decide)
instance : TyField Try.prog 136 3 3 := .mk' (n := 1) Try.underlying136 rfl rfl (by kernel_rfl) (by decide)
instance : TyOne Try.prog 141 := ⟨⟨_, Try.underlying141, rfl⟩, by kernel_rfl⟩
instance : TySize Try.prog 141 1 := ⟨by kernel_rfl⟩
instance : TyZero Try.prog 141 (.int .u8 0) := .mk' (by kernel_rfl)
instance : TyOne Try.prog 142 := ⟨⟨_, Try.underlying142, rfl⟩, by kernel_rfl⟩
instance : TySize Try.prog 142 1 := ⟨by kernel_rfl⟩
instance : TyZero Try.prog 142 (.int .u8 0) := .mk' (by kernel_rfl)
instance : TyOne Try.prog 144 := ⟨⟨_, Try.underlying144, rfl⟩, by kernel_rfl⟩
instance : TySize Try.prog 144 1 := ⟨by kernel_rfl⟩
instance : TyOne Try.prog 145 := ⟨⟨_, Try.underlying145, rfl⟩, by kernel_rfl⟩
instance : TySize Try.prog 145 1 := ⟨by kernel_rfl⟩
instance : TyZero Try.prog 145 (.int .i32 0) := .mk' (by kernel_rfl)
instance : TyOne Try.prog 146 := ⟨⟨_, Try.underlying146, rfl⟩, by kernel_rfl⟩
instance : TySize Try.prog 146 1 := ⟨by kernel_rfl⟩
instance : TyZero Try.prog 146 (.int .i32 0) := .mk' (by kernel_rfl)
instance : TyRow Try.prog 147 11 := ⟨⟨_, Try.underlying147, rfl⟩, by kernel_rfl⟩
instance : TySize Try.prog 147 11 := ⟨by kernel_rfl⟩
instance : TyField Try.prog 147 0 0 := .mk' (n := 1) Try.underlying147 rfl rfl (by kernel_rfl) (by decide)
instance : TyField Try.prog 147 1 1 := .mk' (n := 1) Try.underlying147 rfl rfl (by kernel_rfl) (by decide)
instance : TyField Try.prog 147 2 2 := .mk' (n := 1) Try.underlying147 rfl rfl (by kernel_rfl) (by decide)
instance : TyField Try.prog 147 3 3 := .mk' (n := 1) Try.underlying147 rfl rfl (by kernel_rfl) (by decide)
instance : TyField Try.prog 147 4 4 := .mk' (n := 1) Try.underlying147 rfl rfl (by kernel_rfl) (by decide)
instance : TyField Try.prog 147 5 5 := .mk' (n := 1) Try.underlying147 rfl rfl (by kernel_rfl) (by decide)
instance : TyField Try.prog 147 6 6 := .mk' (n := 1) Try.underlying147 rfl rfl (by kernel_rfl) (by decide)
instance : TyField Try.prog 147 8 8 := .mk' (n := 1) Try.underlying147 rfl rfl (by kernel_rfl) (by decide)
instance : TyField Try.prog 147 9 9 := .mk' (n := 1) Try.underlying147 rfl rfl (by kernel_rfl) (by decide)
instance : TyField Try.prog 147 10 10 := .mk' (n := 1) Try.underlying147 rfl rfl (by kernel_rfl) (by decide)
instance : TyRow Try.prog 148 11 := ⟨⟨_, Try.underlying148, rfl⟩, by kernel_rfl⟩
instance : TySize Try.prog 148 11 := ⟨by kernel_rfl⟩
instance : TyField Try.prog 148 0 0 := .mk' (n := 1) Try.underlying148 rfl rfl (by kernel_rfl) (by decide)
instance : TyField Try.prog 148 1 1 := .mk' (n := 1) Try.underlying148 rfl rfl (by kernel_rfl) (by decide)
instance : TyField Try.prog 148 2 2 := .mk' (n := 1) Try.underlying148 rfl rfl (by kernel_rfl) (by decide)
instance : TyField Try.prog 148 3 3 := .mk' (n := 1) Try.underlying148 rfl rfl (by kernel_rfl) (by decide)
instance : TyField Try.prog 148 4 4 := .mk' (n := 1) Try.underlying148 rfl rfl (by kernel_rfl) (by decide)
instance : TyField Try.prog 148 5 5 := .mk' (n := 1) Try.underlying148 rfl rfl (by kernel_rfl) (by decide)
instance : TyField Try.prog 148 6 6 := .mk' (n := 1) Try.underlying148 rfl rfl (by kernel_rfl) (by decide)
instance : TyField Try.prog 148 8 8 := .mk' (n := 1) Try.underlying148 rfl rfl (by kernel_rfl) (by decide)
instance : TyField Try.prog 148 9 9 := .mk' (n := 1) Try.underlying148 rfl rfl (by kernel_rfl) (by decide)
instance : TyField Try.prog 148 10 10 := .mk' (n := 1) Try.underlying148 rfl rfl (by kernel_rfl) (by decide)
end Go.Proofs.Ytgljklggeopolaa
