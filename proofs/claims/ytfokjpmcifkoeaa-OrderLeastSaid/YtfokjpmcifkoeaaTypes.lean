/- What the program says of its types, as the machine asks it. Written by a program for this seat. No condition. -/
import Derived.Test.YtfokjpmcifkoeaaPv
import Derived.Test.YtfokjpmcifkoeaaProg
namespace Go.Proofs.Ytfokjpmcifkoeaa
open Pv
instance : TyOne Try.prog 2 := ⟨⟨_, Try.underlying2, rfl⟩, by kernel_rfl⟩
instance : TySize Try.prog 2 1 := ⟨by kernel_rfl⟩
instance : TyZero Try.prog 2 (.int .i64 0) := .mk' (by kernel_rfl)
instance : TyOne Try.prog 3 := ⟨⟨_, Try.underlying3, rfl⟩, by kernel_rfl⟩
instance : TySize Try.prog 3 1 := ⟨by kernel_rfl⟩
instance : TyZero Try.prog 3 (.int .i64 0) := .mk' (by kernel_rfl)
instance : TyOne Try.prog 4 := ⟨⟨_, Try.underlying4, rfl⟩, by kernel_rfl⟩
instance : TySize Try.prog 4 1 := ⟨by kernel_rfl⟩
instance : TyZero Try.prog 4 (.bool false) := .mk' (by kernel_rfl)
instance : TyOne Try.prog 5 := ⟨⟨_, Try.underlying5, rfl⟩, by kernel_rfl⟩
instance : TySize Try.prog 5 1 := ⟨by kernel_rfl⟩
instance : TyZero Try.prog 5 (.int .u8 0) := .mk' (by kernel_rfl)
instance : TyOne Try.prog 6 := ⟨⟨_, Try.underlying6, rfl⟩, by kernel_rfl⟩
instance : TySize Try.prog 6 1 := ⟨by kernel_rfl⟩
instance : TyZero Try.prog 6 (.int .u8 0) := .mk' (by kernel_rfl)
instance : TyRow Try.prog 7 4 := ⟨⟨_, Try.underlying7, rfl⟩, by kernel_rfl⟩
instance : TySize Try.prog 7 4 := ⟨by kernel_rfl⟩
instance : TyZero Try.prog 7 (.agg #[.int .i64 0, .int .i64 0, .bool false, .int .u8 0]) := .mk' (by kernel_rfl)
instance : TyField Try.prog 7 0 0 := .mk' (n := 1) Try.underlying7 rfl rfl (by kernel_rfl) (by decide)
instance : TyField Try.prog 7 1 1 := .mk' (n := 1) Try.underlying7 rfl rfl (by kernel_rfl) (by decide)
instance : TyField Try.prog 7 2 2 := .mk' (n := 1) Try.underlying7 rfl rfl (by kernel_rfl) (by decide)
instance : TyField Try.prog 7 3 3 := .mk' (n := 1) Try.underlying7 rfl rfl (by kernel_rfl) (by decide)
instance : TyStruct Try.prog 7 [.int .i64 0, .int .i64 0, .bool false, .int .u8 0] [(0, 1), (1, 1), (2, 1), (3, 1)] := .mk' Try.underlying7 (by kernel_rfl) (by kernel_rfl)
instance : TyRow Try.prog 8 4 := ⟨⟨_, Try.underlying8, rfl⟩, by kernel_rfl⟩
instance : TySize Try.prog 8 4 := ⟨by kernel_rfl⟩
instance : TyZero Try.prog 8 (.agg #[.int .i64 0, .int .i64 0, .bool false, .int .u8 0]) := .mk' (by kernel_rfl)
instance : TyField Try.prog 8 0 0 := .mk' (n := 1) Try.underlying8 rfl rfl (by kernel_rfl) (by decide)
instance : TyField Try.prog 8 1 1 := .mk' (n := 1) Try.underlying8 rfl rfl (by kernel_rfl) (by decide)
instance : TyField Try.prog 8 2 2 := .mk' (n := 1) Try.underlying8 rfl rfl (by kernel_rfl) (by decide)
instance : TyField Try.prog 8 3 3 := .mk' (n := 1) Try.underlying8 rfl rfl (by kernel_rfl) (by decide)
instance : TyStruct Try.prog 8 [.int .i64 0, .int .i64 0, .bool false, .int .u8 0] [(0, 1), (1, 1), (2, 1), (3, 1)] := .mk' Try.underlying8 (by kernel_rfl) (by kernel_rfl)
instance : TyOne Try.prog 9 := ⟨⟨_, Try.underlying9, rfl⟩, by kernel_rfl⟩
instance : TySize Try.prog 9 1 := ⟨by kernel_rfl⟩
instance : TyZero Try.prog 9 (.string ⟨#[]⟩) := .mk' (by kernel_rfl)
instance : TyOne Try.prog 10 := ⟨⟨_, Try.underlying10, rfl⟩, by kernel_rfl⟩
instance : TySize Try.prog 10 1 := ⟨by kernel_rfl⟩
instance : TyZero Try.prog 10 (.string ⟨#[]⟩) := .mk' (by kernel_rfl)
instance : TyOne Try.prog 11 := ⟨⟨_, Try.underlying11, rfl⟩, by kernel_rfl⟩
instance : TySize Try.prog 11 1 := ⟨by kernel_rfl⟩
instance : TyZero Try.prog 11 (.string ⟨#[]⟩) := .mk' (by kernel_rfl)
instance : TyOne Try.prog 12 := ⟨⟨_, Try.underlying12, rfl⟩, by kernel_rfl⟩
instance : TySize Try.prog 12 1 := ⟨by kernel_rfl⟩
instance : TyZero Try.prog 12 (.int .u64 0) := .mk' (by kernel_rfl)
instance : TyRow Try.prog 13 2 := ⟨⟨_, Try.underlying13, rfl⟩, by kernel_rfl⟩
instance : TySize Try.prog 13 2 := ⟨by kernel_rfl⟩
instance : TyZero Try.prog 13 (.agg #[.string ⟨#[]⟩, .int .u64 0]) := .mk' (by kernel_rfl)
instance : TyField Try.prog 13 0 0 := .mk' (n := 1) Try.underlying13 rfl rfl (by kernel_rfl) (by decide)
instance : TyField Try.prog 13 1 1 := .mk' (n := 1) Try.underlying13 rfl rfl (by kernel_rfl) (by decide)
instance : TyStruct Try.prog 13 [.string ⟨#[]⟩, .int .u64 0] [(0, 1), (1, 1)] := .mk' Try.underlying13 (by kernel_rfl) (by kernel_rfl)
instance : TyRow Try.prog 14 2 := ⟨⟨_, Try.underlying14, rfl⟩, by kernel_rfl⟩
instance : TySize Try.prog 14 2 := ⟨by kernel_rfl⟩
instance : TyZero Try.prog 14 (.agg #[.string ⟨#[]⟩, .int .u64 0]) := .mk' (by kernel_rfl)
instance : TyField Try.prog 14 0 0 := .mk' (n := 1) Try.underlying14 rfl rfl (by kernel_rfl) (by decide)
instance : TyField Try.prog 14 1 1 := .mk' (n := 1) Try.underlying14 rfl rfl (by kernel_rfl) (by decide)
instance : TyStruct Try.prog 14 [.string ⟨#[]⟩, .int .u64 0] [(0, 1), (1, 1)] := .mk' Try.underlying14 (by kernel_rfl) (by kernel_rfl)
instance : TyOne Try.prog 15 := ⟨⟨_, Try.underlying15, rfl⟩, by kernel_rfl⟩
instance : TySize Try.prog 15 1 := ⟨by kernel_rfl⟩
instance : TyOne Try.prog 16 := ⟨⟨_, Try.underlying16, rfl⟩, by kernel_rfl⟩
instance : TySize Try.prog 16 1 := ⟨by kernel_rfl⟩
instance : TyOne Try.prog 17 := ⟨⟨_, Try.underlying17, rfl⟩, by kernel_rfl⟩
instance : TySize Try.prog 17 1 := ⟨by kernel_rfl⟩
instance : TyRow Try.prog 18 1 := ⟨⟨_, Try.underlying18, rfl⟩, by kernel_rfl⟩
instance : TySize Try.prog 18 1 := ⟨by kernel_rfl⟩
instance : TyField Try.prog 18 0 0 := .mk' (n := 1) Try.underlying18 rfl rfl (by kernel_rfl) (by decide)
instance : TyRow Try.prog 19 1 := ⟨⟨_, Try.underlying19, rfl⟩, by kernel_rfl⟩
instance : TySize Try.prog 19 1 := ⟨by kernel_rfl⟩
instance : TyField Try.prog 19 0 0 := .mk' (n := 1) Try.underlying19 rfl rfl (by kernel_rfl) (by decide)
instance : TyOne Try.prog 21 := ⟨⟨_, Try.underlying21, rfl⟩, by kernel_rfl⟩
instance : TySize Try.prog 21 1 := ⟨by kernel_rfl⟩
instance : TyZero Try.prog 21 (.int .i32 0) := .mk' (by kernel_rfl)
instance : TyOne Try.prog 22 := ⟨⟨_, Try.underlying22, rfl⟩, by kernel_rfl⟩
instance : TySize Try.prog 22 1 := ⟨by kernel_rfl⟩
instance : TyZero Try.prog 22 (.slice none 0 0) := .mk' (by kernel_rfl)
instance : TySl Try.prog 22 23 1 24 := .mk' (z := (.slice none 0 0)) Try.underlying22 (by kernel_rfl) rfl (by decide) (by decide)
instance : TyOne Try.prog 23 := ⟨⟨_, Try.underlying23, rfl⟩, by kernel_rfl⟩
instance : TySize Try.prog 23 1 := ⟨by kernel_rfl⟩
instance : TyZero Try.prog 23 (.slice none 0 0) := .mk' (by kernel_rfl)
instance : TySl Try.prog 23 3 1 8 := .mk' (z := (.int .i64 0)) Try.underlying23 (by kernel_rfl) rfl (by decide) (by decide)
instance : TyOne Try.prog 25 := ⟨⟨_, Try.underlying25, rfl⟩, by kernel_rfl⟩
instance : TySize Try.prog 25 1 := ⟨by kernel_rfl⟩
instance : TyZero Try.prog 25 (.int .i64 0) := .mk' (by kernel_rfl)
instance : TyOne Try.prog 41 := ⟨⟨_, Try.underlying41, rfl⟩, by kernel_rfl⟩
instance : TySize Try.prog 41 1 := ⟨by kernel_rfl⟩
instance : TyZero Try.prog 41 (.slice none 0 0) := .mk' (by kernel_rfl)
instance : TySl Try.prog 41 42 1 24 := .mk' (z := (.slice none 0 0)) Try.underlying41 (by kernel_rfl) rfl (by decide) (by decide)
instance : TyOne Try.prog 42 := ⟨⟨_, Try.underlying42, rfl⟩, by kernel_rfl⟩
instance : TySize Try.prog 42 1 := ⟨by kernel_rfl⟩
instance : TyZero Try.prog 42 (.slice none 0 0) := .mk' (by kernel_rfl)
instance : TySl Try.prog 42 4 1 1 := .mk' (z := (.bool false)) Try.underlying42 (by kernel_rfl) rfl (by decide) (by decide)
instance : TyOne Try.prog 49 := ⟨⟨_, Try.underlying49, rfl⟩, by kernel_rfl⟩
instance : TySize Try.prog 49 1 := ⟨by kernel_rfl⟩
instance : TyZero Try.prog 49 (.slice none 0 0) := .mk' (by kernel_rfl)
instance : TySl Try.prog 49 22 1 24 := .mk' (z := (.slice none 0 0)) Try.underlying49 (by kernel_rfl) rfl (by decide) (by decide)
instance : TyOne Try.prog 52 := ⟨⟨_, Try.underlying52, rfl⟩, by kernel_rfl⟩
instance : TySize Try.prog 52 1 := ⟨by kernel_rfl⟩
instance : TyZero Try.prog 52 (.slice none 0 0) := .mk' (by kernel_rfl)
instance : TySl Try.prog 52 3 1 8 := .mk' (z := (.int .i64 0)) Try.underlying52 (by kernel_rfl) rfl (by decide) (by decide)
instance : TyOne Try.prog 53 := ⟨⟨_, Try.underlying53, rfl⟩, by kernel_rfl⟩
instance : TySize Try.prog 53 1 := ⟨by kernel_rfl⟩
instance : TyOne Try.prog 54 := ⟨⟨_, Try.underlying54, rfl⟩, by kernel_rfl⟩
instance : TySize Try.prog 54 1 := ⟨by kernel_rfl⟩
instance : TyZero Try.prog 54 (.slice none 0 0) := .mk' (by kernel_rfl)
instance : TySl Try.prog 54 3 1 8 := .mk' (z := (.int .i64 0)) Try.underlying54 (by kernel_rfl) rfl (by decide) (by decide)
instance : TyOne Try.prog 77 := ⟨⟨_, Try.underlying77, rfl⟩, by kernel_rfl⟩
instance : TySize Try.prog 77 1 := ⟨by kernel_rfl⟩
instance : TyZero Try.prog 77 (.int .u64 0) := .mk' (by kernel_rfl)
instance : TyOne Try.prog 81 := ⟨⟨_, Try.underlying81, rfl⟩, by kernel_rfl⟩
instance : TySize Try.prog 81 1 := ⟨by kernel_rfl⟩
instance : TyZero Try.prog 81 (.int .i64 0) := .mk' (by kernel_rfl)
instance : TyOne Try.prog 89 := ⟨⟨_, Try.underlying89, rfl⟩, by kernel_rfl⟩
instance : TySize Try.prog 89 1 := ⟨by kernel_rfl⟩
instance : TyZero Try.prog 89 (.int .u32 0) := .mk' (by kernel_rfl)
instance : TyOne Try.prog 91 := ⟨⟨_, Try.underlying91, rfl⟩, by kernel_rfl⟩
instance : TySize Try.prog 91 1 := ⟨by kernel_rfl⟩
instance : TyZero Try.prog 91 (.int .u64 0) := .mk' (by kernel_rfl)
instance : TyOne Try.prog 97 := ⟨⟨_, Try.underlying97, rfl⟩, by kernel_rfl⟩
instance : TySize Try.prog 97 1 := ⟨by kernel_rfl⟩
instance : TyZero Try.prog 97 (.int .u64 0) := .mk' (by kernel_rfl)
instance : TyOne Try.prog 101 := ⟨⟨_, Try.underlying101, rfl⟩, by kernel_rfl⟩
instance : TySize Try.prog 101 1 := ⟨by kernel_rfl⟩
instance : TyOne Try.prog 105 := ⟨⟨_, Try.underlying105, rfl⟩, by kernel_rfl⟩
instance : TySize Try.prog 105 1 := ⟨by kernel_rfl⟩
instance : TyRow Try.prog 110 4 := ⟨⟨_, Try.underlying110, rfl⟩, by kernel_rfl⟩
instance : TySize Try.prog 110 4 := ⟨by kernel_rfl⟩
instance : TyField Try.prog 110 0 0 := .mk' (n := 1) Try.underlying110 rfl rfl (by kernel_rfl) (by decide)
instance : TyField Try.prog 110 1 1 := .mk' (n := 1) Try.underlying110 rfl rfl (by kernel_rfl) (by decide)
instance : TyField Try.prog 110 2 2 := .mk' (n := 1) Try.underlying110 rfl rfl (by kernel_rfl) (by decide)
instance : TyField Try.prog 110 3 3 := .mk' (n := 1) Try.underlying110 rfl rfl (by kernel_rfl) (by decide)
instance : TyRow Try.prog 111 4 := ⟨⟨_, Try.underlying111, rfl⟩, by kernel_rfl⟩
instance : TySize Try.prog 111 4 := ⟨by kernel_rfl⟩
instance : TyField Try.prog 111 0 0 := .mk' (n := 1) Try.underlying111 rfl rfl (by kernel_rfl) (by decide)
instance : TyField Try.prog 111 1 1 := .mk' (n := 1) Try.underlying111 rfl rfl (by kernel_rfl) (by decide)
instance : TyField Try.prog 111 2 2 := .mk' (n := 1) Try.underlying111 rfl rfl (by kernel_rfl) (by decide)
instance : TyField Try.prog 111 3 3 := .mk' (n := 1) Try.underlying111 rfl rfl (by kernel_rfl) (by decide)
instance : TyOne Try.prog 115 := ⟨⟨_, Try.underlying115, rfl⟩, by kernel_rfl⟩
instance : TySize Try.prog 115 1 := ⟨by kernel_rfl⟩
instance : TyZero Try.prog 115 (.int .u8 0) := .mk' (by kernel_rfl)
instance : TyOne Try.prog 116 := ⟨⟨_, Try.underlying116, rfl⟩, by kernel_rfl⟩
instance : TySize Try.prog 116 1 := ⟨by kernel_rfl⟩
instance : TyZero Try.prog 116 (.int .u8 0) := .mk' (by kernel_rfl)
instance : TyOne Try.prog 118 := ⟨⟨_, Try.underlying118, rfl⟩, by kernel_rfl⟩
instance : TySize Try.prog 118 1 := ⟨by kernel_rfl⟩
instance : TyOne Try.prog 119 := ⟨⟨_, Try.underlying119, rfl⟩, by kernel_rfl⟩
instance : TySize Try.prog 119 1 := ⟨by kernel_rfl⟩
instance : TyZero Try.prog 119 (.int .i32 0) := .mk' (by kernel_rfl)
instance : TyOne Try.prog 120 := ⟨⟨_, Try.underlying120, rfl⟩, by kernel_rfl⟩
instance : TySize Try.prog 120 1 := ⟨by kernel_rfl⟩
instance : TyZero Try.prog 120 (.int .i32 0) := .mk' (by kernel_rfl)
instance : TyRow Try.prog 121 11 := ⟨⟨_, Try.underlying121, rfl⟩, by kernel_rfl⟩
instance : TySize Try.prog 121 11 := ⟨by kernel_rfl⟩
instance : TyField Try.prog 121 0 0 := .mk' (n := 1) Try.underlying121 rfl rfl (by kernel_rfl) (by decide)
instance : TyField Try.prog 121 1 1 := .mk' (n := 1) Try.underlying121 rfl rfl (by kernel_rfl) (by decide)
instance : TyField Try.prog 121 2 2 := .mk' (n := 1) Try.underlying121 rfl rfl (by kernel_rfl) (by decide)
instance : TyField Try.prog 121 3 3 := .mk' (n := 1) Try.underlying121 rfl rfl (by kernel_rfl) (by decide)
instance : TyField Try.prog 121 4 4 := .mk' (n := 1) Try.underlying121 rfl rfl (by kernel_rfl) (by decide)
instance : TyField Try.prog 121 5 5 := .mk' (n := 1) Try.underlying121 rfl rfl (by kernel_rfl) (by decide)
instance : TyField Try.prog 121 6 6 := .mk' (n := 1) Try.underlying121 rfl rfl (by kernel_rfl) (by decide)
instance : TyField Try.prog 121 8 8 := .mk' (n := 1) Try.underlying121 rfl rfl (by kernel_rfl) (by decide)
instance : TyField Try.prog 121 9 9 := .mk' (n := 1) Try.underlying121 rfl rfl (by kernel_rfl) (by decide)
instance : TyField Try.prog 121 10 10 := .mk' (n := 1) Try.underlying121 rfl rfl (by kernel_rfl) (by decide)
instance : TyRow Try.prog 122 11 := ⟨⟨_, Try.underlying122, rfl⟩, by kernel_rfl⟩
instance : TySize Try.prog 122 11 := ⟨by kernel_rfl⟩
instance : TyField Try.prog 122 0 0 := .mk' (n := 1) Try.underlying122 rfl rfl (by kernel_rfl) (by decide)
instance : TyField Try.prog 122 1 1 := .mk' (n := 1) Try.underlying122 rfl rfl (by kernel_rfl) (by decide)
instance : TyField Try.prog 122 2 2 := .mk' (n := 1) Try.underlying122 rfl rfl (by kernel_rfl) (by decide)
instance : TyField Try.prog 122 3 3 := .mk' (n := 1) Try.underlying122 rfl rfl (by kernel_rfl) (by decide)
instance : TyField Try.prog 122 4 4 := .mk' (n := 1) Try.underlying122 rfl rfl (by kernel_rfl) (by decide)
instance : TyField Try.prog 122 5 5 := .mk' (n := 1) Try.underlying122 rfl rfl (by kernel_rfl) (by decide)
instance : TyField Try.prog 122 6 6 := .mk' (n := 1) Try.underlying122 rfl rfl (by kernel_rfl) (by decide)
instance : TyField Try.prog 122 8 8 := .mk' (n := 1) Try.underlying122 rfl rfl (by kernel_rfl) (by decide)
instance : TyField Try.prog 122 9 9 := .mk' (n := 1) Try.underlying122 rfl rfl (by kernel_rfl) (by decide)
instance : TyField Try.prog 122 10 10 := .mk' (n := 1) Try.underlying122 rfl rfl (by kernel_rfl) (by decide)
end Go.Proofs.Ytfokjpmcifkoeaa
