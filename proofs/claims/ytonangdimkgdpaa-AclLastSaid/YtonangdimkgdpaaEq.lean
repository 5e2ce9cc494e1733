/- '==' and '!=' on the structures: one Bool each. -/
import Derived.Test.YtonangdimkgdpaaBase
namespace Go.Proofs.Ytonangdimkgdpaa
open Go.RowKit

theorem eql_rect (a b : Rect) (w : World) : (binOp .eql 36 (.agg #[.int .i64 a.c1, .int .i64 a.r1, .int .i64 a.c2, .int .i64 a.r2]) (.agg #[.int .i64 b.c1, .int .i64 b.r1, .int .i64 b.c2, .int .i64 b.r2])).run Try.prog w = .ok (.bool (decide (a = b))) w := by
  rcases a with ⟨⟩; rcases b with ⟨⟩
  go_simp
  (repeat' split) <;> simp_all
theorem neq_rect (a b : Rect) (w : World) : (binOp .neq 36 (.agg #[.int .i64 a.c1, .int .i64 a.r1, .int .i64 a.c2, .int .i64 a.r2]) (.agg #[.int .i64 b.c1, .int .i64 b.r1, .int .i64 b.c2, .int .i64 b.r2])).run Try.prog w = .ok (.bool (!decide (a = b))) w := by
  rcases a with ⟨⟩; rcases b with ⟨⟩
  go_simp
  (repeat' split) <;> simp_all
theorem eql_ref (a b : Ref) (w : World) : (binOp .eql 27 (.agg #[.int .i64 a.col, .int .i64 a.row]) (.agg #[.int .i64 b.col, .int .i64 b.row])).run Try.prog w = .ok (.bool (decide (a = b))) w := by
  rcases a with ⟨⟩; rcases b with ⟨⟩
  go_simp
  (repeat' split) <;> simp_all
theorem neq_ref (a b : Ref) (w : World) : (binOp .neq 27 (.agg #[.int .i64 a.col, .int .i64 a.row]) (.agg #[.int .i64 b.col, .int .i64 b.row])).run Try.prog w = .ok (.bool (!decide (a = b))) w := by
  rcases a with ⟨⟩; rcases b with ⟨⟩
  go_simp
  (repeat' split) <;> simp_all
theorem eql_rights (a b : Rights) (w : World) : (binOp .eql 24 (.agg #[.int .u64 a.read, .int .u64 a.write, .int .u64 a.own]) (.agg #[.int .u64 b.read, .int .u64 b.write, .int .u64 b.own])).run Try.prog w = .ok (.bool (decide (a = b))) w := by
  rcases a with ⟨⟩; rcases b with ⟨⟩
  go_simp
  (repeat' split) <;> simp_all <;> omega
theorem neq_rights (a b : Rights) (w : World) : (binOp .neq 24 (.agg #[.int .u64 a.read, .int .u64 a.write, .int .u64 a.own]) (.agg #[.int .u64 b.read, .int .u64 b.write, .int .u64 b.own])).run Try.prog w = .ok (.bool (!decide (a = b))) w := by
  rcases a with ⟨⟩; rcases b with ⟨⟩
  go_simp
  (repeat' split) <;> simp_all <;> omega
theorem eql_rule (a b : Rule) (w : World) : (binOp .eql 38 (.agg #[.int .i64 a.rect.c1, .int .i64 a.rect.r1, .int .i64 a.rect.c2, .int .i64 a.rect.r2, .int .u64 a.rights.read, .int .u64 a.rights.write, .int .u64 a.rights.own]) (.agg #[.int .i64 b.rect.c1, .int .i64 b.rect.r1, .int .i64 b.rect.c2, .int .i64 b.rect.r2, .int .u64 b.rights.read, .int .u64 b.rights.write, .int .u64 b.rights.own])).run Try.prog w = .ok (.bool (decide (a = b))) w := by
  rcases a with ⟨⟨⟩, ⟨⟩⟩; rcases b with ⟨⟨⟩, ⟨⟩⟩
  go_simp
  (repeat' split) <;> simp_all <;> omega
theorem neq_rule (a b : Rule) (w : World) : (binOp .neq 38 (.agg #[.int .i64 a.rect.c1, .int .i64 a.rect.r1, .int .i64 a.rect.c2, .int .i64 a.rect.r2, .int .u64 a.rights.read, .int .u64 a.rights.write, .int .u64 a.rights.own]) (.agg #[.int .i64 b.rect.c1, .int .i64 b.rect.r1, .int .i64 b.rect.c2, .int .i64 b.rect.r2, .int .u64 b.rights.read, .int .u64 b.rights.write, .int .u64 b.rights.own])).run Try.prog w = .ok (.bool (!decide (a = b))) w := by
  rcases a with ⟨⟨⟩, ⟨⟩⟩; rcases b with ⟨⟨⟩, ⟨⟩⟩
  go_simp
  (repeat' split) <;> simp_all <;> omega
end Go.Proofs.Ytonangdimkgdpaa
