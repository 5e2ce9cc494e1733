/- The walks of the functions on sets of users and of the checks. -/
import Derived.Test.YtfacimebfdeaeaaF2
import Derived.Test.YtfacimebfdeaeaaAclMath
namespace Go.Proofs.Ytfacimebfdeaeaa
open Pv Go.RowKit

set_option maxRecDepth 100000 in
theorem runBits {op : BinOp} {t : TypeId} {x y : Operand} {a b c : Int} (h : op = .and ∨ op = .or ∨ op = .xor ∨ op = .andNot) (e : bits op .u64 a b = c) : BinRun Try.prog op t x y (.int .u64 a) (.int .u64 b) (.int .u64 c) := by
  subst e
  have := BinRun.bits (P := Try.prog) (t := t) (x := x) (y := y) (k := .u64) (a := a) (b := b) h
  rcases h with rfl | rfl | rfl | rfl <;> exact this
set_option maxRecDepth 100000 in
theorem all_shl {n : Int} (h0 : 0 ≤ n) (h : n ≤ 64) : IntKind.u64.wrap (IntKind.u64.wrap (1 * 2 ^ (min n.toNat IntKind.u64.bits)) - 1) = (allN n : Int) := by
  rw [show min n.toNat IntKind.u64.bits = n.toNat from Nat.min_eq_left (by show n.toNat ≤ 64; omega)]
  unfold allN
  have hp : 1 ≤ 2 ^ n.toNat := Nat.one_le_two_pow
  have hle : 2 ^ n.toNat ≤ 2 ^ 64 := Nat.pow_le_pow_right (by omega) (by omega)
  rw [IntKind.wrap_u64, IntKind.wrap_u64]
  have hc : (1 : Int) * (2 : Int) ^ n.toNat = ((2 ^ n.toNat : Nat) : Int) := by simp
  rw [hc]
  generalize 2 ^ n.toNat = x at *
  omega
set_option maxRecDepth 100000 in
theorem groupAll (n : Int) (h : 0 ≤ n ∧ n ≤ 64) : Pure Try.prog 54 [.v (.int .i64 n)] (.tup [.v (.int .u64 (allN n)), .v (.int .i64 0)]) := by
  refine pure_of_wt Try.func54 rfl (by decide) _ Try.ntmps54 rfl Try.results54 fun w0 => ?_
  repeat' (first
    | (apply RunK.bin; exact rfl; exact rfl; exact rfl; exact BinRun.shl (by omega)) | (apply RunK.bin; exact rfl; exact rfl; exact rfl; exact BinRun.sub)
    | refine Wt.seq ?_
    | (apply Wt.regionK; exact rfl)
    | refine Wt.ret ?_
    | refine Wt.skip ?_
    | refine RunK.nil ?_
    | (apply RunK.moveV; exact rfl; exact rfl)
    | (apply RunK.assignV; exact rfl; exact rfl)
    | (apply RunK.pickF; exact rfl; exact rfl; exact rfl)
    | (apply RunK.lss; exact rfl; exact rfl; exact rfl)
    | (apply RunK.gtr; exact rfl; exact rfl; exact rfl)
    | (apply RunK.guard; exact rfl; exact rfl; exact rfl; all_goals (intro hg; (first | exact absurd hg (by decide) | skip); (first | (with_reducible replace hg := not_t hg) | (with_reducible replace hg := not_f hg) | skip); (first | (with_reducible replace hg := dec_t hg) | (with_reducible replace hg := dec_f hg) | skip); (first | (with_reducible exact absurd rfl hg) | skip); (repeat rw [List.length_map] at hg); try (exfalso; omega)))
    | (apply Wt.cond; exact rfl; all_goals (intro hg; (first | exact absurd hg (by decide) | skip); (first | (with_reducible replace hg := not_t hg) | (with_reducible replace hg := not_f hg) | skip); (first | (with_reducible replace hg := dec_t hg) | (with_reducible replace hg := dec_f hg) | skip); (first | (with_reducible exact absurd rfl hg) | skip); (repeat rw [List.length_map] at hg); try (exfalso; omega))))
  apply ResOk.vv; exact rfl; exact int_v (all_shl h.1 h.2); exact rfl; exact rfl
set_option maxRecDepth 100000 in
theorem groupAllX (n : Int) (h : ¬(0 ≤ n ∧ n ≤ 64)) : Pure Try.prog 54 [.v (.int .i64 n)] (.tup [.v (.int .u64 0), .v (.int .i64 3)]) := by
  refine pure_of_wt Try.func54 rfl (by decide) _ Try.ntmps54 rfl Try.results54 fun w0 => ?_
  repeat' (first
    | refine Wt.seq ?_
    | (apply Wt.regionK; exact rfl)
    | refine Wt.ret ?_
    | refine RunK.nil ?_
    | (apply RunK.moveV; exact rfl; exact rfl)
    | (apply RunK.assignV; exact rfl; exact rfl)
    | (apply RunK.pickT; exact rfl; exact rfl; exact rfl)
    | (apply RunK.pickF; exact rfl; exact rfl; exact rfl)
    | (apply RunK.lss; exact rfl; exact rfl; exact rfl)
    | (apply RunK.gtr; exact rfl; exact rfl; exact rfl)
    | (apply RunK.skip; exact rfl; exact rfl)
    | (apply RunK.guard; exact rfl; exact rfl; exact rfl; all_goals (intro hg; (first | exact absurd hg (by decide) | skip); (first | (with_reducible replace hg := not_t hg) | (with_reducible replace hg := not_f hg) | skip); (first | (with_reducible replace hg := dec_t hg) | (with_reducible replace hg := dec_f hg) | skip); (first | (with_reducible exact absurd rfl hg) | skip); (repeat rw [List.length_map] at hg); try (exfalso; omega)))
    | (apply Wt.cond; exact rfl; all_goals (intro hg; (first | exact absurd hg (by decide) | skip); (first | (with_reducible replace hg := not_t hg) | (with_reducible replace hg := not_f hg) | skip); (first | (with_reducible replace hg := dec_t hg) | (with_reducible replace hg := dec_f hg) | skip); (first | (with_reducible exact absurd rfl hg) | skip); (repeat rw [List.length_map] at hg); try (exfalso; omega))))
  all_goals (apply ResOk.vv; exact rfl; exact rfl; exact rfl; exact rfl)
end Go.Proofs.Ytfacimebfdeaeaa
