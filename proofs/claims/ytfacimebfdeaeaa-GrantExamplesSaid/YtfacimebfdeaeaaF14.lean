/- The walks of group.Has, region.May and their references. -/
import Derived.Test.YtfacimebfdeaeaaF13
import Derived.Test.YtfacimebfdeaeaaPvD
namespace Go.Proofs.Ytfacimebfdeaeaa
open Pv Go.RowKit

def userB (u : Int) : Bool := decide (0 ≤ u ∧ u < 64)
def hasS (s : Nat) (u : Int) : Bool := userB u && s.testBit u.toNat
set_option maxRecDepth 100000 in
theorem shr_bit {s : Nat} {u : Int} (h : 0 ≤ u) (h2 : u < 64) : (s : Int).fdiv (2 ^ (min u.toNat IntKind.u64.bits)) = ((s / 2 ^ u.toNat : Nat) : Int) := by
  rw [show min u.toNat IntKind.u64.bits = u.toNat from Nat.min_eq_left (by show u.toNat ≤ 64; omega)]
  have hc : (2 : Int) ^ u.toNat = ((2 ^ u.toNat : Nat) : Int) := by simp
  rw [hc, Int.fdiv_eq_ediv_of_nonneg _ (Int.natCast_nonneg _)]
  rfl
set_option maxRecDepth 100000 in
theorem one_bit {s : Nat} (hs : s < 18446744073709551616) (n : Nat) : bits .and .u64 ((s / 2 ^ n : Nat) : Int) 1 = (((s.testBit n).toNat : Nat) : Int) := by
  have h1 : s / 2 ^ n < 18446744073709551616 := Nat.lt_of_le_of_lt (Nat.div_le_self ..) hs
  have := u64_and_nat (s / 2 ^ n) 1 h1 (by decide)
  rw [show ((1 : Nat) : Int) = 1 from rfl] at this
  rw [this, Nat.and_one_is_mod, Nat.testBit_eq_decide_div_mod_eq]
  have h2 : s / 2 ^ n % 2 < 2 := Nat.mod_lt _ (by decide)
  rcases Nat.lt_or_ge (s / 2 ^ n % 2) 1 with h | h
  · rw [show s / 2 ^ n % 2 = 0 by omega]; rfl
  · rw [show s / 2 ^ n % 2 = 1 by omega]; rfl
set_option maxRecDepth 100000 in
theorem groupHas (s : Nat) (hs : s < 18446744073709551616) (u : Int) : Pure Try.prog 56 [.v (.int .u64 s), .v (.int .i64 u)] (.s (.v (.bool (hasS s u)))) := by
  by_cases hu : 0 ≤ u ∧ u < 64
  · have h1 : ∀ t o o2, BinRun Try.prog .shr t o o2 (.int .u64 (s : Int)) (.int .i64 u) (.int .u64 ((s / 2 ^ u.toNat : Nat) : Int)) := fun t o o2 => by
      have := BinRun.shr (P := Try.prog) (t := t) (x := o) (y := o2) (k := .u64) (k' := .i64) (a := (s : Int)) hu.1
      rwa [shr_bit hu.1 hu.2] at this
    have h2 : ∀ t o o2, BinRun Try.prog .and t o o2 (.int .u64 ((s / 2 ^ u.toNat : Nat) : Int)) (.int .u64 1) (.int .u64 (((s.testBit u.toNat).toNat : Nat) : Int)) := fun t o o2 => runBits (.inl rfl) (one_bit hs _)
    have hb : hasS s u = s.testBit u.toNat := by unfold hasS userB; rw [decide_eq_true hu]; rfl
    rw [hb]
    generalize s.testBit u.toNat = b at *
    refine pure_of_wt Try.func56 rfl (by decide) _ Try.ntmps56 rfl Try.results56 fun w0 => ?_
    repeat' (first
    | (apply RunK.bin; exact rfl; exact rfl; exact rfl; first | exact h1 _ _ _ | exact h2 _ _ _)
    | refine Wt.seq ?_
    | (apply Wt.regionK; exact rfl)
    | refine Wt.ret ?_
    | refine RunK.nil ?_
    | (apply RunK.moveV; exact rfl; exact rfl)
    | (apply RunK.assignV; exact rfl; exact rfl)
    | (apply RunK.pickT; exact rfl; exact rfl; exact rfl)
    | (apply RunK.geq; exact rfl; exact rfl; exact rfl)
    | (apply RunK.lss; exact rfl; exact rfl; exact rfl)
    | (apply RunK.eql; exact rfl; exact rfl; exact rfl)
    | (apply RunK.guard; exact rfl; exact rfl; exact rfl; all_goals (intro hg; (first | exact absurd hg (by decide) | skip); (first | (with_reducible replace hg := not_t hg) | (with_reducible replace hg := not_f hg) | skip); (first | (with_reducible replace hg := dec_t hg) | (with_reducible replace hg := dec_f hg) | skip); (first | (with_reducible exact absurd rfl hg) | skip); (repeat rw [List.length_map] at hg); try (exfalso; omega))))
    all_goals (apply ResOk.v1; exact rfl; refine bool_v ?_; cases b <;> simp)
  · have hb : hasS s u = false := by unfold hasS userB; rw [decide_eq_false hu]; rfl
    rw [hb]
    refine pure_of_wt Try.func56 rfl (by decide) _ Try.ntmps56 rfl Try.results56 fun w0 => ?_
    repeat' (first
    | refine Wt.seq ?_
    | (apply Wt.regionK; exact rfl)
    | refine Wt.ret ?_
    | refine RunK.nil ?_
    | (apply RunK.moveV; exact rfl; exact rfl)
    | (apply RunK.assignV; exact rfl; exact rfl)
    | (apply RunK.pickT; exact rfl; exact rfl; exact rfl)
    | (apply RunK.pickF; exact rfl; exact rfl; exact rfl)
    | (apply RunK.geq; exact rfl; exact rfl; exact rfl)
    | (apply RunK.lss; exact rfl; exact rfl; exact rfl)
    | (apply RunK.skip; exact rfl; exact rfl)
    | (apply RunK.guard; exact rfl; exact rfl; exact rfl; all_goals (intro hg; (first | exact absurd hg (by decide) | skip); (first | (with_reducible replace hg := not_t hg) | (with_reducible replace hg := not_f hg) | skip); (first | (with_reducible replace hg := dec_t hg) | (with_reducible replace hg := dec_f hg) | skip); (first | (with_reducible exact absurd rfl hg) | skip); (repeat rw [List.length_map] at hg); try (exfalso; omega))))
    all_goals (apply ResOk.v1; exact rfl; exact rfl)
set_option maxRecDepth 100000 in
theorem overS_bd {r : Rect} {l : List Rule} : (overS r l).1.write < 18446744073709551616 ∧ (overS r l).1.own < 18446744073709551616 := by
  unfold overS
  split
  · exact ⟨overG_lt (g := Rights.write), overG_lt (g := Rights.own)⟩
  · exact ⟨(by decide : 0 < 18446744073709551616), (by decide : 0 < 18446744073709551616)⟩
end Go.Proofs.Ytfacimebfdeaeaa
