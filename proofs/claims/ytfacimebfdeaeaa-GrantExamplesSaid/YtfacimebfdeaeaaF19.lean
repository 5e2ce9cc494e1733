/- The walks of grant's small functions and of their references. -/
import Derived.Test.YtfacimebfdeaeaaGrantMath
import Derived.Test.YtfacimebfdeaeaaF18
namespace Go.Proofs.Ytfacimebfdeaeaa
open Pv Go.RowKit

set_option maxRecDepth 100000 in
theorem grantNames (fns fn : Nat) (hf : fns < 256) : Pure Try.prog 18 [.v (.int .u8 fns), .v (.int .u8 fn)] (.s (.v (.bool (namesB fns fn)))) := by
  by_cases h : 46 ≤ fn ∧ fn ≤ 50
  · have hb : relB fn = true := decide_eq_true h
    have hn : namesB fns fn = fns.testBit (fn - 46) := by unfold namesB; rw [hb]; rfl
    rw [hn]
    have h1 : ∀ t o o2, BinRun Try.prog .sub t o o2 (.int .u8 (fn : Int)) (.int .u8 46) (.int .u8 ((fn - 46 : Nat) : Int)) := fun t o o2 => by
      have := BinRun.sub (P := Try.prog) (t := t) (x := o) (y := o2) (k := .u8) (a := (fn : Int)) (b := 46)
      rwa [u8_sub h] at this
    have h2 : ∀ t o o2, BinRun Try.prog .shr t o o2 (.int .u8 (fns : Int)) (.int .u8 ((fn - 46 : Nat) : Int)) (.int .u8 ((fns / 2 ^ (fn - 46) : Nat) : Int)) := fun t o o2 => by
      have := BinRun.shr (P := Try.prog) (t := t) (x := o) (y := o2) (k := .u8) (k' := .u8) (a := (fns : Int)) (b := ((fn - 46 : Nat) : Int)) (Int.natCast_nonneg _)
      rwa [u8_shr (by omega)] at this
    have h3 : ∀ t o o2, BinRun Try.prog .and t o o2 (.int .u8 ((fns / 2 ^ (fn - 46) : Nat) : Int)) (.int .u8 1) (.int .u8 (((fns.testBit (fn - 46)).toNat : Nat) : Int)) := fun t o o2 => by
      rw [← u8_bits fns hf (fn - 46) (by omega)]
      exact BinRun.bits (P := Try.prog) (op := .and) (t := t) (x := o) (y := o2) (k := .u8) (a := ((fns / 2 ^ (fn - 46) : Nat) : Int)) (b := 1) (.inl rfl)
    generalize fns.testBit (fn - 46) = b at *
    generalize ((fns / 2 ^ (fn - 46) : Nat) : Int) = q at *
    have h4 : ((fn - 46 : Nat) : Int) = ((fn - 46 : Nat) : Int) := rfl
    generalize ((fn - 46 : Nat) : Int) = d at *
    refine pure_of_wt Try.func18 rfl (by decide) _ Try.ntmps18 rfl Try.results18 fun w0 => ?_
    repeat' (first
    | (apply RunK.bin; exact rfl; exact rfl; exact rfl; first | exact h1 _ _ _ | exact h2 _ _ _ | exact h3 _ _ _)
    | refine Wt.seq ?_
    | (apply Wt.regionK; exact rfl)
    | refine Wt.ret ?_
    | refine RunK.nil ?_
    | (apply RunK.moveV; exact rfl; exact rfl)
    | (apply RunK.assignV; exact rfl; exact rfl)
    | (apply RunK.pickT; exact rfl; exact rfl; exact rfl)
    | (apply RunK.geq; exact rfl; exact rfl; exact rfl)
    | (apply RunK.leq; exact rfl; exact rfl; exact rfl)
    | (apply RunK.eql; exact rfl; exact rfl; exact rfl)
    | (apply RunK.guard; exact rfl; exact rfl; exact rfl; all_goals (intro hg; (first | exact absurd hg (by decide) | skip); (first | (with_reducible replace hg := not_t hg) | (with_reducible replace hg := not_f hg) | skip); (first | (with_reducible replace hg := dec_t hg) | (with_reducible replace hg := dec_f hg) | skip); (first | (with_reducible exact absurd rfl hg) | skip); (repeat rw [List.length_map] at hg); try (exfalso; omega))))
    all_goals (apply ResOk.v1; exact rfl; refine bool_v ?_; cases b <;> simp)
  · have hn : namesB fns fn = false := by unfold namesB relB; rw [decide_eq_false h]; rfl
    rw [hn]
    refine pure_of_wt Try.func18 rfl (by decide) _ Try.ntmps18 rfl Try.results18 fun w0 => ?_
    repeat' (first
    | refine Wt.seq ?_
    | (apply Wt.regionK; exact rfl)
    | refine Wt.ret ?_
    | refine RunK.nil ?_
    | (apply RunK.moveV; exact rfl; exact rfl)
    | (apply RunK.assignV; exact rfl; exact rfl)
    | (apply RunK.pickT; exact rfl; exact rfl; exact rfl)
    | (apply RunK.pickF; exact rfl; exact rfl; exact rfl)
    | (apply RunK.geq; exact rfl; exact rfl; exact rfl)
    | (apply RunK.leq; exact rfl; exact rfl; exact rfl)
    | (apply RunK.skip; exact rfl; exact rfl)
    | (apply RunK.guard; exact rfl; exact rfl; exact rfl; all_goals (intro hg; (first | exact absurd hg (by decide) | skip); (first | (with_reducible replace hg := not_t hg) | (with_reducible replace hg := not_f hg) | skip); (first | (with_reducible replace hg := dec_t hg) | (with_reducible replace hg := dec_f hg) | skip); (first | (with_reducible exact absurd rfl hg) | skip); (repeat rw [List.length_map] at hg); try (exfalso; omega))))
    all_goals (apply ResOk.v1; exact rfl; exact rfl)
end Go.Proofs.Ytfacimebfdeaeaa
