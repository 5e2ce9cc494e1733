/- The walks of grant's small functions and of their references. -/
import Derived.Test.YtfacimebfdeaeaaGrantMath
import Derived.Test.YtfacimebfdeaeaaF18
namespace Go.Proofs.Ytfacimebfdeaeaa
open Pv Go.RowKit

set_option maxRecDepth 100000 in
theorem neqGrant {x y : Operand} (a b : Grant) : BinRun Try.prog .neq 48 x y a.v b.v (.bool (!decide (a = b))) := by
  refine eqRun (by kernel_rfl) fun w => ?_
  rcases a with ⟨⟨⟩, _, _, _, _⟩; rcases b with ⟨⟨⟩, _, _, _, _⟩
  simp only [Grant.vals]
  go_simp
  (repeat' split) <;> simp_all <;> omega
set_option maxRecDepth 100000 in
theorem released (fn : Nat) : Pure Try.prog 58 [.v (.int .u8 fn)] (.s (.v (.bool (relB fn)))) := by
  refine pure_of_wt Try.func58 rfl (by decide) _ Try.ntmps58 rfl Try.results58 fun w0 => ?_
  repeat' (first
    | refine Wt.seq ?_
    | (apply Wt.regionK; exact rfl)
    | refine Wt.ret ?_
    | refine RunK.nil ?_
    | (apply RunK.moveV; exact rfl; exact rfl)
    | (apply RunK.assignV; exact rfl; exact rfl)
    | (apply RunK.pickT; exact rfl; exact rfl; exact rfl)
    | (apply RunK.pickF; exact rfl; exact rfl; exact rfl)
    | (apply RunK.geq; exact rfl; exact rfl; exact rfl)
    | (apply RunK.leq; exact rfl; exact rfl; exact rfl)
    | (apply RunK.skip; exact rfl; exact rfl)
    | (apply RunK.guard; exact rfl; exact rfl; exact rfl; all_goals (intro hg; (first | exact absurd hg (by decide) | skip); (first | (with_reducible replace hg := not_t hg) | (with_reducible replace hg := not_f hg) | skip); (first | (with_reducible replace hg := dec_t hg) | (with_reducible replace hg := dec_f hg) | skip); (first | (with_reducible exact absurd rfl hg) | skip); (repeat rw [List.length_map] at hg); try (exfalso; omega))))
  all_goals (apply ResOk.v1; exact rfl; refine bool_v ?_; unfold relB; rw [Bool.eq_iff_iff]; simp; omega)
set_option maxRecDepth 100000 in
theorem refNames (fns fn : Nat) (_hf : fns < 256) : Pure Try.prog 19 [.v (.int .u8 fns), .v (.int .u8 fn)] (.s (.v (.bool (namesB fns fn)))) := by
  have hr := released fn
  by_cases h : 46 ≤ fn ∧ fn ≤ 50
  · have hb : relB fn = true := decide_eq_true h
    have hn : namesB fns fn = fns.testBit (fn - 46) := by unfold namesB; rw [hb]; rfl
    rw [hb] at hr
    rw [hn]
    have h1 : ∀ t o o2, BinRun Try.prog .sub t o o2 (.int .u8 (fn : Int)) (.int .u8 46) (.int .u8 ((fn - 46 : Nat) : Int)) := fun t o o2 => by
      have := BinRun.sub (P := Try.prog) (t := t) (x := o) (y := o2) (k := .u8) (a := (fn : Int)) (b := 46)
      rwa [u8_sub h] at this
    have h2 : ∀ t o o2, BinRun Try.prog .shr t o o2 (.int .u8 (fns : Int)) (.int .u8 ((fn - 46 : Nat) : Int)) (.int .u8 ((fns / 2 ^ (fn - 46) : Nat) : Int)) := fun t o o2 => by
      have := BinRun.shr (P := Try.prog) (t := t) (x := o) (y := o2) (k := .u8) (k' := .u8) (a := (fns : Int)) (b := ((fn - 46 : Nat) : Int)) (Int.natCast_nonneg _)
      rwa [u8_shr (by omega)] at this
    have h3 : ∀ t o o2, BinRun Try.prog .rem t o o2 (.int .u8 ((fns / 2 ^ (fn - 46) : Nat) : Int)) (.int .u8 2) (.int .u8 (((fns.testBit (fn - 46)).toNat : Nat) : Int)) := fun t o o2 => by
      have := BinRun.rem (P := Try.prog) (t := t) (x := o) (y := o2) (k := .u8) (a := ((fns / 2 ^ (fn - 46) : Nat) : Int)) (b := 2) (by decide)
      rwa [u8_rem] at this
    generalize fns.testBit (fn - 46) = b at *
    generalize ((fns / 2 ^ (fn - 46) : Nat) : Int) = q at *
    generalize ((fn - 46 : Nat) : Int) = d at *
    refine pure_of_wt Try.func19 rfl (by decide) _ Try.ntmps19 rfl Try.results19 fun w0 => ?_
    repeat' (first
    | (apply RunK.callS; exact rfl; exact hr; (repeat (first | exact ArgsLe.nil | refine ArgsLe.cons ?_ ?_ | exact ArgLe.v _ | exact ArgLe.sl _ _ _ _ | exact ArgLe.nil _ | exact ArgLe.nil' | (apply ArgLe.bsl; exact rfl; (first | exact rfl | (rw [List.length_map]; done) | (simp only [List.length_map]; done) | (simp; done) | (simp; omega)); (first | assumption | exact map_len (fun _ => rfl))))); exact rfl) | (apply RunK.bin; exact rfl; exact rfl; exact rfl; first | exact h1 _ _ _ | exact h2 _ _ _ | exact h3 _ _ _)
    | refine Wt.seq ?_
    | (apply Wt.regionK; exact rfl)
    | refine Wt.ret ?_
    | refine RunK.nil ?_
    | (apply RunK.moveV; exact rfl; exact rfl)
    | (apply RunK.assignV; exact rfl; exact rfl)
    | (apply RunK.pickT; exact rfl; exact rfl; exact rfl)
    | (apply RunK.eql; exact rfl; exact rfl; exact rfl))
    all_goals (apply ResOk.v1; exact rfl; refine bool_v ?_; cases b <;> simp)
  · have hb : relB fn = false := decide_eq_false h
    have hn : namesB fns fn = false := by unfold namesB; rw [hb]; rfl
    rw [hb] at hr
    rw [hn]
    refine pure_of_wt Try.func19 rfl (by decide) _ Try.ntmps19 rfl Try.results19 fun w0 => ?_
    repeat' (first
    | (apply RunK.callS; exact rfl; exact hr; (repeat (first | exact ArgsLe.nil | refine ArgsLe.cons ?_ ?_ | exact ArgLe.v _ | exact ArgLe.sl _ _ _ _ | exact ArgLe.nil _ | exact ArgLe.nil' | (apply ArgLe.bsl; exact rfl; (first | exact rfl | (rw [List.length_map]; done) | (simp only [List.length_map]; done) | (simp; done) | (simp; omega)); (first | assumption | exact map_len (fun _ => rfl))))); exact rfl)
    | refine Wt.seq ?_
    | (apply Wt.regionK; exact rfl)
    | refine Wt.ret ?_
    | refine RunK.nil ?_
    | (apply RunK.moveV; exact rfl; exact rfl)
    | (apply RunK.assignV; exact rfl; exact rfl)
    | (apply RunK.pickF; exact rfl; exact rfl; exact rfl)
    | (apply RunK.skip; exact rfl; exact rfl))
    all_goals (apply ResOk.v1; exact rfl; exact rfl)
set_option maxRecDepth 100000 in
theorem grantNames (fns fn : Nat) (hf : fns < 256) : Pure Try.prog 18 [.v (.int .u8 fns), .v (.int .u8 fn)] (.s (.v (.bool (namesB fns fn)))) := by
  by_cases h : 46 ≤ fn ∧ fn ≤ 50
  · have hb : relB fn = true := decide_eq_true h
    have hn : namesB fns fn = fns.testBit (fn - 46) := by unfold namesB; rw [hb]; rfl
    rw [hn]
    have h1 : ∀ t o o2, BinRun Try.prog .sub t o o2 (.int .u8 (fn : Int)) (.int .u8 46) (.int .u8 ((fn - 46 : Nat) : Int)) := fun t o o2 => by
      have := BinRun.sub (P := Try.prog) (t := t) (x := o) (y := o2) (k := .u8) (a := (fn : Int)) (b := 46)
      rwa [u8_sub h] at this
    have h2 : ∀ t o o2, BinRun Try.prog .shr t o o2 (.int .u8 (fns : Int)) (.int .u8 ((fn - 46 : Nat) : Int)) (.int .u8 ((fns / 2 ^ (fn - 46) : Nat) : Int)) := fun t o o2 => by
      have := BinRun.shr (P := Try.prog) (t := t) (x := o) (y := o2) (k := .u8) (k' := .u8) (a := (fns : Int)) (b := ((fn - 46 : Nat) : Int)) (Int.natCast_nonneg _)
      rwa [u8_shr (by omega)] at this
    have h3 : ∀ t o o2, BinRun Try.prog .and t o o2 (.int .u8 ((fns / 2 ^ (fn - 46) : Nat) : Int)) (.int .u8 1) (.int .u8 (((fns.testBit (fn - 46)).toNat : Nat) : Int)) := fun t o o2 => by
      rw [← u8_bits fns hf (fn - 46) (by omega)]
      exact BinRun.bits (P := Try.prog) (op := .and) (t := t) (x := o) (y := o2) (k := .u8) (a := ((fns / 2 ^ (fn - 46) : Nat) : Int)) (b := 1) (.inl rfl)
    generalize fns.testBit (fn - 46) = b at *
    generalize ((fns / 2 ^ (fn - 46) : Nat) : Int) = q at *
    have h4 : ((fn - 46 : Nat) : Int) = ((fn - 46 : Nat) : Int) := rfl
    generalize ((fn - 46 : Nat) : Int) = d at *
    refine pure_of_wt Try.func18 rfl (by decide) _ Try.ntmps18 rfl Try.results18 fun w0 => ?_
    repeat' (first
    | (apply RunK.bin; exact rfl; exact rfl; exact rfl; first | exact h1 _ _ _ | exact h2 _ _ _ | exact h3 _ _ _)
    | refine Wt.seq ?_
    | (apply Wt.regionK; exact rfl)
    | refine Wt.ret ?_
    | refine RunK.nil ?_
    | (apply RunK.moveV; exact rfl; exact rfl)
    | (apply RunK.assignV; exact rfl; exact rfl)
    | (apply RunK.pickT; exact rfl; exact rfl; exact rfl)
    | (apply RunK.geq; exact rfl; exact rfl; exact rfl)
    | (apply RunK.leq; exact rfl; exact rfl; exact rfl)
    | (apply RunK.eql; exact rfl; exact rfl; exact rfl)
    | (apply RunK.guard; exact rfl; exact rfl; exact rfl; all_goals (intro hg; (first | exact absurd hg (by decide) | skip); (first | (with_reducible replace hg := not_t hg) | (with_reducible replace hg := not_f hg) | skip); (first | (with_reducible replace hg := dec_t hg) | (with_reducible replace hg := dec_f hg) | skip); (first | (with_reducible exact absurd rfl hg) | skip); (repeat rw [List.length_map] at hg); try (exfalso; omega))))
    all_goals (apply ResOk.v1; exact rfl; refine bool_v ?_; cases b <;> simp)
  · have hn : namesB fns fn = false := by unfold namesB relB; rw [decide_eq_false h]; rfl
    rw [hn]
    refine pure_of_wt Try.func18 rfl (by decide) _ Try.ntmps18 rfl Try.results18 fun w0 => ?_
    repeat' (first
    | refine Wt.seq ?_
    | (apply Wt.regionK; exact rfl)
    | refine Wt.ret ?_
    | refine RunK.nil ?_
    | (apply RunK.moveV; exact rfl; exact rfl)
    | (apply RunK.assignV; exact rfl; exact rfl)
    | (apply RunK.pickT; exact rfl; exact rfl; exact rfl)
    | (apply RunK.pickF; exact rfl; exact rfl; exact rfl)
    | (apply RunK.geq; exact rfl; exact rfl; exact rfl)
    | (apply RunK.leq; exact rfl; exact rfl; exact rfl)
    | (apply RunK.skip; exact rfl; exact rfl)
    | (apply RunK.guard; exact rfl; exact rfl; exact rfl; all_goals (intro hg; (first | exact absurd hg (by decide) | skip); (first | (with_reducible replace hg := not_t hg) | (with_reducible replace hg := not_f hg) | skip); (first | (with_reducible replace hg := dec_t hg) | (with_reducible replace hg := dec_f hg) | skip); (first | (with_reducible exact absurd rfl hg) | skip); (repeat rw [List.length_map] at hg); try (exfalso; omega))))
    all_goals (apply ResOk.v1; exact rfl; exact rfl)
set_option maxRecDepth 100000 in
theorem copyGrants (l : List Grant) (hL : l.length * 64 ≤ 140737488351232) : Pure Try.prog 15 [grants l] (.s (grantsR l)) := by
  refine pure_of_wt Try.func15 rfl (by decide) _ Try.ntmps15 rfl Try.results15 fun w0 => ?_
  repeat' (first
    | (first | (apply RunK.append; exact rfl; exact rfl; exact rfl; (first | exact ReadLe.sl _ _ _ _ | exact ReadLe.nil _); exact rfl; (first | exact one_rows rfl | exact one_map (fun _ => rfl) _); (first | exact app_b1 (by omega) | exact app_b2 (by omega) | exact app_b3 (by omega) | exact app_b4 (by omega) | exact app_b5 (by omega))) | (apply RunK.appendN; exact rfl; exact rfl; exact rfl; (first | exact ReadLe.sl _ _ _ _ | exact ReadLe.nil _); exact rfl; (first | exact one_rows rfl | exact one_map (fun _ => rfl) _); (first | exact app_b1 (by omega) | exact app_b2 (by omega) | exact app_b3 (by omega) | exact app_b4 (by omega) | exact app_b5 (by omega))) | (apply RunK.appendF; exact rfl; exact rfl; exact rfl; (first | exact ReadLe.sl _ _ _ _ | exact ReadLe.nil _); (first | exact one_rows rfl | exact one_map (fun _ => rfl) _); (first | exact app_b1 (by omega) | exact app_b2 (by omega) | exact app_b3 (by omega) | exact app_b4 (by omega) | exact app_b5 (by omega))))
    | refine Wt.seq ?_
    | (apply Wt.regionK; exact rfl)
    | refine Wt.ret ?_
    | refine RunK.nil ?_
    | (apply RunK.moveS; exact rfl; exact rfl)
    | (apply RunK.assignS; exact rfl; exact rfl)
    | (apply RunK.assignN; exact rfl; exact rfl))
  apply ResOk.s1; exact rfl; exact rfl
set_option maxRecDepth 100000 in
theorem equalGrants (a b : List Grant) (ha : a.length < 1000000000000000) (hb : b.length < 1000000000000000) : Pure Try.prog 20 [grants a, grants b] (.s (.v (.bool (decide (a = b))))) := by
  refine pure_of_wt Try.func20 rfl (by decide) _ Try.ntmps20 rfl Try.results20 fun w0 => ?_
  repeat' (first
    | refine Wt.seq ?_
    | (apply Wt.regionK; exact rfl)
    | refine Wt.ret ?_
    | refine Wt.block ?_
    | refine Wt.skip ?_
    | refine RunK.nil ?_
    | (apply RunK.assignV; exact rfl; exact rfl)
    | (apply RunK.moveS; exact rfl; exact rfl)
    | (apply RunK.neq; exact rfl; exact rfl; exact rfl)
    | (apply RunK.len; exact rfl; exact rfl)
    | (apply Wt.cond; exact rfl; all_goals (intro hg; (first | exact absurd hg (by decide) | skip); (first | (with_reducible replace hg := not_t hg) | (with_reducible replace hg := not_f hg) | skip); (first | (with_reducible replace hg := dec_t hg) | (with_reducible replace hg := dec_f hg) | skip); (first | (with_reducible exact absurd rfl hg) | skip); (repeat rw [List.length_map] at hg); try (exfalso; omega))))
  · apply ResOk.v1; exact rfl; refine bool_v ?_; symm; refine decide_eq_false ?_; rintro rfl; exact hg rfl
  have hab : a.length = b.length := by omega
  refine Wt.loop (fun k : Nat => ⟨[(0, .s (grants a)), (1, .s (grants b)), (5, .s (.v (.int .i64 k)))], []⟩) (fun k => k ≤ a.length ∧ a.take k = b.take k) (fun k => a.length - k) 0 ⟨Nat.zero_le _, rfl⟩ ?_ ?_
  · (refine Le.mk ?_ ?_; (repeat' (first | exact LeEnv.done | refine LeEnv.cons ?_ ?_ | exact PVLe.refl _ | exact PVLe.s (SVLe.nil _ _ _) | exact PVLe.s (SVLe.no _ _ _ _) | (refine PVLe.int ?_; first | rfl | omega | (simp; done) | (simp; omega)) | (refine PVLe.els ?_; first | rfl | assumption | (simp; done)) | (refine PVLe.bool ?_; first | rfl | assumption) | (refine PVLe.bsl ?_; first | rfl | assumption | (simp; done))));  (repeat' (first | exact LeBox.done | refine LeBox.cons ?_ ?_ | exact rfl)))
  · rintro k ⟨hk, hG⟩
    by_cases hlt : k < a.length
    · obtain ⟨r, hr⟩ := exists_at hlt
      obtain ⟨q, hq⟩ := exists_at (hab ▸ hlt)
      have hx := get_map (f := Grant.vals) hr
      have hx2 := get_map (f := Grant.vals) hq
      repeat' (first
    | (apply RunK.bin; exact rfl; exact rfl; exact rfl; exact neqGrant r q)
    | refine Wt.seq ?_
    | (apply Wt.regionK; exact rfl)
    | (apply Wt.regionD; kernel_rfl; kernel_rfl; exact rfl; exact rfl)
    | refine Wt.ret ?_
    | refine Wt.block ?_
    | refine Wt.skip ?_
    | refine RunK.nil ?_
    | (apply RunK.moveV; exact rfl; exact rfl)
    | (apply RunK.index; exact rfl; exact rfl; exact rfl; (first | exact rfl | exact (rfl : (0 : Int) = ((0 : Nat) : Int)) | exact (rfl : (1 : Int) = ((1 : Nat) : Int)) | exact (rfl : (2 : Int) = ((2 : Nat) : Int)) | exact (rfl : (3 : Int) = ((3 : Nat) : Int)) | assumption); (first | omega | exact lt_of_get ‹_› | (rw [List.length_map]; omega) | (simp; omega)))
    | (apply RunK.assignV; exact rfl; exact rfl)
    | (apply RunK.moveS; exact rfl; exact rfl)
    | (apply RunK.loadER; exact rfl; exact rfl; assumption; exact rfl; (apply cut_eq; repeat (first | exact Cut.nil _ | apply Cut.cons | apply Cut.skip)))
    | (apply RunK.lss; exact rfl; exact rfl; exact rfl)
    | (apply RunK.add; exact rfl; exact rfl; exact rfl; (first | omega | (simp only [List.length_map]; omega)))
    | (apply RunK.len; exact rfl; exact rfl)
    | (apply Wt.cond; exact rfl; all_goals (intro hg; (first | exact absurd hg (by decide) | skip); (first | (with_reducible replace hg := not_t hg) | (with_reducible replace hg := not_f hg) | skip); (first | (with_reducible replace hg := dec_t hg) | (with_reducible replace hg := dec_f hg) | skip); (first | (with_reducible exact absurd rfl hg) | skip); (repeat rw [List.length_map] at hg); try (exfalso; omega))))
      · apply ResOk.v1; exact rfl; refine bool_v ?_; symm; refine decide_eq_false ?_
        intro e; rw [e] at hr; rw [hr] at hq; injection hq with hq; exact hg hq
      · subst hg
        refine ⟨k + 1, ⟨hlt, by rw [List.take_add_one, List.take_add_one, hG, hr, hq]⟩, by omega, ?_⟩
        (refine Le.mk ?_ ?_; (repeat' (first | exact LeEnv.done | refine LeEnv.cons ?_ ?_ | exact PVLe.refl _ | exact PVLe.s (SVLe.nil _ _ _) | exact PVLe.s (SVLe.no _ _ _ _) | (refine PVLe.int ?_; first | rfl | omega | (simp; done) | (simp; omega)) | (refine PVLe.els ?_; first | rfl | assumption | (simp; done)) | (refine PVLe.bool ?_; first | rfl | assumption) | (refine PVLe.bsl ?_; first | rfl | assumption | (simp; done))));  (repeat' (first | exact LeBox.done | refine LeBox.cons ?_ ?_ | exact rfl)))
    · repeat' (first
    | refine Wt.seq ?_
    | (apply Wt.regionK; exact rfl)
    | refine Wt.ret ?_
    | refine Wt.exit ?_
    | refine RunK.nil ?_
    | (apply RunK.moveV; exact rfl; exact rfl)
    | (apply RunK.assignV; exact rfl; exact rfl)
    | (apply RunK.moveS; exact rfl; exact rfl)
    | (apply RunK.lss; exact rfl; exact rfl; exact rfl)
    | (apply RunK.len; exact rfl; exact rfl)
    | (apply Wt.cond; exact rfl; all_goals (intro hg; (first | exact absurd hg (by decide) | skip); (first | (with_reducible replace hg := not_t hg) | (with_reducible replace hg := not_f hg) | skip); (first | (with_reducible replace hg := dec_t hg) | (with_reducible replace hg := dec_f hg) | skip); (first | (with_reducible exact absurd rfl hg) | skip); (repeat rw [List.length_map] at hg); try (exfalso; omega))))
      rw [List.take_of_length_le (by omega), List.take_of_length_le (by omega)] at hG
      apply ResOk.v1; exact rfl; exact bool_v (decide_eq_true hG).symm
end Go.Proofs.Ytfacimebfdeaeaa
