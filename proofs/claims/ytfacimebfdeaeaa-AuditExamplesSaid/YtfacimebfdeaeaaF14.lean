/- The walks of group.Has, region.May and their references. -/
import Derived.Test.YtfacimebfdeaeaaF13
import Derived.Test.YtfacimebfdeaeaaPvD
namespace Go.Proofs.Ytfacimebfdeaeaa
open Pv Go.RowKit

set_option maxRecDepth 100000 in
theorem eqlBool {x y : Operand} (a b : Bool) : BinRun Try.prog .eql 4 x y (.bool a) (.bool b) (.bool (decide (a = b))) := fun w => by
  rw [Sem.run_bind, eqGuard_bool]
  cases a <;> cases b <;> go_simp
def userB (u : Int) : Bool := decide (0 ≤ u ∧ u < 64)
def hasS (s : Nat) (u : Int) : Bool := userB u && s.testBit u.toNat
set_option maxRecDepth 100000 in
theorem shr_bit {s : Nat} {u : Int} (h : 0 ≤ u) (h2 : u < 64) : (s : Int).fdiv (2 ^ (min u.toNat IntKind.u64.bits)) = ((s / 2 ^ u.toNat : Nat) : Int) := by
  rw [show min u.toNat IntKind.u64.bits = u.toNat from Nat.min_eq_left (by show u.toNat ≤ 64; omega)]
  have hc : (2 : Int) ^ u.toNat = ((2 ^ u.toNat : Nat) : Int) := by simp
  rw [hc, Int.fdiv_eq_ediv_of_nonneg _ (Int.natCast_nonneg _)]
  rfl
set_option maxRecDepth 100000 in
theorem one_bit {s : Nat} (hs : s < 18446744073709551616) (n : Nat) : bits .and .u64 ((s / 2 ^ n : Nat) : Int) 1 = (((s.testBit n).toNat : Nat) : Int) := by
  have h1 : s / 2 ^ n < 18446744073709551616 := Nat.lt_of_le_of_lt (Nat.div_le_self ..) hs
  have := u64_and_nat (s / 2 ^ n) 1 h1 (by decide)
  rw [show ((1 : Nat) : Int) = 1 from rfl] at this
  rw [this, Nat.and_one_is_mod, Nat.testBit_eq_decide_div_mod_eq]
  have h2 : s / 2 ^ n % 2 < 2 := Nat.mod_lt _ (by decide)
  rcases Nat.lt_or_ge (s / 2 ^ n % 2) 1 with h | h
  · rw [show s / 2 ^ n % 2 = 0 by omega]; rfl
  · rw [show s / 2 ^ n % 2 = 1 by omega]; rfl
set_option maxRecDepth 100000 in
theorem groupHas (s : Nat) (hs : s < 18446744073709551616) (u : Int) : Pure Try.prog 56 [.v (.int .u64 s), .v (.int .i64 u)] (.s (.v (.bool (hasS s u)))) := by
  by_cases hu : 0 ≤ u ∧ u < 64
  · have h1 : ∀ t o o2, BinRun Try.prog .shr t o o2 (.int .u64 (s : Int)) (.int .i64 u) (.int .u64 ((s / 2 ^ u.toNat : Nat) : Int)) := fun t o o2 => by
      have := BinRun.shr (P := Try.prog) (t := t) (x := o) (y := o2) (k := .u64) (k' := .i64) (a := (s : Int)) hu.1
      rwa [shr_bit hu.1 hu.2] at this
    have h2 : ∀ t o o2, BinRun Try.prog .and t o o2 (.int .u64 ((s / 2 ^ u.toNat : Nat) : Int)) (.int .u64 1) (.int .u64 (((s.testBit u.toNat).toNat : Nat) : Int)) := fun t o o2 => runBits (.inl rfl) (one_bit hs _)
    have hb : hasS s u = s.testBit u.toNat := by unfold hasS userB; rw [decide_eq_true hu]; rfl
    rw [hb]
    generalize s.testBit u.toNat = b at *
    refine pure_of_wt Try.func56 rfl (by decide) _ Try.ntmps56 rfl Try.results56 fun w0 => ?_
    repeat' (first
    | (apply RunK.bin; exact rfl; exact rfl; exact rfl; first | exact h1 _ _ _ | exact h2 _ _ _)
    | refine Wt.seq ?_
    | (apply Wt.regionK; exact rfl)
    | refine Wt.ret ?_
    | refine RunK.nil ?_
    | (apply RunK.moveV; exact rfl; exact rfl)
    | (apply RunK.assignV; exact rfl; exact rfl)
    | (apply RunK.pickT; exact rfl; exact rfl; exact rfl)
    | (apply RunK.geq; exact rfl; exact rfl; exact rfl)
    | (apply RunK.lss; exact rfl; exact rfl; exact rfl)
    | (apply RunK.eql; exact rfl; exact rfl; exact rfl)
    | (apply RunK.guard; exact rfl; exact rfl; exact rfl; all_goals (intro hg; (first | exact absurd hg (by decide) | skip); (first | (with_reducible replace hg := not_t hg) | (with_reducible replace hg := not_f hg) | skip); (first | (with_reducible replace hg := dec_t hg) | (with_reducible replace hg := dec_f hg) | skip); (first | (with_reducible exact absurd rfl hg) | skip); (repeat rw [List.length_map] at hg); try (exfalso; omega))))
    all_goals (apply ResOk.v1; exact rfl; refine bool_v ?_; cases b <;> simp)
  · have hb : hasS s u = false := by unfold hasS userB; rw [decide_eq_false hu]; rfl
    rw [hb]
    refine pure_of_wt Try.func56 rfl (by decide) _ Try.ntmps56 rfl Try.results56 fun w0 => ?_
    repeat' (first
    | refine Wt.seq ?_
    | (apply Wt.regionK; exact rfl)
    | refine Wt.ret ?_
    | refine RunK.nil ?_
    | (apply RunK.moveV; exact rfl; exact rfl)
    | (apply RunK.assignV; exact rfl; exact rfl)
    | (apply RunK.pickT; exact rfl; exact rfl; exact rfl)
    | (apply RunK.pickF; exact rfl; exact rfl; exact rfl)
    | (apply RunK.geq; exact rfl; exact rfl; exact rfl)
    | (apply RunK.lss; exact rfl; exact rfl; exact rfl)
    | (apply RunK.skip; exact rfl; exact rfl)
    | (apply RunK.guard; exact rfl; exact rfl; exact rfl; all_goals (intro hg; (first | exact absurd hg (by decide) | skip); (first | (with_reducible replace hg := not_t hg) | (with_reducible replace hg := not_f hg) | skip); (first | (with_reducible replace hg := dec_t hg) | (with_reducible replace hg := dec_f hg) | skip); (first | (with_reducible exact absurd rfl hg) | skip); (repeat rw [List.length_map] at hg); try (exfalso; omega))))
    all_goals (apply ResOk.v1; exact rfl; exact rfl)
set_option maxRecDepth 100000 in
theorem refUser (u : Int) : Pure Try.prog 71 [.v (.int .i64 u)] (.s (.v (.bool (userB u)))) := by
  refine pure_of_wt Try.func71 rfl (by decide) _ Try.ntmps71 rfl Try.results71 fun w0 => ?_
  repeat' (first
    | refine Wt.seq ?_
    | (apply Wt.regionK; exact rfl)
    | refine Wt.ret ?_
    | refine RunK.nil ?_
    | (apply RunK.moveV; exact rfl; exact rfl)
    | (apply RunK.assignV; exact rfl; exact rfl)
    | (apply RunK.pickT; exact rfl; exact rfl; exact rfl)
    | (apply RunK.pickF; exact rfl; exact rfl; exact rfl)
    | (apply RunK.geq; exact rfl; exact rfl; exact rfl)
    | (apply RunK.lss; exact rfl; exact rfl; exact rfl)
    | (apply RunK.skip; exact rfl; exact rfl)
    | (apply RunK.guard; exact rfl; exact rfl; exact rfl; all_goals (intro hg; (first | exact absurd hg (by decide) | skip); (first | (with_reducible replace hg := not_t hg) | (with_reducible replace hg := not_f hg) | skip); (first | (with_reducible replace hg := dec_t hg) | (with_reducible replace hg := dec_f hg) | skip); (first | (with_reducible exact absurd rfl hg) | skip); (repeat rw [List.length_map] at hg); try (exfalso; omega))))
  all_goals (apply ResOk.v1; exact rfl; refine bool_v ?_; unfold userB; rw [Bool.eq_iff_iff]; simp; omega)
set_option maxRecDepth 100000 in
theorem ne_bit {s : Nat} (n : Nat) : (!decide (((s &&& 2 ^ n : Nat) : Int) = 0)) = s.testBit n := by
  rw [Bool.eq_iff_iff]
  simp only [Bool.not_eq_true', decide_eq_false_iff_not]
  have e : (((s &&& 2 ^ n : Nat) : Int) = 0) ↔ s &&& 2 ^ n = 0 := by omega
  rw [e]
  constructor
  · intro h
    by_cases hb : s.testBit n = true
    · exact hb
    · refine (h (Nat.eq_of_testBit_eq fun i => ?_)).elim
      rw [Nat.testBit_and, Nat.testBit_two_pow, Nat.zero_testBit]
      by_cases hi : n = i
      · subst hi; simp [hb]
      · simp [hi]
  · intro h h0
    have := congrArg (fun x => x.testBit n) h0
    simp only [Nat.testBit_and, Nat.testBit_two_pow_self, h, Nat.zero_testBit] at this
    cases this
set_option maxRecDepth 100000 in
theorem refHasU (s : Nat) (hs : s < 18446744073709551616) (u : Int) : Pure Try.prog 67 [.v (.int .u64 s), .v (.int .i64 u)] (.s (.v (.bool (hasS s u)))) := by
  have hus := refUser u
  by_cases hu : 0 ≤ u ∧ u < 64
  · have hb1 : userB u = true := decide_eq_true hu
    have hb2 : hasS s u = s.testBit u.toNat := by unfold hasS; rw [hb1]; rfl
    have hbit := bit u hu.1 hu.2
    have h2 : ∀ t o o2, BinRun Try.prog .and t o o2 (.int .u64 (s : Int)) (.int .u64 ((2 ^ u.toNat : Nat) : Int)) (.int .u64 ((s &&& 2 ^ u.toNat : Nat) : Int)) := fun t o o2 => runBits (.inl rfl) (u64_and_nat _ _ hs (two_pow_lt64 (by omega)))
    rw [hb1] at hus
    rw [hb2, ← ne_bit]
    generalize ((s &&& 2 ^ u.toNat : Nat) : Int) = m at *
    generalize ((2 ^ u.toNat : Nat) : Int) = k at *
    refine pure_of_wt Try.func67 rfl (by decide) _ Try.ntmps67 rfl Try.results67 fun w0 => ?_
    repeat' (first
    | (apply RunK.callS; exact rfl; exact hus; (repeat (first | exact ArgsLe.nil | refine ArgsLe.cons ?_ ?_ | exact ArgLe.v _ | exact ArgLe.sl _ _ _ _ | exact ArgLe.nil _ | exact ArgLe.nil' | (apply ArgLe.bsl; exact rfl; (first | exact rfl | (rw [List.length_map]; done) | (simp only [List.length_map]; done) | (simp; done) | (simp; omega)); (first | assumption | exact map_len (fun _ => rfl))))); exact rfl) | (apply RunK.callS; exact rfl; exact hbit; (repeat (first | exact ArgsLe.nil | refine ArgsLe.cons ?_ ?_ | exact ArgLe.v _ | exact ArgLe.sl _ _ _ _ | exact ArgLe.nil _ | exact ArgLe.nil' | (apply ArgLe.bsl; exact rfl; (first | exact rfl | (rw [List.length_map]; done) | (simp only [List.length_map]; done) | (simp; done) | (simp; omega)); (first | assumption | exact map_len (fun _ => rfl))))); exact rfl) | (apply RunK.bin; exact rfl; exact rfl; exact rfl; exact h2 _ _ _)
    | refine Wt.seq ?_
    | (apply Wt.regionK; exact rfl)
    | refine Wt.ret ?_
    | refine RunK.nil ?_
    | (apply RunK.moveV; exact rfl; exact rfl)
    | (apply RunK.assignV; exact rfl; exact rfl)
    | (apply RunK.pickT; exact rfl; exact rfl; exact rfl)
    | (apply RunK.neq; exact rfl; exact rfl; exact rfl))
    all_goals (apply ResOk.v1; exact rfl; exact rfl)
  · have hb1 : userB u = false := decide_eq_false hu
    have hb2 : hasS s u = false := by unfold hasS; rw [hb1]; rfl
    rw [hb1] at hus
    rw [hb2]
    refine pure_of_wt Try.func67 rfl (by decide) _ Try.ntmps67 rfl Try.results67 fun w0 => ?_
    repeat' (first
    | (apply RunK.callS; exact rfl; exact hus; (repeat (first | exact ArgsLe.nil | refine ArgsLe.cons ?_ ?_ | exact ArgLe.v _ | exact ArgLe.sl _ _ _ _ | exact ArgLe.nil _ | exact ArgLe.nil' | (apply ArgLe.bsl; exact rfl; (first | exact rfl | (rw [List.length_map]; done) | (simp only [List.length_map]; done) | (simp; done) | (simp; omega)); (first | assumption | exact map_len (fun _ => rfl))))); exact rfl)
    | refine Wt.seq ?_
    | (apply Wt.regionK; exact rfl)
    | refine Wt.ret ?_
    | refine RunK.nil ?_
    | (apply RunK.moveV; exact rfl; exact rfl)
    | (apply RunK.assignV; exact rfl; exact rfl)
    | (apply RunK.pickF; exact rfl; exact rfl; exact rfl)
    | (apply RunK.skip; exact rfl; exact rfl))
    all_goals (apply ResOk.v1; exact rfl; exact rfl)
set_option maxRecDepth 100000 in
theorem refCheck20 (r : Rect) (l : List Rule) (hL : l.length < 1000000000000000) (hok : ∀ x ∈ l, x.ok) : Pure Try.prog 93 [.v r.v, rules l] (.s (.v (.int .i64 (regE r l)))) := by
  have hr := range r
  have hc := refCheck 64 l hL hok
  unfold regE
  rw [show (checkS 64 l).2 = chkE l from rfl] at hc
  cases h : rectOk r <;> rw [h] at hr
  all_goals
    refine pure_of_wt Try.func93 rfl (by decide) _ Try.ntmps93 rfl Try.results93 fun w0 => ?_
    repeat' (first
    | (apply RunK.callS; exact rfl; exact hr; (repeat (first | exact ArgsLe.nil | refine ArgsLe.cons ?_ ?_ | exact ArgLe.v _ | exact ArgLe.sl _ _ _ _ | exact ArgLe.nil _ | exact ArgLe.nil' | (apply ArgLe.bsl; exact rfl; (first | exact rfl | (rw [List.length_map]; done) | (simp only [List.length_map]; done) | (simp; done) | (simp; omega)); (first | assumption | exact map_len (fun _ => rfl))))); exact rfl) | (apply RunK.callT; exact rfl; exact hc; (repeat (first | exact ArgsLe.nil | refine ArgsLe.cons ?_ ?_ | exact ArgLe.v _ | exact ArgLe.sl _ _ _ _ | exact ArgLe.nil _ | exact ArgLe.nil' | (apply ArgLe.bsl; exact rfl; (first | exact rfl | (rw [List.length_map]; done) | (simp only [List.length_map]; done) | (simp; done) | (simp; omega)); (first | assumption | exact map_len (fun _ => rfl))))); exact rfl)
    | refine Wt.seq ?_
    | (apply Wt.regionK; exact rfl)
    | refine Wt.ret ?_
    | refine Wt.skip ?_
    | refine RunK.nil ?_
    | (apply RunK.moveV; exact rfl; exact rfl)
    | (apply RunK.assignV; exact rfl; exact rfl)
    | (apply RunK.box; exact rfl; exact rfl; apply Cells.eq; (first | exact Cells.agg _ | exact Cells.int _ _ | exact Cells.bool _ | exact Cells.one _ rfl); exact rfl)
    | (apply RunK.moveS; exact rfl; exact rfl)
    | (apply RunK.moveT; exact rfl; exact rfl)
    | (apply RunK.loadR; exact rfl; exact rfl; exact rfl; exact rfl; (apply cut_eq; repeat (first | exact Cut.nil _ | apply Cut.cons | apply Cut.skip)))
    | (apply RunK.not; exact rfl; exact rfl)
    | (apply RunK.extract; exact rfl; exact rfl; exact rfl)
    | (apply Wt.cond; exact rfl; all_goals (intro hg; (first | exact absurd hg (by decide) | skip); (first | (with_reducible replace hg := not_t hg) | (with_reducible replace hg := not_f hg) | skip); (first | (with_reducible replace hg := dec_t hg) | (with_reducible replace hg := dec_f hg) | skip); (first | (with_reducible exact absurd rfl hg) | skip); (repeat rw [List.length_map] at hg); try (exfalso; omega))))
    apply ResOk.v1; exact rfl; exact rfl
def mayS (u : Int) (r : Rect) (l : List Rule) : Bool × Bool × Int := if (overS r l).2 = 0 then if userB u then (hasS (overS r l).1.write u, hasS (overS r l).1.own u, 0) else (false, false, 2) else (false, false, (overS r l).2)
set_option maxRecDepth 100000 in
theorem overS_bd {r : Rect} {l : List Rule} : (overS r l).1.write < 18446744073709551616 ∧ (overS r l).1.own < 18446744073709551616 := by
  unfold overS
  split
  · exact ⟨overG_lt (g := Rights.write), overG_lt (g := Rights.own)⟩
  · exact ⟨(by decide : 0 < 18446744073709551616), (by decide : 0 < 18446744073709551616)⟩
set_option maxRecDepth 100000 in
theorem meetN_snoc (l : List Nat) (n : Nat) : meetN (l ++ [n]) = meetN l &&& n := by unfold meetN; rw [List.foldl_append]; rfl
set_option maxRecDepth 100000 in
theorem meetN_lt64 (l : List Nat) : meetN l < 18446744073709551616 := meetN_lt _ _ (by decide)
set_option maxRecDepth 100000 in
theorem points_len {r : Rect} {a : List Rule} (hr : rectOk r = true) : (pointsL r a).length ≤ 1024 * 1024 := by
  have ho := ok_iff.1 hr
  show (gridL _ _).length ≤ _
  rw [grid_len]
  exact Nat.mul_le_mul (cuts_len (by omega) (by omega)) (cuts_len (by omega) (by omega))
set_option maxRecDepth 100000 in
theorem refOver (r : Rect) (a : List Rule) (hL : a.length < 1000000000000000) (hok : ∀ x ∈ a, x.ok) : Pure Try.prog 66 [.v r.v, rules a] (.tup [.v (overS r a).1.v, .v (.int .i64 (overS r a).2)]) := by
  have hc := refCheck20 r a hL hok
  by_cases he : regE r a = 0
  · obtain ⟨hr, hch⟩ := regE_iff.1 he
    rw [he] at hc
    have h64 := ((chkE_iff a).1 hch).2.1
    have hp := points r a hr (good_rects hch) (by omega)
    have hall := refAll 64 (by decide)
    rw [overS_ok hr hch, overR_eq, over_point hr hch, over_point hr hch, over_point hr hch]
    unfold pointG
    have hn := points_len (a := a) hr
    generalize pointsL r a = L at *
    refine pure_of_wt Try.func66 rfl (by decide) _ Try.ntmps66 rfl Try.results66 fun w0 => ?_
    repeat' (first
    | (apply RunK.callS; exact rfl; exact hc; (repeat (first | exact ArgsLe.nil | refine ArgsLe.cons ?_ ?_ | exact ArgLe.v _ | exact ArgLe.sl _ _ _ _ | exact ArgLe.nil _ | exact ArgLe.nil' | (apply ArgLe.bsl; exact rfl; (first | exact rfl | (rw [List.length_map]; done) | (simp only [List.length_map]; done) | (simp; done) | (simp; omega)); (first | assumption | exact map_len (fun _ => rfl))))); exact rfl) | (apply RunK.callT; exact rfl; exact hall; (repeat (first | exact ArgsLe.nil | refine ArgsLe.cons ?_ ?_ | exact ArgLe.v _ | exact ArgLe.sl _ _ _ _ | exact ArgLe.nil _ | exact ArgLe.nil' | (apply ArgLe.bsl; exact rfl; (first | exact rfl | (rw [List.length_map]; done) | (simp only [List.length_map]; done) | (simp; done) | (simp; omega)); (first | assumption | exact map_len (fun _ => rfl))))); exact rfl) | (apply RunK.callS; exact rfl; exact hp; (repeat (first | exact ArgsLe.nil | refine ArgsLe.cons ?_ ?_ | exact ArgLe.v _ | exact ArgLe.sl _ _ _ _ | exact ArgLe.nil _ | exact ArgLe.nil' | (apply ArgLe.bsl; exact rfl; (first | exact rfl | (rw [List.length_map]; done) | (simp only [List.length_map]; done) | (simp; done) | (simp; omega)); (first | assumption | exact map_len (fun _ => rfl))))); exact rfl)
    | refine Wt.seq ?_
    | (apply Wt.regionK; exact rfl)
    | refine Wt.block ?_
    | refine Wt.skip ?_
    | refine RunK.nil ?_
    | (apply RunK.moveV; exact rfl; exact rfl)
    | (apply RunK.assignV; exact rfl; exact rfl)
    | (apply RunK.box; exact rfl; exact rfl; apply Cells.eq; (first | exact Cells.agg _ | exact Cells.int _ _ | exact Cells.bool _ | exact Cells.one _ rfl); exact rfl)
    | (apply RunK.alloc; exact rfl; apply Cells.eq; (first | exact Cells.agg _ | exact Cells.int _ _ | exact Cells.bool _ | exact Cells.one _ rfl); exact rfl)
    | (apply RunK.moveS; exact rfl; exact rfl)
    | (apply RunK.moveT; exact rfl; exact rfl)
    | (apply RunK.assignS; exact rfl; exact rfl)
    | (apply RunK.loadR; exact rfl; exact rfl; exact rfl; exact rfl; (apply cut_eq; repeat (first | exact Cut.nil _ | apply Cut.cons | apply Cut.skip)))
    | (apply RunK.neq; exact rfl; exact rfl; exact rfl)
    | (apply RunK.extract; exact rfl; exact rfl; exact rfl)
    | (apply RunK.build; exact rfl; (repeat (first | exact PartsOk.nil | (apply PartsOk.cons; exact rfl))); (repeat (first | exact fill_nil | (apply fill_cons; exact rfl; (first | exact Cells.agg _ | exact Cells.int _ _ | exact Cells.bool _ | exact Cells.one _ rfl); exact rfl; (repeat (first | exact Upd.nil _ | apply Upd.cons | apply Upd.skip))))))
    | (apply RunK.store; exact rfl; exact rfl; exact rfl; exact rfl; exact rfl; exact rfl; exact rfl; apply upd_eq; exact rfl; (first | exact Cells.agg _ | exact Cells.int _ _ | exact Cells.bool _ | exact Cells.one _ rfl); (repeat (first | exact Upd.nil _ | apply Upd.cons | apply Upd.skip)))
    | (apply Wt.cond; exact rfl; all_goals (intro hg; (first | exact absurd hg (by decide) | skip); (first | (with_reducible replace hg := not_t hg) | (with_reducible replace hg := not_f hg) | skip); (first | (with_reducible replace hg := dec_t hg) | (with_reducible replace hg := dec_f hg) | skip); (first | (with_reducible exact absurd rfl hg) | skip); (repeat rw [List.length_map] at hg); try (exfalso; omega))))
    refine Wt.loop (fun k : Nat => ⟨[(1, .s (rules a)), (4, .box 4 0), (9, .box 9 0), (10, .s (.sl (some 30) (.front 87) 2 (L.map Ref.vals))), (11, .s (.v (.int .i64 k)))], [(4, noRights.vals), (9, [.int .u64 (meetN ((L.take k).map fun x => (atL a x).read) : Nat), .int .u64 (meetN ((L.take k).map fun x => (atL a x).write) : Nat), .int .u64 (meetN ((L.take k).map fun x => (atL a x).own) : Nat)])]⟩) (fun k => k ≤ L.length) (fun k => L.length - k) 0 (Nat.zero_le _) ?_ ?_
    · (refine Le.mk ?_ ?_; (repeat' (first | exact LeEnv.done | refine LeEnv.cons ?_ ?_ | exact PVLe.refl _ | exact PVLe.s (SVLe.nil _ _ _) | exact PVLe.s (SVLe.no _ _ _ _) | (refine PVLe.int ?_; first | rfl | omega | (simp; done) | (simp; omega)) | (refine PVLe.els ?_; first | rfl | assumption | (simp; done)) | (refine PVLe.bool ?_; first | rfl | assumption) | (refine PVLe.bsl ?_; first | rfl | assumption | (simp; done))));  (repeat' (first | exact LeBox.done | refine LeBox.cons ?_ ?_ | exact rfl)))
    · rintro k hk
      by_cases hlt : k < L.length
      · obtain ⟨x, hx⟩ := exists_at hlt
        have hxv := get_map (f := Ref.vals) hx
        have hlast := refLast x a hL
        obtain ⟨q, hq⟩ := exists_at (lastN_lt (x := x) (l := a) (List.length_pos_iff.2 (chkE_ne hch)))
        have hqv := get_map (f := Rule.vals) hq
        have hqo := (hok q (List.mem_of_getElem? hq)).rights
        have hat : atL a x = q.rights := by unfold atL; rw [hq]; rfl
        have s1 : meetN ((L.take (k + 1)).map fun x => (atL a x).read) = meetN ((L.take k).map fun x => (atL a x).read) &&& q.rights.read := by rw [map_succ hx, meetN_snoc, hat]
        have s2 : meetN ((L.take (k + 1)).map fun x => (atL a x).write) = meetN ((L.take k).map fun x => (atL a x).write) &&& q.rights.write := by rw [map_succ hx, meetN_snoc, hat]
        have s3 : meetN ((L.take (k + 1)).map fun x => (atL a x).own) = meetN ((L.take k).map fun x => (atL a x).own) &&& q.rights.own := by rw [map_succ hx, meetN_snoc, hat]
        have a1 : ∀ t o o2, BinRun Try.prog .and t o o2 (.int .u64 (meetN ((L.take k).map fun x => (atL a x).read) : Nat)) (.int .u64 (q.rights.read : Nat)) (.int .u64 (meetN ((L.take (k + 1)).map fun x => (atL a x).read) : Nat)) := fun t o o2 => by rw [s1]; exact andRun (meetN_lt64 _) hqo.read
        have a2 : ∀ t o o2, BinRun Try.prog .and t o o2 (.int .u64 (meetN ((L.take k).map fun x => (atL a x).write) : Nat)) (.int .u64 (q.rights.write : Nat)) (.int .u64 (meetN ((L.take (k + 1)).map fun x => (atL a x).write) : Nat)) := fun t o o2 => by rw [s2]; exact andRun (meetN_lt64 _) hqo.write
        have a3 : ∀ t o o2, BinRun Try.prog .and t o o2 (.int .u64 (meetN ((L.take k).map fun x => (atL a x).own) : Nat)) (.int .u64 (q.rights.own : Nat)) (.int .u64 (meetN ((L.take (k + 1)).map fun x => (atL a x).own) : Nat)) := fun t o o2 => by rw [s3]; exact andRun (meetN_lt64 _) hqo.own
        clear s1 s2 s3
        generalize lastN x a a.length = j at *
        repeat' (first
    | (apply RunK.callS; exact rfl; exact hlast; (repeat (first | exact ArgsLe.nil | refine ArgsLe.cons ?_ ?_ | exact ArgLe.v _ | exact ArgLe.sl _ _ _ _ | exact ArgLe.nil _ | exact ArgLe.nil' | (apply ArgLe.bsl; exact rfl; (first | exact rfl | (rw [List.length_map]; done) | (simp only [List.length_map]; done) | (simp; done) | (simp; omega)); (first | assumption | exact map_len (fun _ => rfl))))); exact rfl) | (apply RunK.loadER; exact rfl; exact rfl; exact hxv; exact rfl; (apply cut_eq; repeat (first | exact Cut.nil _ | apply Cut.cons | apply Cut.skip))) | (apply RunK.loadER; exact rfl; exact rfl; exact hqv; exact rfl; (apply cut_eq; repeat (first | exact Cut.nil _ | apply Cut.cons | apply Cut.skip))) | (apply RunK.loadR; exact rfl; exact rfl; exact hqv; exact rfl; (apply cut_eq; repeat (first | exact Cut.nil _ | apply Cut.cons | apply Cut.skip))) | (apply RunK.bin; exact rfl; exact rfl; exact rfl; first | exact a1 _ _ _ | exact a2 _ _ _ | exact a3 _ _ _)
    | refine Wt.seq ?_
    | (apply Wt.regionK; exact rfl)
    | refine Wt.block ?_
    | refine Wt.skip ?_
    | refine RunK.nil ?_
    | (apply RunK.moveV; exact rfl; exact rfl)
    | (apply RunK.index; exact rfl; exact rfl; exact rfl; (first | exact rfl | exact (rfl : (0 : Int) = ((0 : Nat) : Int)) | exact (rfl : (1 : Int) = ((1 : Nat) : Int)) | exact (rfl : (2 : Int) = ((2 : Nat) : Int)) | exact (rfl : (3 : Int) = ((3 : Nat) : Int)) | assumption); (first | omega | exact lt_of_get ‹_› | (rw [List.length_map]; omega) | (simp; omega)))
    | (apply RunK.load1; exact rfl; exact rfl; exact rfl; exact rfl)
    | (apply RunK.field; exact rfl; exact rfl)
    | (apply RunK.fieldE; exact rfl; exact rfl)
    | (apply RunK.assignV; exact rfl; exact rfl)
    | (apply RunK.alloc; exact rfl; apply Cells.eq; (first | exact Cells.agg _ | exact Cells.int _ _ | exact Cells.bool _ | exact Cells.one _ rfl); exact rfl)
    | (apply RunK.moveS; exact rfl; exact rfl)
    | (apply RunK.lss; exact rfl; exact rfl; exact rfl)
    | (apply RunK.add; exact rfl; exact rfl; exact rfl; (first | omega | (simp only [List.length_map]; omega)))
    | (apply RunK.len; exact rfl; exact rfl)
    | (apply RunK.build; exact rfl; (repeat (first | exact PartsOk.nil | (apply PartsOk.cons; exact rfl))); (repeat (first | exact fill_nil | (apply fill_cons; exact rfl; (first | exact Cells.agg _ | exact Cells.int _ _ | exact Cells.bool _ | exact Cells.one _ rfl); exact rfl; (repeat (first | exact Upd.nil _ | apply Upd.cons | apply Upd.skip))))))
    | (apply RunK.store; exact rfl; exact rfl; exact rfl; exact rfl; exact rfl; exact rfl; exact rfl; apply upd_eq; exact rfl; (first | exact Cells.agg _ | exact Cells.int _ _ | exact Cells.bool _ | exact Cells.one _ rfl); (repeat (first | exact Upd.nil _ | apply Upd.cons | apply Upd.skip)))
    | (apply Wt.cond; exact rfl; all_goals (intro hg; (first | exact absurd hg (by decide) | skip); (first | (with_reducible replace hg := not_t hg) | (with_reducible replace hg := not_f hg) | skip); (first | (with_reducible replace hg := dec_t hg) | (with_reducible replace hg := dec_f hg) | skip); (first | (with_reducible exact absurd rfl hg) | skip); (repeat rw [List.length_map] at hg); try (exfalso; omega))))
        refine ⟨k + 1, hlt, by omega, ?_⟩
        (refine Le.mk ?_ ?_; (repeat' (first | exact LeEnv.done | refine LeEnv.cons ?_ ?_ | exact PVLe.refl _ | exact PVLe.s (SVLe.nil _ _ _) | exact PVLe.s (SVLe.no _ _ _ _) | (refine PVLe.int ?_; first | rfl | omega | (simp; done) | (simp; omega)) | (refine PVLe.els ?_; first | rfl | assumption | (simp; done)) | (refine PVLe.bool ?_; first | rfl | assumption) | (refine PVLe.bsl ?_; first | rfl | assumption | (simp; done))));  (repeat' (first | exact LeBox.done | refine LeBox.cons ?_ ?_ | exact rfl)))
      · obtain rfl : k = L.length := by omega
        rw [List.take_length]
        repeat' (first
    | refine Wt.seq ?_
    | (apply Wt.regionK; exact rfl)
    | refine Wt.ret ?_
    | refine Wt.exit ?_
    | refine RunK.nil ?_
    | (apply RunK.moveV; exact rfl; exact rfl)
    | (apply RunK.assignV; exact rfl; exact rfl)
    | (apply RunK.moveS; exact rfl; exact rfl)
    | (apply RunK.loadR; exact rfl; exact rfl; exact rfl; exact rfl; (apply cut_eq; repeat (first | exact Cut.nil _ | apply Cut.cons | apply Cut.skip)))
    | (apply RunK.lss; exact rfl; exact rfl; exact rfl)
    | (apply RunK.len; exact rfl; exact rfl)
    | (apply RunK.store; exact rfl; exact rfl; exact rfl; exact rfl; exact rfl; exact rfl; exact rfl; apply upd_eq; exact rfl; (first | exact Cells.agg _ | exact Cells.int _ _ | exact Cells.bool _ | exact Cells.one _ rfl); (repeat (first | exact Upd.nil _ | apply Upd.cons | apply Upd.skip)))
    | (apply Wt.cond; exact rfl; all_goals (intro hg; (first | exact absurd hg (by decide) | skip); (first | (with_reducible replace hg := not_t hg) | (with_reducible replace hg := not_f hg) | skip); (first | (with_reducible replace hg := dec_t hg) | (with_reducible replace hg := dec_f hg) | skip); (first | (with_reducible exact absurd rfl hg) | skip); (repeat rw [List.length_map] at hg); try (exfalso; omega))))
        apply ResOk.cv; exact rfl; exact rfl; exact loadRow rfl rfl; exact rfl; exact rfl; exact rfl
  · rw [show overS r a = (noRights, regE r a) by simp [overS, he]]
    refine pure_of_wt Try.func66 rfl (by decide) _ Try.ntmps66 rfl Try.results66 fun w0 => ?_
    repeat' (first
    | (apply RunK.callS; exact rfl; exact hc; (repeat (first | exact ArgsLe.nil | refine ArgsLe.cons ?_ ?_ | exact ArgLe.v _ | exact ArgLe.sl _ _ _ _ | exact ArgLe.nil _ | exact ArgLe.nil' | (apply ArgLe.bsl; exact rfl; (first | exact rfl | (rw [List.length_map]; done) | (simp only [List.length_map]; done) | (simp; done) | (simp; omega)); (first | assumption | exact map_len (fun _ => rfl))))); exact rfl)
    | refine Wt.seq ?_
    | (apply Wt.regionK; exact rfl)
    | refine Wt.ret ?_
    | refine RunK.nil ?_
    | (apply RunK.moveV; exact rfl; exact rfl)
    | (apply RunK.assignV; exact rfl; exact rfl)
    | (apply RunK.box; exact rfl; exact rfl; apply Cells.eq; (first | exact Cells.agg _ | exact Cells.int _ _ | exact Cells.bool _ | exact Cells.one _ rfl); exact rfl)
    | (apply RunK.alloc; exact rfl; apply Cells.eq; (first | exact Cells.agg _ | exact Cells.int _ _ | exact Cells.bool _ | exact Cells.one _ rfl); exact rfl)
    | (apply RunK.moveS; exact rfl; exact rfl)
    | (apply RunK.loadR; exact rfl; exact rfl; exact rfl; exact rfl; (apply cut_eq; repeat (first | exact Cut.nil _ | apply Cut.cons | apply Cut.skip)))
    | (apply RunK.neq; exact rfl; exact rfl; exact rfl)
    | (apply RunK.build; exact rfl; (repeat (first | exact PartsOk.nil | (apply PartsOk.cons; exact rfl))); (repeat (first | exact fill_nil | (apply fill_cons; exact rfl; (first | exact Cells.agg _ | exact Cells.int _ _ | exact Cells.bool _ | exact Cells.one _ rfl); exact rfl; (repeat (first | exact Upd.nil _ | apply Upd.cons | apply Upd.skip))))))
    | (apply RunK.store; exact rfl; exact rfl; exact rfl; exact rfl; exact rfl; exact rfl; exact rfl; apply upd_eq; exact rfl; (first | exact Cells.agg _ | exact Cells.int _ _ | exact Cells.bool _ | exact Cells.one _ rfl); (repeat (first | exact Upd.nil _ | apply Upd.cons | apply Upd.skip)))
    | (apply Wt.cond; exact rfl; all_goals (intro hg; (first | exact absurd hg (by decide) | skip); (first | (with_reducible replace hg := not_t hg) | (with_reducible replace hg := not_f hg) | skip); (first | (with_reducible replace hg := dec_t hg) | (with_reducible replace hg := dec_f hg) | skip); (first | (with_reducible exact absurd rfl hg) | skip); (repeat rw [List.length_map] at hg); try (exfalso; omega))))
    apply ResOk.cv; exact rfl; exact rfl; exact loadRow rfl rfl; exact rfl; exact rfl; exact rfl
end Go.Proofs.Ytfacimebfdeaeaa
