/- The walks of audit.Grows and of the law AuditShows. -/
import Derived.Test.YtfacimebfdeaeaaH12
namespace Go.Proofs.Ytfacimebfdeaeaa
open Pv Go.RowKit
set_option maxRecDepth 100000 in
theorem take_next {α : Type} {a b : List α} {k : Nat} {x : α} (h : a.take k = b.take k) (ha : a[k]? = some x) (hb : b[k]? = some x) : a.take (k + 1) = b.take (k + 1) := by rw [List.take_add_one, List.take_add_one, h, ha, hb]
set_option maxRecDepth 100000 in
theorem slicesEqual (a b : List Event) (ha : a.length < 1000000000000000) (hb : b.length < 1000000000000000) : Pure Try.prog 77 [events a, events b] (.s (.v (.bool (decide (a = b))))) := by
  refine pure_of_wt Try.func77 rfl (by decide) _ Try.ntmps77 rfl Try.results77 fun w0 => ?_
  repeat' (first
    | refine Wt.seq ?_
    | (apply Wt.regionK; exact rfl)
    | refine Wt.ret ?_
    | refine Wt.block ?_
    | refine Wt.skip ?_
    | refine RunK.nil ?_
    | (apply RunK.moveV; exact rfl; exact rfl)
    | (apply RunK.assignV; exact rfl; exact rfl)
    | (apply RunK.moveS; exact rfl; exact rfl)
    | (apply RunK.neq; exact rfl; exact rfl; exact rfl)
    | (apply RunK.len; exact rfl; exact rfl)
    | (apply Wt.cond; exact rfl; all_goals (intro hg; (first | exact absurd hg (by decide) | skip); (first | (with_reducible replace hg := not_t hg) | (with_reducible replace hg := not_f hg) | skip); (first | (with_reducible replace hg := dec_t hg) | (with_reducible replace hg := dec_f hg) | skip); (first | (with_reducible exact absurd rfl hg) | skip); (repeat rw [List.length_map] at hg); try (exfalso; omega))))
  · apply ResOk.v1; exact rfl; refine bool_v ?_; symm; refine decide_eq_false ?_; rintro rfl; exact hg rfl
  have hab : a.length = b.length := by omega
  refine Wt.loop (fun k : Nat => ⟨[(0, .s (events a)), (1, .s (events b)), (12, .s (.v (.int .i64 a.length))), (13, .s (.v (.int .i64 k)))], []⟩) (fun k => k ≤ a.length ∧ a.take k = b.take k) (fun k => a.length - k) 0 ⟨Nat.zero_le _, rfl⟩ ?_ ?_
  · (refine Le.mk ?_ ?_; (repeat' (first | exact LeEnv.done | refine LeEnv.cons ?_ ?_ | exact PVLe.refl _ | exact PVLe.s (SVLe.nil _ _ _) | exact PVLe.s (SVLe.no _ _ _ _) | (refine PVLe.int ?_; first | rfl | omega | (simp; done) | (simp; omega)) | (refine PVLe.els ?_; first | rfl | assumption | (simp; done)) | (refine PVLe.bool ?_; first | rfl | assumption) | (refine PVLe.bsl ?_; first | rfl | assumption | (simp; done))));  (repeat' (first | exact LeBox.done | refine LeBox.cons ?_ ?_ | exact rfl)))
  · rintro k ⟨hk, hG⟩
    by_cases hlt : k < a.length
    · obtain ⟨r, hr⟩ := exists_at hlt
      obtain ⟨q, hq⟩ := exists_at (hab ▸ hlt)
      have hx := get_map (f := Event.vals) hr
      have hx2 := get_map (f := Event.vals) hq
      repeat' (first
    | (apply RunK.bin; exact rfl; exact rfl; exact rfl; exact neqEvent_ r q)
    | refine Wt.seq ?_
    | (apply Wt.regionK; exact rfl)
    | (apply Wt.regionD; kernel_rfl; kernel_rfl; exact rfl; exact rfl)
    | refine Wt.ret ?_
    | refine Wt.block ?_
    | refine Wt.skip ?_
    | refine RunK.nil ?_
    | (apply RunK.moveV; exact rfl; exact rfl)
    | (apply RunK.index; exact rfl; exact rfl; exact rfl; (first | exact rfl | exact (rfl : (0 : Int) = ((0 : Nat) : Int)) | exact (rfl : (1 : Int) = ((1 : Nat) : Int)) | exact (rfl : (2 : Int) = ((2 : Nat) : Int)) | exact (rfl : (3 : Int) = ((3 : Nat) : Int)) | assumption); (first | omega | exact lt_of_get ‹_› | (rw [List.length_map]; omega) | (simp; omega)))
    | (apply RunK.assignV; exact rfl; exact rfl)
    | (apply RunK.moveS; exact rfl; exact rfl)
    | (apply RunK.loadER; exact rfl; exact rfl; assumption; exact rfl; (apply cut_eq; repeat (first | exact Cut.nil _ | apply Cut.cons | apply Cut.skip)))
    | (apply RunK.lss; exact rfl; exact rfl; exact rfl)
    | (apply RunK.add; exact rfl; exact rfl; exact rfl; (first | omega | (simp only [List.length_map]; omega)))
    | (apply Wt.cond; exact rfl; all_goals (intro hg; (first | exact absurd hg (by decide) | skip); (first | (with_reducible replace hg := not_t hg) | (with_reducible replace hg := not_f hg) | skip); (first | (with_reducible replace hg := dec_t hg) | (with_reducible replace hg := dec_f hg) | skip); (first | (with_reducible exact absurd rfl hg) | skip); (repeat rw [List.length_map] at hg); try (exfalso; omega))))
      · apply ResOk.v1; exact rfl; refine bool_v ?_; symm; refine decide_eq_false ?_
        intro e; rw [e] at hr; rw [hr] at hq; injection hq with hq; exact hg hq
      · subst hg
        refine ⟨k + 1, ⟨hlt, take_next hG hr hq⟩, by omega, ?_⟩
        (refine Le.mk ?_ ?_; (repeat' (first | exact LeEnv.done | refine LeEnv.cons ?_ ?_ | exact PVLe.refl _ | exact PVLe.s (SVLe.nil _ _ _) | exact PVLe.s (SVLe.no _ _ _ _) | (refine PVLe.int ?_; first | rfl | omega | (simp; done) | (simp; omega)) | (refine PVLe.els ?_; first | rfl | assumption | (simp; done)) | (refine PVLe.bool ?_; first | rfl | assumption) | (refine PVLe.bsl ?_; first | rfl | assumption | (simp; done))));  (repeat' (first | exact LeBox.done | refine LeBox.cons ?_ ?_ | exact rfl)))
    · repeat' (first
    | refine Wt.seq ?_
    | (apply Wt.regionK; exact rfl)
    | refine Wt.ret ?_
    | refine Wt.exit ?_
    | refine RunK.nil ?_
    | (apply RunK.assignV; exact rfl; exact rfl)
    | (apply RunK.lss; exact rfl; exact rfl; exact rfl)
    | (apply Wt.cond; exact rfl; all_goals (intro hg; (first | exact absurd hg (by decide) | skip); (first | (with_reducible replace hg := not_t hg) | (with_reducible replace hg := not_f hg) | skip); (first | (with_reducible replace hg := dec_t hg) | (with_reducible replace hg := dec_f hg) | skip); (first | (with_reducible exact absurd rfl hg) | skip); (repeat rw [List.length_map] at hg); try (exfalso; omega))))
      rw [List.take_of_length_le (by omega), List.take_of_length_le (by omega)] at hG
      apply ResOk.v1; exact rfl; exact bool_v (decide_eq_true hG).symm
def growsB (a b : List Event) : Bool := decide (a = b.take a.length)
set_option maxRecDepth 100000 in
theorem growsB_long {a b : List Event} (h : b.length < a.length) : growsB a b = false := decide_eq_false fun e => by
  have := congrArg List.length e
  rw [List.length_take] at this
  omega
set_option maxRecDepth 100000 in
theorem auditGrows (a b : List Event) (ha : a.length < 1000000000000000) (hb : b.length < 1000000000000000) : Pure Try.prog 42 [events a, events b] (.s (.v (.bool (growsB a b)))) := by
  have he := slicesEqual a (b.take a.length) ha (by rw [List.length_take]; omega)
  unfold events at he
  rw [List.map_take] at he
  by_cases h : b.length < a.length
  · rw [growsB_long h]
    refine pure_of_wt Try.func42 rfl (by decide) _ Try.ntmps42 rfl Try.results42 fun w0 => ?_
    repeat' (first
    | refine Wt.seq ?_
    | (apply Wt.regionK; exact rfl)
    | refine Wt.ret ?_
    | refine RunK.nil ?_
    | (apply RunK.moveV; exact rfl; exact rfl)
    | (apply RunK.assignV; exact rfl; exact rfl)
    | (apply RunK.moveS; exact rfl; exact rfl)
    | (apply RunK.pickF; exact rfl; exact rfl; exact rfl)
    | (apply RunK.leq; exact rfl; exact rfl; exact rfl)
    | (apply RunK.len; exact rfl; exact rfl)
    | (apply RunK.skip; exact rfl; exact rfl)
    | (apply RunK.guard; exact rfl; exact rfl; exact rfl; all_goals (intro hg; (first | exact absurd hg (by decide) | skip); (first | (with_reducible replace hg := not_t hg) | (with_reducible replace hg := not_f hg) | skip); (first | (with_reducible replace hg := dec_t hg) | (with_reducible replace hg := dec_f hg) | skip); (first | (with_reducible exact absurd rfl hg) | skip); (repeat rw [List.length_map] at hg); try (exfalso; omega))))
    apply ResOk.v1; exact rfl; exact rfl
  · unfold growsB
    generalize decide (a = b.take a.length) = D at *
    refine pure_of_wt Try.func42 rfl (by decide) _ Try.ntmps42 rfl Try.results42 fun w0 => ?_
    repeat' (first
    | (apply RunK.sliceTo (l := a.length); exact rfl; exact rfl; exact rfl; exact (by rw [List.length_map]); (rw [List.length_map]; omega)) | (apply RunK.callS; exact rfl; exact he; (repeat (first | exact ArgsLe.nil | refine ArgsLe.cons ?_ ?_ | exact ArgLe.v _ | exact ArgLe.sl _ _ _ _ | exact ArgLe.nil _ | exact ArgLe.nil' | (apply ArgLe.bsl; exact rfl; (first | exact rfl | (rw [List.length_map]; done) | (simp only [List.length_map]; done) | (simp; done) | (simp; omega)); (first | assumption | exact map_len (fun _ => rfl))))); exact rfl)
    | refine Wt.seq ?_
    | (apply Wt.regionK; exact rfl)
    | refine Wt.ret ?_
    | refine RunK.nil ?_
    | (apply RunK.moveV; exact rfl; exact rfl)
    | (apply RunK.assignV; exact rfl; exact rfl)
    | (apply RunK.moveS; exact rfl; exact rfl)
    | (apply RunK.pickT; exact rfl; exact rfl; exact rfl)
    | (apply RunK.leq; exact rfl; exact rfl; exact rfl)
    | (apply RunK.len; exact rfl; exact rfl)
    | (apply RunK.guard; exact rfl; exact rfl; exact rfl; all_goals (intro hg; (first | exact absurd hg (by decide) | skip); (first | (with_reducible replace hg := not_t hg) | (with_reducible replace hg := not_f hg) | skip); (first | (with_reducible replace hg := dec_t hg) | (with_reducible replace hg := dec_f hg) | skip); (first | (with_reducible exact absurd rfl hg) | skip); (repeat rw [List.length_map] at hg); try (exfalso; omega))))
    apply ResOk.v1; exact rfl; exact rfl
set_option maxRecDepth 100000 in
theorem refGrows (a b : List Event) (_ha : a.length < 1000000000000000) (hb : b.length < 1000000000000000) : Pure Try.prog 49 [events a, events b] (.s (.v (.bool (growsB a b)))) := by
  by_cases h : b.length < a.length
  · rw [growsB_long h]
    refine pure_of_wt Try.func49 rfl (by decide) _ Try.ntmps49 rfl Try.results49 fun w0 => ?_
    repeat' (first
    | refine Wt.seq ?_
    | (apply Wt.regionK; exact rfl)
    | refine Wt.ret ?_
    | refine RunK.nil ?_
    | (apply RunK.assignV; exact rfl; exact rfl)
    | (apply RunK.moveS; exact rfl; exact rfl)
    | (apply RunK.gtr; exact rfl; exact rfl; exact rfl)
    | (apply RunK.len; exact rfl; exact rfl)
    | (apply Wt.cond; exact rfl; all_goals (intro hg; (first | exact absurd hg (by decide) | skip); (first | (with_reducible replace hg := not_t hg) | (with_reducible replace hg := not_f hg) | skip); (first | (with_reducible replace hg := dec_t hg) | (with_reducible replace hg := dec_f hg) | skip); (first | (with_reducible exact absurd rfl hg) | skip); (repeat rw [List.length_map] at hg); try (exfalso; omega))))
    apply ResOk.v1; exact rfl; exact rfl
  · unfold growsB
    refine pure_of_wt Try.func49 rfl (by decide) _ Try.ntmps49 rfl Try.results49 fun w0 => ?_
    repeat' (first
    | refine Wt.seq ?_
    | (apply Wt.regionK; exact rfl)
    | refine Wt.block ?_
    | refine Wt.skip ?_
    | refine RunK.nil ?_
    | (apply RunK.assignV; exact rfl; exact rfl)
    | (apply RunK.moveS; exact rfl; exact rfl)
    | (apply RunK.gtr; exact rfl; exact rfl; exact rfl)
    | (apply RunK.len; exact rfl; exact rfl)
    | (apply Wt.cond; exact rfl; all_goals (intro hg; (first | exact absurd hg (by decide) | skip); (first | (with_reducible replace hg := not_t hg) | (with_reducible replace hg := not_f hg) | skip); (first | (with_reducible replace hg := dec_t hg) | (with_reducible replace hg := dec_f hg) | skip); (first | (with_reducible exact absurd rfl hg) | skip); (repeat rw [List.length_map] at hg); try (exfalso; omega))))
    refine Wt.loop (fun k : Nat => ⟨[(0, .s (events a)), (1, .s (events b)), (5, .s (.v (.int .i64 k)))], []⟩) (fun k => k ≤ a.length ∧ a.take k = b.take k) (fun k => a.length - k) 0 ⟨Nat.zero_le _, rfl⟩ ?_ ?_
    · (refine Le.mk ?_ ?_; (repeat' (first | exact LeEnv.done | refine LeEnv.cons ?_ ?_ | exact PVLe.refl _ | exact PVLe.s (SVLe.nil _ _ _) | exact PVLe.s (SVLe.no _ _ _ _) | (refine PVLe.int ?_; first | rfl | omega | (simp; done) | (simp; omega)) | (refine PVLe.els ?_; first | rfl | assumption | (simp; done)) | (refine PVLe.bool ?_; first | rfl | assumption) | (refine PVLe.bsl ?_; first | rfl | assumption | (simp; done))));  (repeat' (first | exact LeBox.done | refine LeBox.cons ?_ ?_ | exact rfl)))
    · rintro k ⟨hk, hG⟩
      by_cases hlt : k < a.length
      · obtain ⟨r, hr⟩ := exists_at hlt
        obtain ⟨q, hq⟩ := exists_at (show k < b.length by omega)
        have hx := get_map (f := Event.vals) hr
        have hx2 := get_map (f := Event.vals) hq
        repeat' (first
    | (apply RunK.bin; exact rfl; exact rfl; exact rfl; exact neqEvent_ r q)
    | refine Wt.seq ?_
    | (apply Wt.regionK; exact rfl)
    | (apply Wt.regionD; kernel_rfl; kernel_rfl; exact rfl; exact rfl)
    | refine Wt.ret ?_
    | refine Wt.block ?_
    | refine Wt.skip ?_
    | refine RunK.nil ?_
    | (apply RunK.moveV; exact rfl; exact rfl)
    | (apply RunK.index; exact rfl; exact rfl; exact rfl; (first | exact rfl | exact (rfl : (0 : Int) = ((0 : Nat) : Int)) | exact (rfl : (1 : Int) = ((1 : Nat) : Int)) | exact (rfl : (2 : Int) = ((2 : Nat) : Int)) | exact (rfl : (3 : Int) = ((3 : Nat) : Int)) | assumption); (first | omega | exact lt_of_get ‹_› | (rw [List.length_map]; omega) | (simp; omega)))
    | (apply RunK.assignV; exact rfl; exact rfl)
    | (apply RunK.moveS; exact rfl; exact rfl)
    | (apply RunK.loadER; exact rfl; exact rfl; assumption; exact rfl; (apply cut_eq; repeat (first | exact Cut.nil _ | apply Cut.cons | apply Cut.skip)))
    | (apply RunK.lss; exact rfl; exact rfl; exact rfl)
    | (apply RunK.add; exact rfl; exact rfl; exact rfl; (first | omega | (simp only [List.length_map]; omega)))
    | (apply RunK.len; exact rfl; exact rfl)
    | (apply Wt.cond; exact rfl; all_goals (intro hg; (first | exact absurd hg (by decide) | skip); (first | (with_reducible replace hg := not_t hg) | (with_reducible replace hg := not_f hg) | skip); (first | (with_reducible replace hg := dec_t hg) | (with_reducible replace hg := dec_f hg) | skip); (first | (with_reducible exact absurd rfl hg) | skip); (repeat rw [List.length_map] at hg); try (exfalso; omega))))
        · apply ResOk.v1; exact rfl; refine bool_v ?_; symm; refine decide_eq_false ?_
          intro e
          rw [e, List.getElem?_take_of_lt hlt, hq] at hr
          injection hr with hr
          exact hg hr.symm
        · subst hg
          refine ⟨k + 1, ⟨hlt, take_next hG hr hq⟩, by omega, ?_⟩
          (refine Le.mk ?_ ?_; (repeat' (first | exact LeEnv.done | refine LeEnv.cons ?_ ?_ | exact PVLe.refl _ | exact PVLe.s (SVLe.nil _ _ _) | exact PVLe.s (SVLe.no _ _ _ _) | (refine PVLe.int ?_; first | rfl | omega | (simp; done) | (simp; omega)) | (refine PVLe.els ?_; first | rfl | assumption | (simp; done)) | (refine PVLe.bool ?_; first | rfl | assumption) | (refine PVLe.bsl ?_; first | rfl | assumption | (simp; done))));  (repeat' (first | exact LeBox.done | refine LeBox.cons ?_ ?_ | exact rfl)))
      · repeat' (first
    | refine Wt.seq ?_
    | (apply Wt.regionK; exact rfl)
    | refine Wt.ret ?_
    | refine Wt.exit ?_
    | refine RunK.nil ?_
    | (apply RunK.moveV; exact rfl; exact rfl)
    | (apply RunK.assignV; exact rfl; exact rfl)
    | (apply RunK.moveS; exact rfl; exact rfl)
    | (apply RunK.lss; exact rfl; exact rfl; exact rfl)
    | (apply RunK.len; exact rfl; exact rfl)
    | (apply Wt.cond; exact rfl; all_goals (intro hg; (first | exact absurd hg (by decide) | skip); (first | (with_reducible replace hg := not_t hg) | (with_reducible replace hg := not_f hg) | skip); (first | (with_reducible replace hg := dec_t hg) | (with_reducible replace hg := dec_f hg) | skip); (first | (with_reducible exact absurd rfl hg) | skip); (repeat rw [List.length_map] at hg); try (exfalso; omega))))
        rw [List.take_of_length_le (by omega), show k = a.length by omega] at hG
        apply ResOk.v1; exact rfl; exact bool_v (decide_eq_true hG).symm
set_option maxRecDepth 100000 in
theorem list9 {α : Type} {z : List α} (h : z.length = 9) : ∃ a1 a2 a3 a4 a5 a6 a7 a8 a9, z = [a1, a2, a3, a4, a5, a6, a7, a8, a9] := by
  match z, h with
  | [a1, a2, a3, a4, a5, a6, a7, a8, a9], _ => exact ⟨a1, a2, a3, a4, a5, a6, a7, a8, a9, rfl⟩
set_option maxRecDepth 100000 in
theorem list11 {α : Type} {z : List α} (h : z.length = 11) : ∃ a1 a2 a3 a4 a5 a6 a7 a8 a9 a10 a11, z = [a1, a2, a3, a4, a5, a6, a7, a8, a9, a10, a11] := by
  match z, h with
  | [a1, a2, a3, a4, a5, a6, a7, a8, a9, a10, a11], _ => exact ⟨a1, a2, a3, a4, a5, a6, a7, a8, a9, a10, a11, rfl⟩
def rel0 : Release := ⟨0, ⟨0, 0⟩, 0, 0, rect0, 0, 0⟩
set_option maxRecDepth 100000 in
theorem neqBool_ {x y : Operand} (a : Bool) : BinRun Try.prog .neq 4 x y (.bool a) (.bool a) (.bool false) := fun w => by
  rw [Sem.run_bind, eqGuard_bool]
  cases a <;> go_simp
set_option maxHeartbeats 4000000 in
set_option maxRecDepth 100000 in
theorem lawShows (u : Int) (_hu : i64 u) (l : List Event) (hl : l.length * 72 ≤ 140737488351232) (hol : ∀ x ∈ l, x.ok) (m : List Event) (hm : m.length * 72 ≤ 140737488351232) (_hom : ∀ x ∈ m, x.ok) (r : List Release) (hr : r.length * 88 ≤ 140737488351232) (hor : ∀ x ∈ r, x.ok) : Pure Try.prog 12 [.v (.int .i64 u), events l, events m, releases r] (.s (.v (.bool true))) := by
  have h1 := auditEvents u l hl hol
  have h2 := auditReleases u r hr hor
  have h3 := refEvents u l hl hol
  have h4 := refReleases u r hr hor
  have n1 : (seenEvent u l).length ≤ l.length := List.length_filter_le _ _
  have n2 : (seenRelease u r).length ≤ r.length := List.length_filter_le _ _
  have e1 := equalEvents (seenEvent u l) (seenEvent u l) (by omega) (by omega)
  have e2 := equalReleases (seenRelease u r) (seenRelease u r) (by omega) (by omega)
  have e3 := equalEvents l l (by omega) (by omega)
  have e4 := equalReleases r r (by omega) (by omega)
  rw [decide_eq_true rfl] at e1 e2 e3 e4
  have g1 := auditGrows l m (by omega) (by omega)
  have g2 := refGrows l m (by omega) (by omega)
  generalize growsB l m = B at *
  generalize seenEvent u l = X at *
  generalize seenRelease u r = Y at *
  refine pure_of_wt Try.func12 rfl (by decide) _ Try.ntmps12 rfl Try.results12 fun w0 => ?_
  repeat' (first
    | (apply RunK.callS; exact rfl; exact (copyEvents l hl); (repeat (first | exact ArgsLe.nil | refine ArgsLe.cons ?_ ?_ | exact ArgLe.v _ | exact ArgLe.sl _ _ _ _ | exact ArgLe.nil _ | exact ArgLe.nil' | (apply ArgLe.bsl; exact rfl; (first | exact rfl | (rw [List.length_map]; done) | (simp only [List.length_map]; done) | (simp; done) | (simp; omega)); (first | assumption | exact map_len (fun _ => rfl))))); exact rfl) | (apply RunK.callS; exact rfl; exact (copyReleases r hr); (repeat (first | exact ArgsLe.nil | refine ArgsLe.cons ?_ ?_ | exact ArgLe.v _ | exact ArgLe.sl _ _ _ _ | exact ArgLe.nil _ | exact ArgLe.nil' | (apply ArgLe.bsl; exact rfl; (first | exact rfl | (rw [List.length_map]; done) | (simp only [List.length_map]; done) | (simp; done) | (simp; omega)); (first | assumption | exact map_len (fun _ => rfl))))); exact rfl) | (apply RunK.callS; exact rfl; exact h1; (repeat (first | exact ArgsLe.nil | refine ArgsLe.cons ?_ ?_ | exact ArgLe.v _ | exact ArgLe.sl _ _ _ _ | exact ArgLe.nil _ | exact ArgLe.nil' | (apply ArgLe.bsl; exact rfl; (first | exact rfl | (rw [List.length_map]; done) | (simp only [List.length_map]; done) | (simp; done) | (simp; omega)); (first | assumption | exact map_len (fun _ => rfl))))); exact rfl) | (apply RunK.callS; exact rfl; exact h2; (repeat (first | exact ArgsLe.nil | refine ArgsLe.cons ?_ ?_ | exact ArgLe.v _ | exact ArgLe.sl _ _ _ _ | exact ArgLe.nil _ | exact ArgLe.nil' | (apply ArgLe.bsl; exact rfl; (first | exact rfl | (rw [List.length_map]; done) | (simp only [List.length_map]; done) | (simp; done) | (simp; omega)); (first | assumption | exact map_len (fun _ => rfl))))); exact rfl) | (apply RunK.callS; exact rfl; exact h3; (repeat (first | exact ArgsLe.nil | refine ArgsLe.cons ?_ ?_ | exact ArgLe.v _ | exact ArgLe.sl _ _ _ _ | exact ArgLe.nil _ | exact ArgLe.nil' | (apply ArgLe.bsl; exact rfl; (first | exact rfl | (rw [List.length_map]; done) | (simp only [List.length_map]; done) | (simp; done) | (simp; omega)); (first | assumption | exact map_len (fun _ => rfl))))); exact rfl) | (apply RunK.callS; exact rfl; exact h4; (repeat (first | exact ArgsLe.nil | refine ArgsLe.cons ?_ ?_ | exact ArgLe.v _ | exact ArgLe.sl _ _ _ _ | exact ArgLe.nil _ | exact ArgLe.nil' | (apply ArgLe.bsl; exact rfl; (first | exact rfl | (rw [List.length_map]; done) | (simp only [List.length_map]; done) | (simp; done) | (simp; omega)); (first | assumption | exact map_len (fun _ => rfl))))); exact rfl) | (apply RunK.callS; exact rfl; exact e1; (repeat (first | exact ArgsLe.nil | refine ArgsLe.cons ?_ ?_ | exact ArgLe.v _ | exact ArgLe.sl _ _ _ _ | exact ArgLe.nil _ | exact ArgLe.nil' | (apply ArgLe.bsl; exact rfl; (first | exact rfl | (rw [List.length_map]; done) | (simp only [List.length_map]; done) | (simp; done) | (simp; omega)); (first | assumption | exact map_len (fun _ => rfl))))); exact rfl) | (apply RunK.callS; exact rfl; exact e2; (repeat (first | exact ArgsLe.nil | refine ArgsLe.cons ?_ ?_ | exact ArgLe.v _ | exact ArgLe.sl _ _ _ _ | exact ArgLe.nil _ | exact ArgLe.nil' | (apply ArgLe.bsl; exact rfl; (first | exact rfl | (rw [List.length_map]; done) | (simp only [List.length_map]; done) | (simp; done) | (simp; omega)); (first | assumption | exact map_len (fun _ => rfl))))); exact rfl) | (apply RunK.callS; exact rfl; exact g1; (repeat (first | exact ArgsLe.nil | refine ArgsLe.cons ?_ ?_ | exact ArgLe.v _ | exact ArgLe.sl _ _ _ _ | exact ArgLe.nil _ | exact ArgLe.nil' | (apply ArgLe.bsl; exact rfl; (first | exact rfl | (rw [List.length_map]; done) | (simp only [List.length_map]; done) | (simp; done) | (simp; omega)); (first | assumption | exact map_len (fun _ => rfl))))); exact rfl) | (apply RunK.callS; exact rfl; exact g2; (repeat (first | exact ArgsLe.nil | refine ArgsLe.cons ?_ ?_ | exact ArgLe.v _ | exact ArgLe.sl _ _ _ _ | exact ArgLe.nil _ | exact ArgLe.nil' | (apply ArgLe.bsl; exact rfl; (first | exact rfl | (rw [List.length_map]; done) | (simp only [List.length_map]; done) | (simp; done) | (simp; omega)); (first | assumption | exact map_len (fun _ => rfl))))); exact rfl) | (apply RunK.bin; exact rfl; exact rfl; exact rfl; exact neqBool_ B)
    | refine Wt.seq ?_
    | (apply Wt.regionK; exact rfl)
    | refine Wt.ret ?_
    | refine Wt.block ?_
    | refine Wt.skip ?_
    | refine RunK.nil ?_
    | (apply RunK.moveV; exact rfl; exact rfl)
    | (apply RunK.assignV; exact rfl; exact rfl)
    | (apply RunK.moveS; exact rfl; exact rfl)
    | (apply RunK.assignS; exact rfl; exact rfl)
    | (apply RunK.pickT; exact rfl; exact rfl; exact rfl)
    | (apply RunK.pickF; exact rfl; exact rfl; exact rfl)
    | (apply RunK.gtr; exact rfl; exact rfl; exact rfl)
    | (apply RunK.not; exact rfl; exact rfl)
    | (apply RunK.len; exact rfl; exact rfl)
    | (apply RunK.skip; exact rfl; exact rfl)
    | (apply RunK.guard; exact rfl; exact rfl; exact rfl; all_goals (intro hg; (first | exact absurd hg (by decide) | skip); (first | (with_reducible replace hg := not_t hg) | (with_reducible replace hg := not_f hg) | skip); (first | (with_reducible replace hg := dec_t hg) | (with_reducible replace hg := dec_f hg) | skip); (first | (with_reducible exact absurd rfl hg) | skip); (repeat rw [List.length_map] at hg); try (exfalso; omega)))
    | (apply Wt.cond; exact rfl; all_goals (intro hg; (first | exact absurd hg (by decide) | skip); (first | (with_reducible replace hg := not_t hg) | (with_reducible replace hg := not_f hg) | skip); (first | (with_reducible replace hg := dec_t hg) | (with_reducible replace hg := dec_f hg) | skip); (first | (with_reducible exact absurd rfl hg) | skip); (repeat rw [List.length_map] at hg); try (exfalso; omega))))
  all_goals first | (apply ResOk.v1; exact rfl; exact rfl; done) | skip
  refine Wt.le ⟨[(1, .s (events l)), (3, .s (releases r)), (9, .s (.sl (some 29) (.front 68) 9 (l.map Event.vals))), (10, .s (.sl (some 31) (.front 91) 11 (r.map Release.vals))), (11, .s (.sl (some 34) (.front 68) 9 (X.map Event.vals))), (12, .s (.sl (some 37) (.front 91) 11 (Y.map Release.vals))), (13, .s (.v (.int .i64 0)))], []⟩ ?_ ?_
  · (refine Le.mk ?_ ?_; (repeat' (first | exact LeEnv.done | refine LeEnv.cons ?_ ?_ | exact PVLe.refl _ | exact PVLe.s (SVLe.nil _ _ _) | exact PVLe.s (SVLe.no _ _ _ _) | (refine PVLe.int ?_; first | rfl | omega | (simp; done) | (simp; omega)) | (refine PVLe.els ?_; first | rfl | assumption | (simp; done)) | (refine PVLe.bool ?_; first | rfl | assumption) | (refine PVLe.bsl ?_; first | rfl | assumption | (simp; done))));  (repeat' (first | exact LeBox.done | refine LeBox.cons ?_ ?_ | exact rfl)))
  refine Wt.thaw 11 11 rfl rfl rfl ?_
  refine Wt.loop (fun i : Nat × List (List Value) => ⟨[(1, .s (events l)), (3, .s (releases r)), (9, .s (.sl (some 29) (.front 68) 9 (l.map Event.vals))), (10, .s (.sl (some 31) (.front 91) 11 (r.map Release.vals))), (11, .bsl 11 0 9 X.length), (12, .s (.sl (some 37) (.front 91) 11 (Y.map Release.vals))), (13, .s (.v (.int .i64 i.1)))], [(11, i.2.flatten)]⟩) (fun i => i.1 ≤ X.length ∧ i.2.length = X.length ∧ ∀ e ∈ i.2, e.length = 9) (fun i => X.length - i.1) (0, X.map Event.vals) ⟨Nat.zero_le _, List.length_map .., map_len (fun _ => rfl)⟩ ?_ ?_
  · (refine Le.mk ?_ ?_; (repeat' (first | exact LeEnv.done | refine LeEnv.cons ?_ ?_ | exact PVLe.refl _ | exact PVLe.s (SVLe.nil _ _ _) | exact PVLe.s (SVLe.no _ _ _ _) | (refine PVLe.int ?_; first | rfl | omega | (simp; done) | (simp; omega)) | (refine PVLe.els ?_; first | rfl | assumption | (simp; done)) | (refine PVLe.bool ?_; first | rfl | assumption) | (refine PVLe.bsl ?_; first | rfl | assumption | (simp; done))));  (repeat' (first | exact LeBox.done | refine LeBox.cons ?_ ?_ | exact rfl)))
  · rintro ⟨k, Z⟩ ⟨hk, hZ, hw⟩
    dsimp only at hk hZ hw ⊢
    by_cases hlt : k < X.length
    · obtain ⟨z, hz⟩ := exists_at (l := Z) (k := k) (by omega)
      have hzw := hw z (List.mem_of_getElem? hz)
      obtain ⟨a1, a2, a3, a4, a5, a6, a7, a8, a9, rfl⟩ := list9 hzw
      repeat' (first
    | refine Wt.seq ?_
    | (apply Wt.regionK; exact rfl)
    | refine Wt.block ?_
    | refine Wt.skip ?_
    | refine RunK.nil ?_
    | (apply RunK.moveV; exact rfl; exact rfl)
    | (apply RunK.assignV; exact rfl; exact rfl)
    | (apply RunK.moveBs; exact rfl; exact rfl)
    | (apply RunK.indexS; exact rfl; exact rfl; exact rfl; (first | exact rfl | exact (rfl : (0 : Int) = ((0 : Nat) : Int)) | exact (rfl : (1 : Int) = ((1 : Nat) : Int)) | exact (rfl : (2 : Int) = ((2 : Nat) : Int)) | exact (rfl : (3 : Int) = ((3 : Nat) : Int)) | assumption); (first | omega | exact lt_of_get ‹_› | (rw [List.length_map]; omega) | (simp; omega)))
    | (apply RunK.lenS; exact rfl; exact rfl)
    | (apply RunK.lss; exact rfl; exact rfl; exact rfl)
    | (apply RunK.add; exact rfl; exact rfl; exact rfl; (first | omega | (simp only [List.length_map]; omega)))
    | (apply RunK.build; exact rfl; (repeat (first | exact PartsOk.nil | (apply PartsOk.cons; exact rfl))); (repeat (first | exact fill_nil | (apply fill_cons; exact rfl; (first | exact Cells.agg _ | exact Cells.int _ _ | exact Cells.bool _ | exact Cells.one _ rfl); exact rfl; (repeat (first | exact Upd.nil _ | apply Upd.cons | apply Upd.skip))))))
    | (apply RunK.storeF; exact rfl; exact rfl; exact rfl; exact rfl; (first | exact off0 _ _ | exact off1 _ _ _ | exact off2 _ _ _ _ | exact off3 _ _ _ _ _ | omega); (first | assumption | exact map_len (fun _ => rfl)); assumption; exact rfl; exact rfl; exact rfl; (first | exact Cells.agg _ | exact Cells.int _ _ | exact Cells.bool _ | exact Cells.one _ rfl); (repeat (first | exact Upd.nil _ | apply Upd.cons | apply Upd.skip)))
    | (apply Wt.cond; exact rfl; all_goals (intro hg; (first | exact absurd hg (by decide) | skip); (first | (with_reducible replace hg := not_t hg) | (with_reducible replace hg := not_f hg) | skip); (first | (with_reducible replace hg := dec_t hg) | (with_reducible replace hg := dec_f hg) | skip); (first | (with_reducible exact absurd rfl hg) | skip); (repeat rw [List.length_map] at hg); try (exfalso; omega))))
      refine ⟨(k + 1, Z.set k ev0.vals), ⟨hlt, (List.length_set ..).trans hZ, set_len hw rfl⟩, by show X.length - (k + 1) < X.length - k; omega, ?_⟩
      dsimp only
      (refine Le.mk ?_ ?_; (repeat' (first | exact LeEnv.done | refine LeEnv.cons ?_ ?_ | exact PVLe.refl _ | exact PVLe.s (SVLe.nil _ _ _) | exact PVLe.s (SVLe.no _ _ _ _) | (refine PVLe.int ?_; first | rfl | omega | (simp; done) | (simp; omega)) | (refine PVLe.els ?_; first | rfl | assumption | (simp; done)) | (refine PVLe.bool ?_; first | rfl | assumption) | (refine PVLe.bsl ?_; first | rfl | assumption | (simp; done))));  (repeat' (first | exact LeBox.done | refine LeBox.cons ?_ ?_ | exact rfl)))
    · clear hZ hw
      repeat' (first
    | refine Wt.seq ?_
    | (apply Wt.regionK; exact rfl)
    | refine Wt.block ?_
    | refine Wt.exit ?_
    | refine RunK.nil ?_
    | (apply RunK.moveV; exact rfl; exact rfl)
    | (apply RunK.assignV; exact rfl; exact rfl)
    | (apply RunK.moveBs; exact rfl; exact rfl)
    | (apply RunK.lenS; exact rfl; exact rfl)
    | (apply RunK.lss; exact rfl; exact rfl; exact rfl)
    | (apply Wt.cond; exact rfl; all_goals (intro hg; (first | exact absurd hg (by decide) | skip); (first | (with_reducible replace hg := not_t hg) | (with_reducible replace hg := not_f hg) | skip); (first | (with_reducible replace hg := dec_t hg) | (with_reducible replace hg := dec_f hg) | skip); (first | (with_reducible exact absurd rfl hg) | skip); (repeat rw [List.length_map] at hg); try (exfalso; omega))))
      refine Wt.le ⟨[(1, .s (events l)), (3, .s (releases r)), (9, .s (.sl (some 29) (.front 68) 9 (l.map Event.vals))), (10, .s (.sl (some 31) (.front 91) 11 (r.map Release.vals))), (12, .s (.sl (some 37) (.front 91) 11 (Y.map Release.vals))), (14, .s (.v (.int .i64 0)))], []⟩ ?_ ?_
      · (refine Le.mk ?_ ?_; (repeat' (first | exact LeEnv.done | refine LeEnv.cons ?_ ?_ | exact PVLe.refl _ | exact PVLe.s (SVLe.nil _ _ _) | exact PVLe.s (SVLe.no _ _ _ _) | (refine PVLe.int ?_; first | rfl | omega | (simp; done) | (simp; omega)) | (refine PVLe.els ?_; first | rfl | assumption | (simp; done)) | (refine PVLe.bool ?_; first | rfl | assumption) | (refine PVLe.bsl ?_; first | rfl | assumption | (simp; done))));  (repeat' (first | exact LeBox.done | refine LeBox.cons ?_ ?_ | exact rfl)))
      refine Wt.thaw 12 12 rfl rfl rfl ?_
      refine Wt.loop (fun i : Nat × List (List Value) => ⟨[(1, .s (events l)), (3, .s (releases r)), (9, .s (.sl (some 29) (.front 68) 9 (l.map Event.vals))), (10, .s (.sl (some 31) (.front 91) 11 (r.map Release.vals))), (12, .bsl 12 0 11 Y.length), (14, .s (.v (.int .i64 i.1)))], [(12, i.2.flatten)]⟩) (fun i => i.1 ≤ Y.length ∧ i.2.length = Y.length ∧ ∀ e ∈ i.2, e.length = 11) (fun i => Y.length - i.1) (0, Y.map Release.vals) ⟨Nat.zero_le _, List.length_map .., map_len (fun _ => rfl)⟩ ?_ ?_
      · (refine Le.mk ?_ ?_; (repeat' (first | exact LeEnv.done | refine LeEnv.cons ?_ ?_ | exact PVLe.refl _ | exact PVLe.s (SVLe.nil _ _ _) | exact PVLe.s (SVLe.no _ _ _ _) | (refine PVLe.int ?_; first | rfl | omega | (simp; done) | (simp; omega)) | (refine PVLe.els ?_; first | rfl | assumption | (simp; done)) | (refine PVLe.bool ?_; first | rfl | assumption) | (refine PVLe.bsl ?_; first | rfl | assumption | (simp; done))));  (repeat' (first | exact LeBox.done | refine LeBox.cons ?_ ?_ | exact rfl)))
      · clear hk hlt Z hg k
        rintro ⟨k, Z⟩ ⟨hk, hZ, hw⟩
        dsimp only at hk hZ hw ⊢
        by_cases hlt : k < Y.length
        · obtain ⟨z, hz⟩ := exists_at (l := Z) (k := k) (by omega)
          have hzw := hw z (List.mem_of_getElem? hz)
          obtain ⟨a1, a2, a3, a4, a5, a6, a7, a8, a9, a10, a11, rfl⟩ := list11 hzw
          repeat' (first
    | refine Wt.seq ?_
    | (apply Wt.regionK; exact rfl)
    | refine Wt.block ?_
    | refine Wt.skip ?_
    | refine RunK.nil ?_
    | (apply RunK.moveV; exact rfl; exact rfl)
    | (apply RunK.assignV; exact rfl; exact rfl)
    | (apply RunK.moveBs; exact rfl; exact rfl)
    | (apply RunK.indexS; exact rfl; exact rfl; exact rfl; (first | exact rfl | exact (rfl : (0 : Int) = ((0 : Nat) : Int)) | exact (rfl : (1 : Int) = ((1 : Nat) : Int)) | exact (rfl : (2 : Int) = ((2 : Nat) : Int)) | exact (rfl : (3 : Int) = ((3 : Nat) : Int)) | assumption); (first | omega | exact lt_of_get ‹_› | (rw [List.length_map]; omega) | (simp; omega)))
    | (apply RunK.lenS; exact rfl; exact rfl)
    | (apply RunK.lss; exact rfl; exact rfl; exact rfl)
    | (apply RunK.add; exact rfl; exact rfl; exact rfl; (first | omega | (simp only [List.length_map]; omega)))
    | (apply RunK.build; exact rfl; (repeat (first | exact PartsOk.nil | (apply PartsOk.cons; exact rfl))); (repeat (first | exact fill_nil | (apply fill_cons; exact rfl; (first | exact Cells.agg _ | exact Cells.int _ _ | exact Cells.bool _ | exact Cells.one _ rfl); exact rfl; (repeat (first | exact Upd.nil _ | apply Upd.cons | apply Upd.skip))))))
    | (apply RunK.storeF; exact rfl; exact rfl; exact rfl; exact rfl; (first | exact off0 _ _ | exact off1 _ _ _ | exact off2 _ _ _ _ | exact off3 _ _ _ _ _ | omega); (first | assumption | exact map_len (fun _ => rfl)); assumption; exact rfl; exact rfl; exact rfl; (first | exact Cells.agg _ | exact Cells.int _ _ | exact Cells.bool _ | exact Cells.one _ rfl); (repeat (first | exact Upd.nil _ | apply Upd.cons | apply Upd.skip)))
    | (apply Wt.cond; exact rfl; all_goals (intro hg; (first | exact absurd hg (by decide) | skip); (first | (with_reducible replace hg := not_t hg) | (with_reducible replace hg := not_f hg) | skip); (first | (with_reducible replace hg := dec_t hg) | (with_reducible replace hg := dec_f hg) | skip); (first | (with_reducible exact absurd rfl hg) | skip); (repeat rw [List.length_map] at hg); try (exfalso; omega))))
          refine ⟨(k + 1, Z.set k rel0.vals), ⟨hlt, (List.length_set ..).trans hZ, set_len hw rfl⟩, by show Y.length - (k + 1) < Y.length - k; omega, ?_⟩
          dsimp only
          (refine Le.mk ?_ ?_; (repeat' (first | exact LeEnv.done | refine LeEnv.cons ?_ ?_ | exact PVLe.refl _ | exact PVLe.s (SVLe.nil _ _ _) | exact PVLe.s (SVLe.no _ _ _ _) | (refine PVLe.int ?_; first | rfl | omega | (simp; done) | (simp; omega)) | (refine PVLe.els ?_; first | rfl | assumption | (simp; done)) | (refine PVLe.bool ?_; first | rfl | assumption) | (refine PVLe.bsl ?_; first | rfl | assumption | (simp; done))));  (repeat' (first | exact LeBox.done | refine LeBox.cons ?_ ?_ | exact rfl)))
        · repeat' (first
    | (apply RunK.callS; exact rfl; exact e3; (repeat (first | exact ArgsLe.nil | refine ArgsLe.cons ?_ ?_ | exact ArgLe.v _ | exact ArgLe.sl _ _ _ _ | exact ArgLe.nil _ | exact ArgLe.nil' | (apply ArgLe.bsl; exact rfl; (first | exact rfl | (rw [List.length_map]; done) | (simp only [List.length_map]; done) | (simp; done) | (simp; omega)); (first | assumption | exact map_len (fun _ => rfl))))); exact rfl) | (apply RunK.callS; exact rfl; exact e4; (repeat (first | exact ArgsLe.nil | refine ArgsLe.cons ?_ ?_ | exact ArgLe.v _ | exact ArgLe.sl _ _ _ _ | exact ArgLe.nil _ | exact ArgLe.nil' | (apply ArgLe.bsl; exact rfl; (first | exact rfl | (rw [List.length_map]; done) | (simp only [List.length_map]; done) | (simp; done) | (simp; omega)); (first | assumption | exact map_len (fun _ => rfl))))); exact rfl) | (apply RunK.callS; exact rfl; exact awake30; (repeat (first | exact ArgsLe.nil | refine ArgsLe.cons ?_ ?_ | exact ArgLe.v _ | exact ArgLe.sl _ _ _ _ | exact ArgLe.nil _ | exact ArgLe.nil' | (apply ArgLe.bsl; exact rfl; (first | exact rfl | (rw [List.length_map]; done) | (simp only [List.length_map]; done) | (simp; done) | (simp; omega)); (first | assumption | exact map_len (fun _ => rfl))))); exact rfl)
    | refine Wt.seq ?_
    | (apply Wt.regionK; exact rfl)
    | refine Wt.ret ?_
    | refine Wt.exit ?_
    | refine RunK.nil ?_
    | (apply RunK.moveV; exact rfl; exact rfl)
    | (apply RunK.assignV; exact rfl; exact rfl)
    | (apply RunK.moveS; exact rfl; exact rfl)
    | (apply RunK.moveBs; exact rfl; exact rfl)
    | (apply RunK.lenS; exact rfl; exact rfl)
    | (apply RunK.pickT; exact rfl; exact rfl; exact rfl)
    | (apply RunK.lss; exact rfl; exact rfl; exact rfl)
    | (apply Wt.cond; exact rfl; all_goals (intro hg; (first | exact absurd hg (by decide) | skip); (first | (with_reducible replace hg := not_t hg) | (with_reducible replace hg := not_f hg) | skip); (first | (with_reducible replace hg := dec_t hg) | (with_reducible replace hg := dec_f hg) | skip); (first | (with_reducible exact absurd rfl hg) | skip); (repeat rw [List.length_map] at hg); try (exfalso; omega))))
          all_goals (apply ResOk.v1; exact rfl; exact rfl)
end Go.Proofs.Ytfacimebfdeaeaa
