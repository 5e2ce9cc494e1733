/- The walks of the helpers on lists of entries. -/
import Derived.Test.YtfacimebfdeaeaaH6
namespace Go.Proofs.Ytfacimebfdeaeaa
open Pv Go.RowKit
set_option maxRecDepth 100000 in
theorem neqEvent_ {x y : Operand} (a b : Event) : BinRun Try.prog .neq 68 x y a.v b.v (.bool (!decide (a = b))) := by
  refine eqRun (by kernel_rfl) fun w => ?_
  rcases a with ⟨s1, u1, k1, ⟨a1, b1, c1, d1⟩, e1, t1⟩; rcases b with ⟨s2, u2, k2, ⟨a2, b2, c2, d2⟩, e2, t2⟩
  simp only [Event.vals]
  go_simp
  rcases Decidable.em (s1 = s2) with rfl | h; rotate_left; · (simp [h]; try omega)
  rcases Decidable.em (u1 = u2) with rfl | h; rotate_left; · (simp [h]; try omega)
  rcases Decidable.em (k1 = k2) with rfl | h; rotate_left; · (simp [h]; try omega)
  rcases Decidable.em (a1 = a2) with rfl | h; rotate_left; · (simp [h]; try omega)
  rcases Decidable.em (b1 = b2) with rfl | h; rotate_left; · (simp [h]; try omega)
  rcases Decidable.em (c1 = c2) with rfl | h; rotate_left; · (simp [h]; try omega)
  rcases Decidable.em (d1 = d2) with rfl | h; rotate_left; · (simp [h]; try omega)
  rcases Decidable.em (e1 = e2) with rfl | h; rotate_left; · (simp [h]; try omega)
  rcases Decidable.em (t1 = t2) with rfl | h; rotate_left; · (simp [h]; try omega)
  simp
set_option maxRecDepth 100000 in
theorem neqRelease {x y : Operand} (a b : Release) : BinRun Try.prog .neq 91 x y a.v b.v (.bool (!decide (a = b))) := by
  refine eqRun (by kernel_rfl) fun w => ?_
  rcases a with ⟨s1, ⟨u1, v1⟩, k1, f1, ⟨a1, b1, c1, d1⟩, e1, t1⟩; rcases b with ⟨s2, ⟨u2, v2⟩, k2, f2, ⟨a2, b2, c2, d2⟩, e2, t2⟩
  simp only [Release.vals]
  go_simp
  rcases Decidable.em (s1 = s2) with rfl | h; rotate_left; · (simp [h]; try omega)
  rcases Decidable.em (u1 = u2) with rfl | h; rotate_left; · (simp [h]; try omega)
  rcases Decidable.em (v1 = v2) with rfl | h; rotate_left; · (simp [h]; try omega)
  rcases Decidable.em (k1 = k2) with rfl | h; rotate_left; · (simp [h]; try omega)
  rcases Decidable.em (f1 = f2) with rfl | h; rotate_left; · (simp [h]; try omega)
  rcases Decidable.em (a1 = a2) with rfl | h; rotate_left; · (simp [h]; try omega)
  rcases Decidable.em (b1 = b2) with rfl | h; rotate_left; · (simp [h]; try omega)
  rcases Decidable.em (c1 = c2) with rfl | h; rotate_left; · (simp [h]; try omega)
  rcases Decidable.em (d1 = d2) with rfl | h; rotate_left; · (simp [h]; try omega)
  rcases Decidable.em (e1 = e2) with rfl | h; rotate_left; · (simp [h]; try omega)
  rcases Decidable.em (t1 = t2) with rfl | h; rotate_left; · (simp [h]; try omega)
  simp
set_option maxRecDepth 100000 in
theorem copyEvents (l : List Event) (hL : l.length * 72 ≤ 140737488351232) : Pure Try.prog 40 [events l] (.s (eventsR l)) := by
  refine pure_of_wt Try.func40 rfl (by decide) _ Try.ntmps40 rfl Try.results40 fun w0 => ?_
  repeat' (first
    | (first | (apply RunK.append; exact rfl; exact rfl; exact rfl; (first | exact ReadLe.sl _ _ _ _ | exact ReadLe.nil _); exact rfl; (first | exact one_rows rfl | exact one_map (fun _ => rfl) _); (first | exact app_b1 (by omega) | exact app_b2 (by omega) | exact app_b3 (by omega) | exact app_b4 (by omega) | exact app_b5 (by omega))) | (apply RunK.appendN; exact rfl; exact rfl; exact rfl; (first | exact ReadLe.sl _ _ _ _ | exact ReadLe.nil _); exact rfl; (first | exact one_rows rfl | exact one_map (fun _ => rfl) _); (first | exact app_b1 (by omega) | exact app_b2 (by omega) | exact app_b3 (by omega) | exact app_b4 (by omega) | exact app_b5 (by omega))) | (apply RunK.appendF; exact rfl; exact rfl; exact rfl; (first | exact ReadLe.sl _ _ _ _ | exact ReadLe.nil _); (first | exact one_rows rfl | exact one_map (fun _ => rfl) _); (first | exact app_b1 (by omega) | exact app_b2 (by omega) | exact app_b3 (by omega) | exact app_b4 (by omega) | exact app_b5 (by omega))))
    | refine Wt.seq ?_
    | (apply Wt.regionK; exact rfl)
    | refine Wt.ret ?_
    | refine RunK.nil ?_
    | (apply RunK.moveS; exact rfl; exact rfl)
    | (apply RunK.assignS; exact rfl; exact rfl)
    | (apply RunK.assignN; exact rfl; exact rfl))
  apply ResOk.s1; exact rfl; exact rfl
set_option maxRecDepth 100000 in
theorem equalEvents (a b : List Event) (ha : a.length < 1000000000000000) (hb : b.length < 1000000000000000) : Pure Try.prog 45 [events a, events b] (.s (.v (.bool (decide (a = b))))) := by
  refine pure_of_wt Try.func45 rfl (by decide) _ Try.ntmps45 rfl Try.results45 fun w0 => ?_
  repeat' (first
    | refine Wt.seq ?_
    | (apply Wt.regionK; exact rfl)
    | refine Wt.ret ?_
    | refine Wt.block ?_
    | refine Wt.skip ?_
    | refine RunK.nil ?_
    | (apply RunK.assignV; exact rfl; exact rfl)
    | (apply RunK.moveS; exact rfl; exact rfl)
    | (apply RunK.neq; exact rfl; exact rfl; exact rfl)
    | (apply RunK.len; exact rfl; exact rfl)
    | (apply Wt.cond; exact rfl; all_goals (intro hg; (first | exact absurd hg (by decide) | skip); (first | (with_reducible replace hg := not_t hg) | (with_reducible replace hg := not_f hg) | skip); (first | (with_reducible replace hg := dec_t hg) | (with_reducible replace hg := dec_f hg) | skip); (first | (with_reducible exact absurd rfl hg) | skip); (repeat rw [List.length_map] at hg); try (exfalso; omega))))
  · apply ResOk.v1; exact rfl; refine bool_v ?_; symm; refine decide_eq_false ?_; rintro rfl; exact hg rfl
  have hab : a.length = b.length := by omega
  refine Wt.loop (fun k : Nat => ⟨[(0, .s (events a)), (1, .s (events b)), (5, .s (.v (.int .i64 k)))], []⟩) (fun k => k ≤ a.length ∧ a.take k = b.take k) (fun k => a.length - k) 0 ⟨Nat.zero_le _, rfl⟩ ?_ ?_
  · (refine Le.mk ?_ ?_; (repeat' (first | exact LeEnv.done | refine LeEnv.cons ?_ ?_ | exact PVLe.refl _ | exact PVLe.s (SVLe.nil _ _ _) | exact PVLe.s (SVLe.no _ _ _ _) | (refine PVLe.int ?_; first | rfl | omega | (simp; done) | (simp; omega)) | (refine PVLe.els ?_; first | rfl | assumption | (simp; done)) | (refine PVLe.bool ?_; first | rfl | assumption) | (refine PVLe.bsl ?_; first | rfl | assumption | (simp; done))));  (repeat' (first | exact LeBox.done | refine LeBox.cons ?_ ?_ | exact rfl)))
  · rintro k ⟨hk, hG⟩
    by_cases hlt : k < a.length
    · obtain ⟨r, hr⟩ := exists_at hlt
      obtain ⟨q, hq⟩ := exists_at (hab ▸ hlt)
      have hx := get_map (f := Event.vals) hr
      have hx2 := get_map (f := Event.vals) hq
      repeat' (first
    | (apply RunK.bin; exact rfl; exact rfl; exact rfl; exact neqEvent_ r q)
    | refine Wt.seq ?_
    | (apply Wt.regionK; exact rfl)
    | (apply Wt.regionD; kernel_rfl; kernel_rfl; exact rfl; exact rfl)
    | refine Wt.ret ?_
    | refine Wt.block ?_
    | refine Wt.skip ?_
    | refine RunK.nil ?_
    | (apply RunK.moveV; exact rfl; exact rfl)
    | (apply RunK.index; exact rfl; exact rfl; exact rfl; (first | exact rfl | exact (rfl : (0 : Int) = ((0 : Nat) : Int)) | exact (rfl : (1 : Int) = ((1 : Nat) : Int)) | exact (rfl : (2 : Int) = ((2 : Nat) : Int)) | exact (rfl : (3 : Int) = ((3 : Nat) : Int)) | assumption); (first | omega | exact lt_of_get ‹_› | (rw [List.length_map]; omega) | (simp; omega)))
    | (apply RunK.assignV; exact rfl; exact rfl)
    | (apply RunK.moveS; exact rfl; exact rfl)
    | (apply RunK.loadER; exact rfl; exact rfl; assumption; exact rfl; (apply cut_eq; repeat (first | exact Cut.nil _ | apply Cut.cons | apply Cut.skip)))
    | (apply RunK.lss; exact rfl; exact rfl; exact rfl)
    | (apply RunK.add; exact rfl; exact rfl; exact rfl; (first | omega | (simp only [List.length_map]; omega)))
    | (apply RunK.len; exact rfl; exact rfl)
    | (apply Wt.cond; exact rfl; all_goals (intro hg; (first | exact absurd hg (by decide) | skip); (first | (with_reducible replace hg := not_t hg) | (with_reducible replace hg := not_f hg) | skip); (first | (with_reducible replace hg := dec_t hg) | (with_reducible replace hg := dec_f hg) | skip); (first | (with_reducible exact absurd rfl hg) | skip); (repeat rw [List.length_map] at hg); try (exfalso; omega))))
      · apply ResOk.v1; exact rfl; refine bool_v ?_; symm; refine decide_eq_false ?_
        intro e; rw [e] at hr; rw [hr] at hq; injection hq with hq; exact hg hq
      · subst hg
        refine ⟨k + 1, ⟨hlt, by rw [List.take_add_one, List.take_add_one, hG, hr, hq]⟩, by omega, ?_⟩
        (refine Le.mk ?_ ?_; (repeat' (first | exact LeEnv.done | refine LeEnv.cons ?_ ?_ | exact PVLe.refl _ | exact PVLe.s (SVLe.nil _ _ _) | exact PVLe.s (SVLe.no _ _ _ _) | (refine PVLe.int ?_; first | rfl | omega | (simp; done) | (simp; omega)) | (refine PVLe.els ?_; first | rfl | assumption | (simp; done)) | (refine PVLe.bool ?_; first | rfl | assumption) | (refine PVLe.bsl ?_; first | rfl | assumption | (simp; done))));  (repeat' (first | exact LeBox.done | refine LeBox.cons ?_ ?_ | exact rfl)))
    · repeat' (first
    | refine Wt.seq ?_
    | (apply Wt.regionK; exact rfl)
    | refine Wt.ret ?_
    | refine Wt.exit ?_
    | refine RunK.nil ?_
    | (apply RunK.moveV; exact rfl; exact rfl)
    | (apply RunK.assignV; exact rfl; exact rfl)
    | (apply RunK.moveS; exact rfl; exact rfl)
    | (apply RunK.lss; exact rfl; exact rfl; exact rfl)
    | (apply RunK.len; exact rfl; exact rfl)
    | (apply Wt.cond; exact rfl; all_goals (intro hg; (first | exact absurd hg (by decide) | skip); (first | (with_reducible replace hg := not_t hg) | (with_reducible replace hg := not_f hg) | skip); (first | (with_reducible replace hg := dec_t hg) | (with_reducible replace hg := dec_f hg) | skip); (first | (with_reducible exact absurd rfl hg) | skip); (repeat rw [List.length_map] at hg); try (exfalso; omega))))
      rw [List.take_of_length_le (by omega), List.take_of_length_le (by omega)] at hG
      apply ResOk.v1; exact rfl; exact bool_v (decide_eq_true hG).symm
set_option maxRecDepth 100000 in
theorem copyReleases (l : List Release) (hL : l.length * 88 ≤ 140737488351232) : Pure Try.prog 43 [releases l] (.s (releasesR l)) := by
  refine pure_of_wt Try.func43 rfl (by decide) _ Try.ntmps43 rfl Try.results43 fun w0 => ?_
  repeat' (first
    | (first | (apply RunK.append; exact rfl; exact rfl; exact rfl; (first | exact ReadLe.sl _ _ _ _ | exact ReadLe.nil _); exact rfl; (first | exact one_rows rfl | exact one_map (fun _ => rfl) _); (first | exact app_b1 (by omega) | exact app_b2 (by omega) | exact app_b3 (by omega) | exact app_b4 (by omega) | exact app_b5 (by omega))) | (apply RunK.appendN; exact rfl; exact rfl; exact rfl; (first | exact ReadLe.sl _ _ _ _ | exact ReadLe.nil _); exact rfl; (first | exact one_rows rfl | exact one_map (fun _ => rfl) _); (first | exact app_b1 (by omega) | exact app_b2 (by omega) | exact app_b3 (by omega) | exact app_b4 (by omega) | exact app_b5 (by omega))) | (apply RunK.appendF; exact rfl; exact rfl; exact rfl; (first | exact ReadLe.sl _ _ _ _ | exact ReadLe.nil _); (first | exact one_rows rfl | exact one_map (fun _ => rfl) _); (first | exact app_b1 (by omega) | exact app_b2 (by omega) | exact app_b3 (by omega) | exact app_b4 (by omega) | exact app_b5 (by omega))))
    | refine Wt.seq ?_
    | (apply Wt.regionK; exact rfl)
    | refine Wt.ret ?_
    | refine RunK.nil ?_
    | (apply RunK.moveS; exact rfl; exact rfl)
    | (apply RunK.assignS; exact rfl; exact rfl)
    | (apply RunK.assignN; exact rfl; exact rfl))
  apply ResOk.s1; exact rfl; exact rfl
set_option maxRecDepth 100000 in
theorem equalReleases (a b : List Release) (ha : a.length < 1000000000000000) (hb : b.length < 1000000000000000) : Pure Try.prog 47 [releases a, releases b] (.s (.v (.bool (decide (a = b))))) := by
  refine pure_of_wt Try.func47 rfl (by decide) _ Try.ntmps47 rfl Try.results47 fun w0 => ?_
  repeat' (first
    | refine Wt.seq ?_
    | (apply Wt.regionK; exact rfl)
    | refine Wt.ret ?_
    | refine Wt.block ?_
    | refine Wt.skip ?_
    | refine RunK.nil ?_
    | (apply RunK.assignV; exact rfl; exact rfl)
    | (apply RunK.moveS; exact rfl; exact rfl)
    | (apply RunK.neq; exact rfl; exact rfl; exact rfl)
    | (apply RunK.len; exact rfl; exact rfl)
    | (apply Wt.cond; exact rfl; all_goals (intro hg; (first | exact absurd hg (by decide) | skip); (first | (with_reducible replace hg := not_t hg) | (with_reducible replace hg := not_f hg) | skip); (first | (with_reducible replace hg := dec_t hg) | (with_reducible replace hg := dec_f hg) | skip); (first | (with_reducible exact absurd rfl hg) | skip); (repeat rw [List.length_map] at hg); try (exfalso; omega))))
  · apply ResOk.v1; exact rfl; refine bool_v ?_; symm; refine decide_eq_false ?_; rintro rfl; exact hg rfl
  have hab : a.length = b.length := by omega
  refine Wt.loop (fun k : Nat => ⟨[(0, .s (releases a)), (1, .s (releases b)), (5, .s (.v (.int .i64 k)))], []⟩) (fun k => k ≤ a.length ∧ a.take k = b.take k) (fun k => a.length - k) 0 ⟨Nat.zero_le _, rfl⟩ ?_ ?_
  · (refine Le.mk ?_ ?_; (repeat' (first | exact LeEnv.done | refine LeEnv.cons ?_ ?_ | exact PVLe.refl _ | exact PVLe.s (SVLe.nil _ _ _) | exact PVLe.s (SVLe.no _ _ _ _) | (refine PVLe.int ?_; first | rfl | omega | (simp; done) | (simp; omega)) | (refine PVLe.els ?_; first | rfl | assumption | (simp; done)) | (refine PVLe.bool ?_; first | rfl | assumption) | (refine PVLe.bsl ?_; first | rfl | assumption | (simp; done))));  (repeat' (first | exact LeBox.done | refine LeBox.cons ?_ ?_ | exact rfl)))
  · rintro k ⟨hk, hG⟩
    by_cases hlt : k < a.length
    · obtain ⟨r, hr⟩ := exists_at hlt
      obtain ⟨q, hq⟩ := exists_at (hab ▸ hlt)
      have hx := get_map (f := Release.vals) hr
      have hx2 := get_map (f := Release.vals) hq
      repeat' (first
    | (apply RunK.bin; exact rfl; exact rfl; exact rfl; exact neqRelease r q)
    | refine Wt.seq ?_
    | (apply Wt.regionK; exact rfl)
    | (apply Wt.regionD; kernel_rfl; kernel_rfl; exact rfl; exact rfl)
    | refine Wt.ret ?_
    | refine Wt.block ?_
    | refine Wt.skip ?_
    | refine RunK.nil ?_
    | (apply RunK.moveV; exact rfl; exact rfl)
    | (apply RunK.index; exact rfl; exact rfl; exact rfl; (first | exact rfl | exact (rfl : (0 : Int) = ((0 : Nat) : Int)) | exact (rfl : (1 : Int) = ((1 : Nat) : Int)) | exact (rfl : (2 : Int) = ((2 : Nat) : Int)) | exact (rfl : (3 : Int) = ((3 : Nat) : Int)) | assumption); (first | omega | exact lt_of_get ‹_› | (rw [List.length_map]; omega) | (simp; omega)))
    | (apply RunK.assignV; exact rfl; exact rfl)
    | (apply RunK.moveS; exact rfl; exact rfl)
    | (apply RunK.loadER; exact rfl; exact rfl; assumption; exact rfl; (apply cut_eq; repeat (first | exact Cut.nil _ | apply Cut.cons | apply Cut.skip)))
    | (apply RunK.lss; exact rfl; exact rfl; exact rfl)
    | (apply RunK.add; exact rfl; exact rfl; exact rfl; (first | omega | (simp only [List.length_map]; omega)))
    | (apply RunK.len; exact rfl; exact rfl)
    | (apply Wt.cond; exact rfl; all_goals (intro hg; (first | exact absurd hg (by decide) | skip); (first | (with_reducible replace hg := not_t hg) | (with_reducible replace hg := not_f hg) | skip); (first | (with_reducible replace hg := dec_t hg) | (with_reducible replace hg := dec_f hg) | skip); (first | (with_reducible exact absurd rfl hg) | skip); (repeat rw [List.length_map] at hg); try (exfalso; omega))))
      · apply ResOk.v1; exact rfl; refine bool_v ?_; symm; refine decide_eq_false ?_
        intro e; rw [e] at hr; rw [hr] at hq; injection hq with hq; exact hg hq
      · subst hg
        refine ⟨k + 1, ⟨hlt, by rw [List.take_add_one, List.take_add_one, hG, hr, hq]⟩, by omega, ?_⟩
        (refine Le.mk ?_ ?_; (repeat' (first | exact LeEnv.done | refine LeEnv.cons ?_ ?_ | exact PVLe.refl _ | exact PVLe.s (SVLe.nil _ _ _) | exact PVLe.s (SVLe.no _ _ _ _) | (refine PVLe.int ?_; first | rfl | omega | (simp; done) | (simp; omega)) | (refine PVLe.els ?_; first | rfl | assumption | (simp; done)) | (refine PVLe.bool ?_; first | rfl | assumption) | (refine PVLe.bsl ?_; first | rfl | assumption | (simp; done))));  (repeat' (first | exact LeBox.done | refine LeBox.cons ?_ ?_ | exact rfl)))
    · repeat' (first
    | refine Wt.seq ?_
    | (apply Wt.regionK; exact rfl)
    | refine Wt.ret ?_
    | refine Wt.exit ?_
    | refine RunK.nil ?_
    | (apply RunK.moveV; exact rfl; exact rfl)
    | (apply RunK.assignV; exact rfl; exact rfl)
    | (apply RunK.moveS; exact rfl; exact rfl)
    | (apply RunK.lss; exact rfl; exact rfl; exact rfl)
    | (apply RunK.len; exact rfl; exact rfl)
    | (apply Wt.cond; exact rfl; all_goals (intro hg; (first | exact absurd hg (by decide) | skip); (first | (with_reducible replace hg := not_t hg) | (with_reducible replace hg := not_f hg) | skip); (first | (with_reducible replace hg := dec_t hg) | (with_reducible replace hg := dec_f hg) | skip); (first | (with_reducible exact absurd rfl hg) | skip); (repeat rw [List.length_map] at hg); try (exfalso; omega))))
      rw [List.take_of_length_le (by omega), List.take_of_length_le (by omega)] at hG
      apply ResOk.v1; exact rfl; exact bool_v (decide_eq_true hG).symm
end Go.Proofs.Ytfacimebfdeaeaa
