/- The walks of whole, rules and example of the laws on acl. -/
import Derived.Test.YtonangdimkgdpaaKit
import Derived.Test.YtonangdimkgdpaaWhich
namespace Go.Proofs.Ytonangdimkgdpaa
open Go.RowKit

set_option maxHeartbeats 400000 in
theorem whole_any (f : Rights) (A : Option Addr) (cap : Nat) (l : List Rule) (hl : l.length * 56 ≤ 140737488351232) (w : World) (hs : SlAt Rule.vals 7 w A l) :
    Calls Try.prog 9 #[.agg #[.int .u64 f.read, .int .u64 f.write, .int .u64 f.own], .slice A l.length cap] w (GivesX w (OutV Rule.vals 7 38 w.heap.size (⟨sheetR, f⟩ :: l))) := by
  have HS : Hid (SlAt Rule.vals 7 w A l) := hs
  clear hs
  go_enter Try.func9, Try.ntmps9
  go_wp2_with fail
  have l0 : (w.alloc (.cells #[.int .u64 f.read, .int .u64 f.write, .int .u64 f.own] 24)).cell? ⟨w.heap.size, 0, none⟩ = some (.int .u64 f.read) := by simp
  have l1 : (w.alloc (.cells #[.int .u64 f.read, .int .u64 f.write, .int .u64 f.own] 24)).cell? ⟨w.heap.size, 1, none⟩ = some (.int .u64 f.write) := by simp
  have l2 : (w.alloc (.cells #[.int .u64 f.read, .int .u64 f.write, .int .u64 f.own] 24)).cell? ⟨w.heap.size, 2, none⟩ = some (.int .u64 f.own) := by simp
  have hk0 : Kp w (w.alloc (.cells #[.int .u64 f.read, .int .u64 f.write, .int .u64 f.own] 24)) := by (repeat' first | assumption | exact Kp.refl _ | apply Kp.alloc | apply Kp.drew | apply Kp.drewN | (refine Kp.setCell (by first | (simp; done) | (simp; omega) | omega) ?_) | (refine Kp.next ?_ (by assumption)))
  have z0 : w.heap.size < (w.alloc (.cells #[.int .u64 f.read, .int .u64 f.write, .int .u64 f.own] 24)).heap.size := by simp
  generalize w.alloc (.cells #[.int .u64 f.read, .int .u64 f.write, .int .u64 f.own] 24) = wr at *
  go_region_held3 (fun w' => (∀ b o, b < wr.heap.size → w'.cell? ⟨b, o, none⟩ = wr.cell? ⟨b, o, none⟩) ∧ Kp wr w') (first | exact held_refl _ | exact held_grown (by assumption) (by assumption) (row_some hb1.le) | exact held_next (by assumption) (by assumption) | exact held_alloc (by assumption)) (first | (go_at_call 24; refine (refSheet_any _).mono ?_; rintro e w1 ⟨rfl, hb1⟩) | (refine step_app rfl _ _ rfl el_rule fit_rule (by decide) (OwnV.of_new (l := [⟨sheetR, f⟩]) fit_rule rfl (by simp [maxLen]) (Nat.le_refl _)) rfl (held_sl (by assumption) (HS.out.keep hk0)) rfl rfl (by simp; omega) (by simp) ?_; intro v1 w2 hown hg hat))
  rename_i hH
  replace hH := hH.2
  go_wp2_with fail
  go_ret
  exact ⟨v1, rfl, (hown.lower (Nat.le_trans hk0.le hb1.le)), by (repeat' first | assumption | exact Kp.refl _ | apply Kp.alloc | apply Kp.drew | apply Kp.drewN | (refine Kp.setCell (by first | (simp; done) | (simp; omega) | omega) ?_) | (refine Kp.next ?_ (by assumption)))⟩

def rules3 : List Rule := [⟨sheetR, ⟨7, 7, 1⟩⟩, ⟨⟨2, 1, 2, 3⟩, ⟨1, 1, 1⟩⟩, ⟨⟨2, 2, 3, 2⟩, ⟨2, 0, 1⟩⟩]
theorem rules3_ok : ∀ r ∈ rules3, r.ok := by
  intro r hr
  simp only [rules3, List.mem_cons, List.not_mem_nil, or_false] at hr
  rcases hr with rfl | rfl | rfl <;> exact ⟨⟨by unfold i64; decide, by unfold i64; decide, by unfold i64; decide, by unfold i64; decide⟩, ⟨by decide, by decide, by decide⟩⟩
set_option maxHeartbeats 400000 in
theorem rules_any (w : World) : Calls Try.prog 23 #[] w (GivesX w (OutV Rule.vals 7 38 w.heap.size rules3)) := by
  go_enter Try.func23, Try.ntmps23
  go_wp2_with fail
  refine (refSheet_any _).mono ?_; rintro e w1 ⟨rfl, hk1⟩
  go_wp2_with fail
  go_ret
  exact ⟨_, rfl, OwnV.of_new (l := rules3) fit_rule rfl (by decide) hk1.le, by (repeat' first | assumption | exact Kp.refl _ | apply Kp.alloc | apply Kp.drew | apply Kp.drewN | (refine Kp.setCell (by first | (simp; done) | (simp; omega) | omega) ?_) | (refine Kp.next ?_ (by assumption)))⟩

set_option maxHeartbeats 400000 in
theorem example_any (w : World) : Calls Try.prog 14 #[] w (Gives w (.bool true)) := by
  go_enter Try.func14, Try.ntmps14
  go_wp2_with fail
  refine (rules_any _).mono ?_; rintro e w1 ⟨v, rfl, hown, hk1⟩
  obtain ⟨A, c, rfl⟩ := hown.form
  have hs := (OwnV.sl fit_rule hown).1
  go_wp2_with fail
  refine (aclWhich_any ⟨2, 2⟩ A c rules3 (by decide) rules3_ok _ hs).mono ?_; rintro e w2 ⟨rfl, hk2⟩
  rw [show whichS ⟨2, 2⟩ rules3 = (2, 0) by decide]
  go_wp2_with fail
  go_ret
  exact ⟨rfl, by (repeat' first | assumption | exact Kp.refl _ | apply Kp.alloc | apply Kp.drew | apply Kp.drewN | (refine Kp.setCell (by first | (simp; done) | (simp; omega) | omega) ?_) | (refine Kp.next ?_ (by assumption)))⟩

end Go.Proofs.Ytonangdimkgdpaa
