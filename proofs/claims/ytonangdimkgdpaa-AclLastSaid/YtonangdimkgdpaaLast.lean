/- The walks of the two functions that find the last rule whose range has an address. -/
import Derived.Test.YtonangdimkgdpaaLeaf
import Derived.WalkMore
namespace Go.Proofs.Ytonangdimkgdpaa
open Go.RowKit

/-- The index of the last of the first k rules whose range has x; 0 if there is none. -/
def lastN (x : Ref) (l : List Rule) : Nat → Nat
  | 0 => 0
  | k + 1 => match l[k]? with | some r => if hasB r.rect x then k else lastN x l k | none => lastN x l k
theorem lastN_yes {x : Ref} {l : List Rule} {k : Nat} {r : Rule} (h : l[k]? = some r) (hh : hasB r.rect x = true) : lastN x l (k + 1) = k := by simp [lastN, h, hh]
theorem lastN_no {x : Ref} {l : List Rule} {k : Nat} {r : Rule} (h : l[k]? = some r) (hh : hasB r.rect x = false) : lastN x l (k + 1) = lastN x l k := by simp [lastN, h, hh]
theorem lastN_one {x : Ref} {l : List Rule} : lastN x l 1 = 0 := by
  rw [lastN]; split
  · split <;> rfl
  · rfl

set_option maxHeartbeats 400000 in
theorem refLast_any (x : Ref) (A : Option Addr) (cap : Nat) (l : List Rule) (hl : l.length ≤ 1000000000000000) (w : World) (hs : SlAt Rule.vals 7 w A l) :
    Calls Try.prog 32 #[.agg #[.int .i64 x.col, .int .i64 x.row], .slice A l.length cap] w (Gives w (.int .i64 (lastN x l l.length))) := by
  have HS : Hid (SlAt Rule.vals 7 w A l) := hs
  clear hs
  generalize hm : l.length = m at *
  have HM : Hid (l.length = m) := hm
  clear hm
  go_enter Try.func32, Try.ntmps32
  go_wp2_with fail
  have l0 : (w.alloc (.cells #[.int .i64 x.col, .int .i64 x.row] 27)).cell? ⟨w.heap.size, 0, none⟩ = some (.int .i64 x.col) := by simp
  have l1 : (w.alloc (.cells #[.int .i64 x.col, .int .i64 x.row] 27)).cell? ⟨w.heap.size, 1, none⟩ = some (.int .i64 x.row) := by simp
  have hk0 : Kp w (w.alloc (.cells #[.int .i64 x.col, .int .i64 x.row] 27)) := by (repeat' first | assumption | exact Kp.refl _ | apply Kp.alloc | apply Kp.drew | apply Kp.drewN | (refine Kp.setCell (by first | (simp; done) | (simp; omega) | omega) ?_) | (refine Kp.next ?_ (by assumption)))
  have z0 : w.heap.size < (w.alloc (.cells #[.int .i64 x.col, .int .i64 x.row] 27)).heap.size := by simp
  generalize w.alloc (.cells #[.int .i64 x.col, .int .i64 x.row] 27) = w1 at *
  go_loopw [5, 6] (fun u v wr => ∃ k : Nat, k ≤ m ∧ v = .int .i64 k ∧ u = .int .i64 (lastN x l k) ∧ Kp w1 wr) (fun _ v _ => m - (intOf v).toNat)
  case atStart => exact ⟨0, Nat.zero_le _, rfl, rfl, Kp.refl _⟩
  case round =>
    obtain ⟨k, hk, rfl, rfl, hkp⟩ := hrel
    by_cases hlt : k < m
    · obtain ⟨r, hr⟩ : ∃ r, l[k]? = some r := ⟨l[k]'(by have := HM.out; omega), by simp⟩
      obtain ⟨b, o, rfl, hb, c0, c1, c2, c3, -, -, -⟩ := ((HS.out.keep hk0).keep hkp).rule hr
      have HR : Hid (l[k]? = some r) := hr
      clear hr
      have hsz := hkp.le
      have z1 : w.heap.size < wr.heap.size := by omega
      replace l0 := hkp.later l0
      replace l1 := hkp.later l1
      go_wp2_with fail
      go_region_held3 (fun w' => (∀ b o, b < wr.heap.size → w'.cell? ⟨b, o, none⟩ = wr.cell? ⟨b, o, none⟩) ∧ Kp wr w') (first | exact held_refl _ | exact held_next (by assumption) (by assumption) | exact held_alloc (by assumption)) (first | (go_at_call 13; refine (refHas_any r.rect x _).mono ?_; rintro e w1 ⟨rfl, hb1⟩))
      rename_i hH
      replace hH := hH.2
      have HY : Hid (hasB r.rect x = true → lastN x l (k + 1) = k) := lastN_yes HR.out
      have HN : Hid (hasB r.rect x = false → lastN x l (k + 1) = lastN x l k) := lastN_no HR.out
      generalize hasB r.rect x = d at *
      cases d
      all_goals
        go_wp2_with fail
        go_roundw
        case rel => exact ⟨k + 1, by omega, by go_num, by first | rw [HY.out (by trivial)] | rw [HN.out (by trivial)], by (repeat' first | assumption | exact Kp.refl _ | apply Kp.alloc | apply Kp.drew | apply Kp.drewN | (refine Kp.setCell (by first | (simp; done) | (simp; omega) | omega) ?_) | (refine Kp.next ?_ (by assumption)))⟩
        case measure => simp [intOf]; omega
    · go_wp2_with fail
      go_ret
      have : k = m := by omega
      subst this
      exact ⟨rfl, by (repeat' first | assumption | exact Kp.refl _ | apply Kp.alloc | apply Kp.drew | apply Kp.drewN | (refine Kp.setCell (by first | (simp; done) | (simp; omega) | omega) ?_) | (refine Kp.next ?_ (by assumption)))⟩

set_option maxHeartbeats 400000 in
theorem aclLast_any (x : Ref) (A : Option Addr) (cap : Nat) (l : List Rule) (hl : l.length ≤ 1000000000000000) (hne : l ≠ []) (w : World) (hs : SlAt Rule.vals 7 w A l) :
    Calls Try.prog 28 #[.agg #[.int .i64 x.col, .int .i64 x.row], .slice A l.length cap] w (Gives w (.int .i64 (lastN x l l.length))) := by
  have HS : Hid (SlAt Rule.vals 7 w A l) := hs
  clear hs
  have hpos := List.length_pos_iff.2 hne
  clear hne
  generalize hm : l.length = m at *
  have HM : Hid (l.length = m) := hm
  clear hm
  go_enter Try.func28, Try.ntmps28
  go_wp2_with fail
  have l0 : (w.alloc (.cells #[.int .i64 x.col, .int .i64 x.row] 27)).cell? ⟨w.heap.size, 0, none⟩ = some (.int .i64 x.col) := by simp
  have l1 : (w.alloc (.cells #[.int .i64 x.col, .int .i64 x.row] 27)).cell? ⟨w.heap.size, 1, none⟩ = some (.int .i64 x.row) := by simp
  have hk0 : Kp w (w.alloc (.cells #[.int .i64 x.col, .int .i64 x.row] 27)) := by (repeat' first | assumption | exact Kp.refl _ | apply Kp.alloc | apply Kp.drew | apply Kp.drewN | (refine Kp.setCell (by first | (simp; done) | (simp; omega) | omega) ?_) | (refine Kp.next ?_ (by assumption)))
  have z0 : w.heap.size < (w.alloc (.cells #[.int .i64 x.col, .int .i64 x.row] 27)).heap.size := by simp
  generalize w.alloc (.cells #[.int .i64 x.col, .int .i64 x.row] 27) = w1 at *
  go_step3
  go_wp2_with fail
  go_step3
  go_wp2_with fail
  go_loopw [5] (fun v wr => ∃ k : Nat, k < m ∧ v = .int .i64 k ∧ lastN x l m = lastN x l (k + 1) ∧ Kp w1 wr) (fun v _ => (intOf v).toNat)
  case atStart => exact ⟨m - 1, by omega, by rw [show ((m - 1 : Nat) : Int) = (m : Int) - 1 by omega], by rw [show m - 1 + 1 = m by omega], Kp.refl _⟩
  case round =>
    obtain ⟨k, hk, rfl, hlast, hkp⟩ := hrel
    have HL : Hid (lastN x l m = lastN x l (k + 1)) := hlast
    clear hlast
    by_cases hlt : 0 < k
    · obtain ⟨r, hr⟩ : ∃ r, l[k]? = some r := ⟨l[k]'(by have := HM.out; omega), by simp⟩
      obtain ⟨b, o, rfl, hb, c0, c1, c2, c3, -, -, -⟩ := ((HS.out.keep hk0).keep hkp).rule hr
      have HR : Hid (l[k]? = some r) := hr
      clear hr
      have hsz := hkp.le
      have z1 : w.heap.size < wr.heap.size := by omega
      replace l0 := hkp.later l0
      replace l1 := hkp.later l1
      go_wp2_with fail
      go_region_held3 (fun w' => (∀ b o, b < wr.heap.size → w'.cell? ⟨b, o, none⟩ = wr.cell? ⟨b, o, none⟩) ∧ Kp wr w') (first | exact held_refl _ | exact held_next (by assumption) (by assumption) | exact held_alloc (by assumption)) (first | (go_at_call 36; refine (rectHas_any r.rect x _).mono ?_; rintro e w1 ⟨rfl, hb1⟩))
      rename_i hH
      replace hH := hH.2
      have HY : Hid (hasB r.rect x = true → lastN x l (k + 1) = k) := lastN_yes HR.out
      have HN : Hid (hasB r.rect x = false → lastN x l (k + 1) = lastN x l k) := lastN_no HR.out
      generalize hasB r.rect x = d at *
      cases d
      · go_wp2_with fail
        go_roundw
        case rel => exact ⟨k - 1, by omega, by rw [show ((k - 1 : Nat) : Int) = (k : Int) - 1 by omega], by rw [HL.out, HN.out (by trivial), show k - 1 + 1 = k by omega], by (repeat' first | assumption | exact Kp.refl _ | apply Kp.alloc | apply Kp.drew | apply Kp.drewN | (refine Kp.setCell (by first | (simp; done) | (simp; omega) | omega) ?_) | (refine Kp.next ?_ (by assumption)))⟩
        case measure => simp [intOf]; omega
      · go_wp2_with fail
        go_ret
        exact ⟨by rw [HL.out, HY.out (by trivial)]; rfl, by (repeat' first | assumption | exact Kp.refl _ | apply Kp.alloc | apply Kp.drew | apply Kp.drewN | (refine Kp.setCell (by first | (simp; done) | (simp; omega) | omega) ?_) | (refine Kp.next ?_ (by assumption)))⟩
    · go_wp2_with fail
      go_ret
      have : k = 0 := by omega
      subst this
      exact ⟨by rw [HL.out, lastN_one]; rfl, by (repeat' first | assumption | exact Kp.refl _ | apply Kp.alloc | apply Kp.drew | apply Kp.drewN | (refine Kp.setCell (by first | (simp; done) | (simp; omega) | omega) ?_) | (refine Kp.next ?_ (by assumption)))⟩

end Go.Proofs.Ytonangdimkgdpaa
