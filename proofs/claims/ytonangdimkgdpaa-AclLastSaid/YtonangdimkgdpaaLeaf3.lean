/- The walks of Within and of rect.Check. -/
import Derived.Test.YtonangdimkgdpaaLeaf
import Derived.Test.YtonangdimkgdpaaLeaf2
namespace Go.Proofs.Ytonangdimkgdpaa
open Go.RowKit

/-- Whether a set has only users from 0 to n - 1. -/
def withinB (s : Nat) (n : Int) : Bool := decide (s < 2 ^ n.toNat)
theorem andNot_all {s : Nat} (hs : s < 18446744073709551616) {n : Int} (h : n ≤ 64) : bits .andNot .u64 (s : Int) (allN n : Int) = ((s / 2 ^ n.toNat * 2 ^ n.toNat : Nat) : Int) := by
  rw [u64_andNot_nat _ _ hs (allN_lt h)]
  congr 1
  apply Nat.eq_of_testBit_eq
  intro i
  rw [Nat.testBit_and, Nat.testBit_mul_two_pow, Nat.testBit_div_two_pow]
  have hm : (18446744073709551615 - allN n).testBit i = (decide (i < 64) && !(allN n).testBit i) := by
    have e : (18446744073709551615 - allN n) = 2 ^ 64 - (allN n + 1) := by omega
    rw [e, Nat.testBit_two_pow_sub_succ (allN_lt h)]
  rw [hm]
  unfold allN
  rw [Nat.testBit_two_pow_sub_one]
  by_cases h1 : i < n.toNat
  · simp [h1]; intro _; omega
  · by_cases h2 : i < 64
    · have : i - n.toNat + n.toNat = i := by omega
      simp [h1, h2, show n.toNat ≤ i by omega]
    · have : s.testBit i = false := Nat.testBit_lt_two_pow (Nat.lt_of_lt_of_le hs (Nat.le_trans (by decide : 18446744073709551616 ≤ 2 ^ 64) (Nat.pow_le_pow_right (by omega) (by omega))))
      have h3 : i - n.toNat + n.toNat = i := by omega
      simp [h1, h2, show n.toNat ≤ i by omega, this]
theorem andNot_zero {s : Nat} (hs : s < 18446744073709551616) {n : Int} (h : n ≤ 64) : (bits .andNot .u64 (s : Int) (allN n : Int) == 0) = withinB s n := by
  rw [andNot_all hs h, withinB, Bool.eq_iff_iff]
  simp only [beq_iff_eq, decide_eq_true_eq]
  constructor
  · intro h
    have h1 : s / 2 ^ n.toNat * 2 ^ n.toNat = 0 := by omega
    have hp : 0 < 2 ^ n.toNat := Nat.two_pow_pos _
    rcases Nat.mul_eq_zero.1 h1 with h2 | h2
    · rwa [Nat.div_eq_zero_iff_lt hp] at h2
    · omega
  · intro h
    rw [Nat.div_eq_of_lt h]
    simp

set_option maxHeartbeats 400000 in
theorem within_any (s : Nat) (hs : s < 18446744073709551616) (n : Int) (h0 : 0 ≤ n) (h1 : n ≤ 64) (w : World) : Calls Try.prog 26 #[.int .u64 s, .int .i64 n] w (Is w (.bool (withinB s n))) := by
  have E : Hid (allE n = (allN n, 0)) := by simp [Hid, allE, allOk, h0, h1]
  have Z := andNot_zero hs h1
  have Z' : Hid ((bits .andNot .u64 (s : Int) (allN n : Int) == 0) = withinB s n) := Z
  clear Z
  go_enter Try.func26, Try.ntmps26
  go_wp2_with (go_at_call 35; refine (refAll_any n _).mono ?_; rw [E.out]; rintro e w' ⟨rfl, rfl⟩)
  go_ret
  exact ⟨bool_ret Z'.out, rfl⟩

def chk (R : Rect) : Int := if rectOk R then 0 else 3
theorem chk_yes {R : Rect} (h : rectOk R = true) : chk R = 0 := by simp [chk, h]
theorem chk_no {R : Rect} (h : rectOk R = false) : chk R = 3 := by simp [chk, h]
set_option maxHeartbeats 400000 in
theorem rectCheck_any (R : Rect) (w : World) : Calls Try.prog 31 #[.agg #[.int .i64 R.c1, .int .i64 R.r1, .int .i64 R.c2, .int .i64 R.r2]] w (Gives w (.int .i64 (chk R))) := by
  have A1 : Hid (refOk ⟨R.c1, R.r1⟩ = false → chk R = 3) := fun h => chk_no (by simp [refOk, rectOk] at *; omega)
  have A2 : Hid (refOk ⟨R.c2, R.r2⟩ = false → chk R = 3) := fun h => chk_no (by simp [refOk, rectOk] at *; omega)
  have A3 : Hid (R.c2 < R.c1 ∨ R.r2 < R.r1 → chk R = 3) := fun h => chk_no (by simp [rectOk] at *; omega)
  have A4 : Hid (refOk ⟨R.c1, R.r1⟩ = true → refOk ⟨R.c2, R.r2⟩ = true → R.c1 ≤ R.c2 → R.r1 ≤ R.r2 → chk R = 0) := fun h h2 h3 h4 => chk_yes (by simp [refOk, rectOk] at *; omega)
  go_enter Try.func31, Try.ntmps31
  go_wp2_with fail
  refine (corners_any R _).mono ?_; rintro e w1 ⟨rfl, hb1⟩; have hq1 := hb1.rule
  have z1 : w.heap.size < w1.heap.size := by have := hb1.le; simp at this; omega
  go_wp2_with fail
  refine (valid_any ⟨R.c1, R.r1⟩ _).mono ?_; rintro e w2 ⟨rfl, hb2⟩; have hq2 := hb2.rule
  have z2 : w.heap.size < w2.heap.size ∧ w1.heap.size < w2.heap.size ∧ w1.heap.size + 1 < w2.heap.size := by have := hb2.le; simp at this; omega
  obtain ⟨z2, z3, z4⟩ := z2
  by_cases h1 : refOk ⟨R.c1, R.r1⟩ = true
  · go_wp2_with fail
    refine (valid_any ⟨R.c2, R.r2⟩ _).mono ?_; rintro e w3 ⟨rfl, hb3⟩; have hq3 := hb3.rule
    by_cases h2 : refOk ⟨R.c2, R.r2⟩ = true
    · go_wp2_with fail
      all_goals
        go_ret
        first
          | exact ⟨int_ret (A4.out h1 h2 (by omega) (by omega)).symm, (by (repeat' first | assumption | exact Kp.refl _ | apply Kp.alloc | apply Kp.drew | apply Kp.drewN | (refine Kp.setCell (by first | (simp; done) | (simp; omega) | omega) ?_) | (refine Kp.next ?_ (by assumption))))⟩
          | exact ⟨int_ret (A3.out (by omega)).symm, (by (repeat' first | assumption | exact Kp.refl _ | apply Kp.alloc | apply Kp.drew | apply Kp.drewN | (refine Kp.setCell (by first | (simp; done) | (simp; omega) | omega) ?_) | (refine Kp.next ?_ (by assumption))))⟩
    · simp only [Bool.not_eq_true] at h2
      go_wp2_with fail
      go_ret
      exact ⟨int_ret (A2.out h2).symm, (by (repeat' first | assumption | exact Kp.refl _ | apply Kp.alloc | apply Kp.drew | apply Kp.drewN | (refine Kp.setCell (by first | (simp; done) | (simp; omega) | omega) ?_) | (refine Kp.next ?_ (by assumption))))⟩
  · simp only [Bool.not_eq_true] at h1
    go_wp2_with fail
    go_ret
    exact ⟨int_ret (A1.out h1).symm, (by (repeat' first | assumption | exact Kp.refl _ | apply Kp.alloc | apply Kp.drew | apply Kp.drewN | (refine Kp.setCell (by first | (simp; done) | (simp; omega) | omega) ?_) | (refine Kp.next ?_ (by assumption))))⟩

end Go.Proofs.Ytonangdimkgdpaa
