/- The walks of the small functions on sets of users, the sheet, corners. -/
import Derived.Test.YtonangdimkgdpaaBase
namespace Go.Proofs.Ytonangdimkgdpaa
open Go.RowKit

theorem two_pow_lt64 {u : Nat} (h : u < 64) : 2 ^ u < 18446744073709551616 := Nat.lt_of_lt_of_le (Nat.pow_lt_pow_right (by omega) h) (by decide)
theorem wrap_u64_nat {x : Nat} (h : x < 18446744073709551616) : IntKind.u64.wrap (x : Int) = x := by rw [IntKind.wrap_u64]; omega
/-- The set of the users from 0 to n - 1. -/
def allN (n : Int) : Nat := 2 ^ n.toNat - 1
theorem allN_lt {n : Int} (h : n ≤ 64) : allN n < 18446744073709551616 := by
  unfold allN
  have : 2 ^ n.toNat ≤ 2 ^ 64 := Nat.pow_le_pow_right (by omega) (by omega)
  omega
def allOk (n : Int) : Bool := decide (0 ≤ n ∧ n ≤ 64)
def allE (n : Int) : Nat × Int := if allOk n then (allN n, 0) else (0, 3)

set_option maxHeartbeats 400000 in
theorem refSheet_any (w : World) : Calls Try.prog 24 #[] w (Gives w (.agg #[.int .i64 sheetR.c1, .int .i64 sheetR.r1, .int .i64 sheetR.c2, .int .i64 sheetR.r2])) := by
  go_enter Try.func24, Try.ntmps24
  go_wp2
  refine bodyPost_ret (v := .agg #[.int .i64 sheetR.c1, .int .i64 sheetR.r1, .int .i64 sheetR.c2, .int .i64 sheetR.r2]) (by simp [results, Try.results24, go_sem, sheetR]) rfl ⟨rfl, (by (repeat' first | assumption | exact Kp.refl _ | apply Kp.alloc | apply Kp.drew | apply Kp.drewN | (refine Kp.setCell (by first | (simp; done) | (simp; omega) | omega) ?_) | (refine Kp.next ?_ (by assumption))))⟩

set_option maxHeartbeats 400000 in
theorem aclSheet_any (w : World) : Calls Try.prog 30 #[] w (Gives w (.agg #[.int .i64 sheetR.c1, .int .i64 sheetR.r1, .int .i64 sheetR.c2, .int .i64 sheetR.r2])) := by
  go_enter Try.func30, Try.ntmps30
  go_wp2
  refine bodyPost_ret (v := .agg #[.int .i64 sheetR.c1, .int .i64 sheetR.r1, .int .i64 sheetR.c2, .int .i64 sheetR.r2]) (by simp [results, Try.results30, go_sem, sheetR]) rfl ⟨rfl, (by (repeat' first | assumption | exact Kp.refl _ | apply Kp.alloc | apply Kp.drew | apply Kp.drewN | (refine Kp.setCell (by first | (simp; done) | (simp; omega) | omega) ?_) | (refine Kp.next ?_ (by assumption))))⟩

set_option maxHeartbeats 400000 in
theorem bit_any (u : Int) (h0 : 0 ≤ u) (hu : u < 64) (w : World) : Calls Try.prog 41 #[.int .i64 u] w (Is w (.int .u64 (2 ^ u.toNat))) := by
  go_enter Try.func41, Try.ntmps41
  go_wp2
  go_ret
  refine ⟨int_ret ?_, rfl⟩
  have := wrap_u64_nat (two_pow_lt64 (u := u.toNat) (by omega))
  simpa using this
set_option maxHeartbeats 400000 in
theorem groupAll_any (n : Int) (w : World) : Calls Try.prog 29 #[.int .i64 n] w (Is w (.tuple #[.int .u64 (allE n).1, .int .i64 (allE n).2])) := by
  by_cases h : 0 ≤ n ∧ n ≤ 64
  · have e : allE n = (allN n, 0) := by simp [allE, allOk, h]
    have H : IntKind.u64.wrap (IntKind.u64.wrap (2 ^ n.toNat) - 1) = (allN n : Int) := by
      unfold allN
      have hp : 1 ≤ 2 ^ n.toNat := Nat.one_le_two_pow
      have hle : 2 ^ n.toNat ≤ 2 ^ 64 := Nat.pow_le_pow_right (by omega) (by omega)
      rw [IntKind.wrap_u64, IntKind.wrap_u64]
      have hc : (2 : Int) ^ n.toNat = ((2 ^ n.toNat : Nat) : Int) := by simp
      rw [hc]
      generalize 2 ^ n.toNat = x at *
      omega
    rw [e]
    have H' : Hid (IntKind.u64.wrap (IntKind.u64.wrap (2 ^ n.toNat) - 1) = (allN n : Int)) := H
    clear H e
    obtain ⟨h1, h2⟩ := h
    go_enter Try.func29, Try.ntmps29
    go_wp2
    all_goals first | (exfalso; omega) | skip
    go_ret2
    exact ⟨by simp [H'.out], rfl⟩
  · have e : allE n = (0, 3) := by simp [allE, allOk, h]
    rw [e]
    clear e
    go_enter Try.func29, Try.ntmps29
    go_wp2
    all_goals first | (exfalso; omega) | skip
    all_goals
      go_ret2
      exact ⟨rfl, rfl⟩

set_option maxHeartbeats 400000 in
theorem refAll_any (n : Int) (w : World) : Calls Try.prog 35 #[.int .i64 n] w (Is w (.tuple #[.int .u64 (allE n).1, .int .i64 (allE n).2])) := by
  by_cases h : 0 ≤ n ∧ n ≤ 64
  · have E : Hid (allE n = (allN n, 0)) := by simp [Hid, allE, allOk, h]
    obtain ⟨h1, h2⟩ := h
    have hd : decide (n < 0) = false := by simp; omega
    go_enter Try.func35, Try.ntmps35
    go_wp2
    go_loopw [4, 5] (fun s v wr => ∃ k : Int, 0 ≤ k ∧ k ≤ n ∧ v = .int .i64 k ∧ s = .int .u64 (allN k) ∧ w = wr) (fun _ v _ => (n - intOf v).toNat)
    case atStart => exact ⟨0, by omega, by omega, rfl, rfl, rfl⟩
    case round =>
      obtain ⟨k, hk0, hk, rfl, rfl, rfl⟩ := hrel
      by_cases hlt : k < n
      · have step : bits .or .u64 (allN k) ((2 ^ k.toNat : Nat) : Int) = (allN (k + 1) : Int) := by
          rw [u64_or_nat _ _ (allN_lt (by omega)) (two_pow_lt64 (by omega))]
          have e1 : (k + 1).toNat = k.toNat + 1 := by omega
          unfold allN
          rw [e1, Nat.or_comm, nat_join k.toNat _ _ (Nat.mod_self _) (by have := Nat.one_le_two_pow (n := k.toNat); omega), Nat.pow_succ]
          have := Nat.one_le_two_pow (n := k.toNat)
          congr 1
          omega
        have STEP : Hid (bits .or .u64 (allN k) (2 ^ k.toNat) = (allN (k + 1) : Int)) := by simpa [Hid] using step
        clear step
        go_wp2_with (go_at_call 41; refine (bit_any _ (by omega) (by omega) _).mono ?_; rintro e w' ⟨rfl, rfl⟩)
        go_roundw
        case rel => exact ⟨k + 1, by omega, by omega, rfl, by rw [STEP.out], trivial⟩
        case measure => simp [intOf]; omega
      · go_wp2
        go_ret2
        obtain rfl : k = n := by omega
        exact ⟨by rw [E.out]; rfl, rfl⟩
  · have E : Hid (allE n = (0, 3)) := by simp [Hid, allE, allOk, h]
    go_enter Try.func35, Try.ntmps35
    go_wp2
    all_goals first | (exfalso; omega) | skip
    all_goals
      go_ret2
      exact ⟨by rw [E.out]; rfl, rfl⟩

set_option maxHeartbeats 400000 in
theorem corners_any (R : Rect) (w : World) : Calls Try.prog 37 #[.agg #[.int .i64 R.c1, .int .i64 R.r1, .int .i64 R.c2, .int .i64 R.r2]] w (Gives w (.tuple #[.agg #[.int .i64 R.c1, .int .i64 R.r1], .agg #[.int .i64 R.c2, .int .i64 R.r2]])) := by
  go_enter Try.func37, Try.ntmps37
  go_wp2
  go_region
  go_wp2
  refine bodyPost_ret (v := .tuple #[.agg #[.int .i64 R.c1, .int .i64 R.r1], .agg #[.int .i64 R.c2, .int .i64 R.r2]]) (by simp [results, Try.results37, go_sem]) rfl ⟨rfl, (by (repeat' first | assumption | exact Kp.refl _ | apply Kp.alloc | apply Kp.drew | apply Kp.drewN | (refine Kp.setCell (by first | (simp; done) | (simp; omega) | omega) ?_) | (refine Kp.next ?_ (by assumption))))⟩

end Go.Proofs.Ytonangdimkgdpaa
