/- The walks of the small functions on addresses, ranges and sets of users. -/
import Derived.Test.YtonangdimkgdpaaBase
namespace Go.Proofs.Ytonangdimkgdpaa
open Go.RowKit

set_option maxHeartbeats 400000 in
theorem refHas_any (R : Rect) (x : Ref) (w : World) : Calls Try.prog 13 #[.agg #[.int .i64 R.c1, .int .i64 R.r1, .int .i64 R.c2, .int .i64 R.r2], .agg #[.int .i64 x.col, .int .i64 x.row]] w (Gives w (.bool (hasB R x))) := by
  go_enter Try.func13, Try.ntmps13
  go_wp2
  all_goals
    go_ret
    refine ⟨bool_ret ?_, (by (repeat' first | assumption | exact Kp.refl _ | apply Kp.alloc | apply Kp.drew | apply Kp.drewN | (refine Kp.setCell (by first | (simp; done) | (simp; omega) | omega) ?_) | (refine Kp.next ?_ (by assumption))))⟩
    rw [hasB, Bool.eq_iff_iff]
    simp
    try omega

set_option maxHeartbeats 400000 in
theorem rectHas_any (R : Rect) (x : Ref) (w : World) : Calls Try.prog 36 #[.agg #[.int .i64 R.c1, .int .i64 R.r1, .int .i64 R.c2, .int .i64 R.r2], .agg #[.int .i64 x.col, .int .i64 x.row]] w (Gives w (.bool (hasB R x))) := by
  go_enter Try.func36, Try.ntmps36
  go_wp2
  all_goals
    go_ret
    refine ⟨bool_ret ?_, (by (repeat' first | assumption | exact Kp.refl _ | apply Kp.alloc | apply Kp.drew | apply Kp.drewN | (refine Kp.setCell (by first | (simp; done) | (simp; omega) | omega) ?_) | (refine Kp.next ?_ (by assumption))))⟩
    rw [hasB, Bool.eq_iff_iff]
    simp
    try omega

set_option maxHeartbeats 400000 in
theorem address_any (x : Ref) (w : World) : Calls Try.prog 11 #[.agg #[.int .i64 x.col, .int .i64 x.row]] w (Gives w (.bool (refOk x))) := by
  go_enter Try.func11, Try.ntmps11
  go_wp2
  all_goals
    go_ret
    refine ⟨bool_ret ?_, (by (repeat' first | assumption | exact Kp.refl _ | apply Kp.alloc | apply Kp.drew | apply Kp.drewN | (refine Kp.setCell (by first | (simp; done) | (simp; omega) | omega) ?_) | (refine Kp.next ?_ (by assumption))))⟩
    rw [refOk, Bool.eq_iff_iff]
    simp
    try omega

set_option maxHeartbeats 400000 in
theorem valid_any (x : Ref) (w : World) : Calls Try.prog 27 #[.agg #[.int .i64 x.col, .int .i64 x.row]] w (Gives w (.bool (refOk x))) := by
  go_enter Try.func27, Try.ntmps27
  go_wp2
  all_goals
    go_ret
    refine ⟨bool_ret ?_, (by (repeat' first | assumption | exact Kp.refl _ | apply Kp.alloc | apply Kp.drew | apply Kp.drewN | (refine Kp.setCell (by first | (simp; done) | (simp; omega) | omega) ?_) | (refine Kp.next ?_ (by assumption))))⟩
    rw [refOk, Bool.eq_iff_iff]
    simp
    try omega

set_option maxHeartbeats 400000 in
theorem range_any (R : Rect) (w : World) : Calls Try.prog 25 #[.agg #[.int .i64 R.c1, .int .i64 R.r1, .int .i64 R.c2, .int .i64 R.r2]] w (Gives w (.bool (rectOk R))) := by
  go_enter Try.func25, Try.ntmps25
  go_wp2
  all_goals
    go_ret
    refine ⟨bool_ret ?_, (by (repeat' first | assumption | exact Kp.refl _ | apply Kp.alloc | apply Kp.drew | apply Kp.drewN | (refine Kp.setCell (by first | (simp; done) | (simp; omega) | omega) ?_) | (refine Kp.next ?_ (by assumption))))⟩
    rw [rectOk, Bool.eq_iff_iff]
    simp
    try omega

end Go.Proofs.Ytonangdimkgdpaa
