/- The walk of the law AclMatches: it returns true. -/
import Derived.Test.YtonangdimkgdpaaWhichLaw
namespace Go.Proofs.Ytonangdimkgdpaa
open Go.RowKit

theorem refAt_is (x : Ref) (A : Option Addr) (cap : Nat) (l : List Rule) (hl : l.length ≤ 1000000000000000) (hok : ∀ r ∈ l, r.ok) (w : World) (hs : SlAt Rule.vals 7 w A l) (R : Rights) (re : Int) (h : atS x l = (R, re)) :
    Calls Try.prog 19 #[.agg #[.int .i64 x.col, .int .i64 x.row], .slice A l.length cap] w (Gives w (.tuple #[.agg #[.int .u64 R.read, .int .u64 R.write, .int .u64 R.own], .int .i64 re])) := by
  have := refAt_any x A cap l hl hok w hs
  rw [h] at this
  exact this
theorem eqB_self {α : Type} [DecidableEq α] (a : List α) : eqB a a = true := by simp [eqB]

set_option maxRecDepth 100000 in
set_option maxHeartbeats 4000000 in
theorem lawMatches_any (n : Int) (_ : i64 n) (A : Option Addr) (cap : Nat) (l : List Rule) (hl : l.length * 56 ≤ 140737488351232) (hok : ∀ r ∈ l, r.ok) (B : Option Addr) (capB : Nat) (q : List Ref) (hq : q.length * 16 ≤ 140737488351232) (_ : ∀ r ∈ q, r.ok) (w : World)
    (hs : SlAt Rule.vals 7 w A l) (hsq : SlAt Ref.vals 2 w B q) :
    Calls Try.prog 4 #[.int .i64 n, .slice A l.length cap, .slice B q.length capB] w (Gives w (.bool true)) := by
  have hl' : l.length ≤ 1000000000000000 := by omega
  have hl2 : l.length * 56 ≤ 140737488355328 := by omega
  have HS : Hid (SlAt Rule.vals 7 w A l) := hs
  have HQ : Hid (SlAt Ref.vals 2 w B q) := hsq
  clear hs hsq
  generalize hm : q.length = m at *
  have HM : Hid (q.length = m) := hm
  clear hm
  by_cases h1 : l.length ≤ 70
  · by_cases h2 : m ≤ 40
    · go_enter Try.func4, Try.ntmps4
      go_wp2_with fail
      refine (copyRules_any A cap l hl2 _ HS.out).mono ?_; rintro e w1 ⟨v1, rfl, hown, hk1⟩
      obtain ⟨A1, c1, rfl⟩ := hown.form
      have HS1 : Hid (SlAt Rule.vals 7 w1 A1 l) := (OwnV.sl fit_rule hown).1
      clear hown
      go_wp2_with fail
      refine (aclCheck_any n A1 c1 l hl' hok _ HS1.out).mono ?_; rintro e w2 ⟨rfl, hk2⟩
      go_wp2_with fail
      refine (refCheck_any n A cap l hl' hok _ (HS.out.keep (hk1.next hk2))).mono ?_; rintro e w3 ⟨rfl, hk3⟩
      have hkw : Kp w w3 := (hk1.next hk2).next hk3
      have HS3 : Hid (SlAt Rule.vals 7 w3 A1 l) := (HS1.out.keep hk2).keep hk3
      clear hk1 hk2 hk3
      generalize checkS n l = ck at *
      have u1 : (ck.1 != ck.1) = false := by simp
      have u2 : (ck.2 != ck.2) = false := by simp
      go_wp2_with fail
      clear u1 u2
      go_loopw [12] (fun v wr => ∃ k : Nat, k ≤ m ∧ v = .int .i64 k ∧ Kp w3 wr) (fun v _ => m - (intOf v).toNat)
      case atStart => exact ⟨0, Nat.zero_le _, rfl, Kp.refl _⟩
      case round =>
        obtain ⟨k, hk, rfl, hkp⟩ := hrel
        have hw0 : Kp w wr := hkw.next hkp
        by_cases hlt : k < m
        · obtain ⟨x, hx⟩ : ∃ r, q[k]? = some r := ⟨q[k]'(by have := HM.out; omega), by simp⟩
          obtain ⟨b, o, rfl, -, c0, c1⟩ := (HQ.out.keep hw0).ref hx
          clear hx
          go_wp2_with fail
          refine (aclWhich_any x A1 _ l hl' hok _ (HS3.out.keep hkp)).mono ?_; rintro e w4 ⟨rfl, hk4⟩
          replace c0 := hk4.later c0
          replace c1 := hk4.later c1
          have h4 : Kp wr w4 := hk4
          clear hk4
          go_wp2_with fail
          refine (refWhich_any x A cap l hl' hok _ (HS.out.keep (hw0.next h4))).mono ?_; rintro e w5 ⟨rfl, hk5⟩
          replace c0 := hk5.later c0
          replace c1 := hk5.later c1
          have h5 : Kp wr w5 := h4.next hk5
          clear hk5 h4
          go_wp2_with fail
          refine (aclAt_any x A1 _ l hl' hok _ ((HS3.out.keep hkp).keep h5)).mono ?_; rintro e w6 ⟨rfl, hk6⟩
          replace c0 := hk6.later c0
          replace c1 := hk6.later c1
          have h6 : Kp wr w6 := h5.next hk6
          clear hk6 h5
          generalize whichS x l = wh at *
          obtain ⟨R, hR⟩ : ∃ R, R = atS x l := ⟨_, rfl⟩
          rw [← hR]
          obtain ⟨R, re⟩ := R
          have HR : Hid (atS x l = (R, re)) := hR.symm
          clear hR
          have zb : b < w6.heap.size := World.block_lt_of_cell? _ _ c0
          go_wp2_with fail
          have n0 : (w6.alloc (.cells #[.int .u64 R.read, .int .u64 R.write, .int .u64 R.own] 24)).cell? ⟨w6.heap.size, 0, none⟩ = some (.int .u64 R.read) := by go_simp
          have n1 : (w6.alloc (.cells #[.int .u64 R.read, .int .u64 R.write, .int .u64 R.own] 24)).cell? ⟨w6.heap.size, 1, none⟩ = some (.int .u64 R.write) := by go_simp
          have n2 : (w6.alloc (.cells #[.int .u64 R.read, .int .u64 R.write, .int .u64 R.own] 24)).cell? ⟨w6.heap.size, 2, none⟩ = some (.int .u64 R.own) := by go_simp
          have h6' : Kp wr (w6.alloc (.cells #[.int .u64 R.read, .int .u64 R.write, .int .u64 R.own] 24)) := by (repeat' first | assumption | exact Kp.refl _ | apply Kp.alloc | apply Kp.drew | apply Kp.drewN | (refine Kp.setCell (by first | (simp; done) | (simp; omega) | omega) ?_) | (refine Kp.next ?_ (by assumption)))
          refine (refAt_is x A cap l hl' hok _ (HS.out.keep (hw0.next h6')) R re HR.out).mono ?_; rintro e w7 ⟨rfl, hk7⟩
          replace n0 := hk7.later n0
          replace n1 := hk7.later n1
          replace n2 := hk7.later n2
          have h7 : Kp wr w7 := h6'.next hk7
          have z6 : w6.heap.size < w7.heap.size := World.block_lt_of_cell? _ _ n0
          have e1 := neq_rights R R
          have u1 : (wh.1 != wh.1) = false := by simp
          have u2 : (wh.2 != wh.2) = false := by simp
          have u3 : (re != re) = false := by simp
          clear c0 c1 h6' hk7 h6 zb
          go_wp2_with fail
          go_roundw
          case rel => exact ⟨k + 1, by omega, by go_num, by (repeat' first | assumption | exact Kp.refl _ | apply Kp.alloc | apply Kp.drew | apply Kp.drewN | (refine Kp.setCell (by first | (simp; done) | (simp; omega) | omega) ?_) | (refine Kp.next ?_ (by assumption)))⟩
          case measure => simp [intOf]; omega
        · go_wp2_with fail
          refine (equalRules_any A1 A _ cap l l hl' hl' _ (HS3.out.keep hkp) (HS.out.keep hw0)).mono ?_; rintro e w4 ⟨rfl, hk4⟩
          rw [eqB_self]
          go_wp2_with fail
          refine (example_any _).mono ?_; rintro e w5 ⟨rfl, hk5⟩
          go_wp2_with fail
          go_ret
          exact ⟨rfl, by (repeat' first | assumption | exact Kp.refl _ | apply Kp.alloc | apply Kp.drew | apply Kp.drewN | (refine Kp.setCell (by first | (simp; done) | (simp; omega) | omega) ?_) | (refine Kp.next ?_ (by assumption)))⟩
    · go_enter Try.func4, Try.ntmps4
      go_wp2_with fail
      all_goals
        go_ret
        exact ⟨rfl, by (repeat' first | assumption | exact Kp.refl _ | apply Kp.alloc | apply Kp.drew | apply Kp.drewN | (refine Kp.setCell (by first | (simp; done) | (simp; omega) | omega) ?_) | (refine Kp.next ?_ (by assumption)))⟩
  · go_enter Try.func4, Try.ntmps4
    go_wp2_with fail
    all_goals
      go_ret
      exact ⟨rfl, by (repeat' first | assumption | exact Kp.refl _ | apply Kp.alloc | apply Kp.drew | apply Kp.drewN | (refine Kp.setCell (by first | (simp; done) | (simp; omega) | omega) ?_) | (refine Kp.next ?_ (by assumption)))⟩

end Go.Proofs.Ytonangdimkgdpaa
