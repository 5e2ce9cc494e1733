/- The walks of CopyRules and EqualRules. -/
import Derived.Test.YtonangdimkgdpaaApp
import Derived.Test.YtonangdimkgdpaaEq
namespace Go.Proofs.Ytonangdimkgdpaa
open Go.RowKit

set_option maxHeartbeats 400000 in
theorem copyRules_any (A : Option Addr) (cap : Nat) (l : List Rule) (hl : l.length * 56 ≤ 140737488355328) (w : World) (hs : SlAt Rule.vals 7 w A l) :
    Calls Try.prog 15 #[.slice A l.length cap] w (GivesX w (OutV Rule.vals 7 38 w.heap.size l)) := by
  go_enter Try.func15, Try.ntmps15
  go_wp2_with (at_builtin; refine wpList_app rfl _ _ rfl el_rule fit_rule (by decide) (OwnV.nil (base := w.heap.size)) rfl hs rfl rfl (by simpa using hl) (Nat.le_refl _) ?_; intro v1 w1 hown hg hat)
  go_ret
  exact ⟨v1, rfl, hown, (Kp.refl w).grown hg row_none⟩

/-- Are two lists of rules equal? -/
def eqB {α : Type} [DecidableEq α] (a b : List α) : Bool := decide (a = b)
theorem eq_of_all {α : Type} {a b : List α} (h : a.length = b.length) (hall : ∀ j x y, j < a.length → a[j]? = some x → b[j]? = some y → x = y) : a = b := by
  apply List.ext_getElem h
  intro i h1 h2
  exact hall i _ _ h1 (List.getElem?_eq_getElem h1) (List.getElem?_eq_getElem h2)

set_option maxHeartbeats 400000 in
theorem equalRules_any (A B : Option Addr) (ca cb : Nat) (a b : List Rule) (hla : a.length ≤ 1000000000000000) (hlb : b.length ≤ 1000000000000000) (w : World) (ha : SlAt Rule.vals 7 w A a) (hb : SlAt Rule.vals 7 w B b) :
    Calls Try.prog 20 #[.slice A a.length ca, .slice B b.length cb] w (Gives w (.bool (eqB a b))) := by
  have HA : Hid (SlAt Rule.vals 7 w A a) := ha
  have HB : Hid (SlAt Rule.vals 7 w B b) := hb
  clear ha hb
  by_cases hlen : a.length = b.length
  · rw [← hlen]
    have HL : Hid (a.length = b.length) := hlen
    clear hlen hlb
    generalize hm : a.length = m at *
    have HM : Hid (a.length = m) := hm
    clear hm
    have hmm : ((m : Int) != (m : Int)) = false := by simp
    go_enter Try.func20, Try.ntmps20
    go_wp2_with fail
    go_loopw [5] (fun v wr => ∃ k : Nat, k ≤ m ∧ v = .int .i64 k ∧ (∀ j x y, j < k → a[j]? = some x → b[j]? = some y → x = y) ∧ Kp w wr) (fun v _ => m - (intOf v).toNat)
    case atStart => exact ⟨0, Nat.zero_le _, rfl, fun j x y h => absurd h (by omega), Kp.refl _⟩
    case round =>
      obtain ⟨k, hk, rfl, hg, hkp⟩ := hrel
      have HG : Hid (∀ j x y, j < k → a[j]? = some x → b[j]? = some y → x = y) := hg
      clear hg
      by_cases hlt : k < m
      · obtain ⟨x, hx⟩ : ∃ r, a[k]? = some r := ⟨a[k]'(by have := HM.out; omega), by simp⟩
        obtain ⟨y, hy⟩ : ∃ r, b[k]? = some r := ⟨b[k]'(by have := HM.out; have := HL.out; omega), by simp⟩
        obtain ⟨p, o, rfl, hp, c0, c1, c2, c3, c4, c5, c6⟩ := (HA.out.keep hkp).rule hx
        obtain ⟨q, o', rfl, hq, d0, d1, d2, d3, d4, d5, d6⟩ := (HB.out.keep hkp).rule hy
        have E := neq_rule x y
        have HX : Hid (a[k]? = some x) := hx
        have HY : Hid (b[k]? = some y) := hy
        clear hx hy
        have HD : Hid (decide (x = y) = true ↔ x = y) := decide_eq_true_iff
        generalize decide (x = y) = d at *
        go_wp2_with fail
        go_quiet (fail)
        clear E
        cases d
        · go_wp2_with fail
          go_ret
          refine ⟨bool_ret ?_, by (repeat' first | assumption | exact Kp.refl _ | apply Kp.alloc | apply Kp.drew | apply Kp.drewN | (refine Kp.setCell (by first | (simp; done) | (simp; omega) | omega) ?_) | (refine Kp.next ?_ (by assumption)))⟩
          symm
          rw [eqB, decide_eq_false_iff_not]
          intro hab
          have hxy : x = y := by
            have h1 := HX.out
            rw [hab, HY.out] at h1
            injection h1 with h1
            exact h1.symm
          have := HD.out.2 hxy
          simp at this
        · go_wp2_with fail
          go_roundw
          case rel =>
            refine ⟨k + 1, by omega, by go_num, fun j x' y' hj hx' hy' => ?_, by (repeat' first | assumption | exact Kp.refl _ | apply Kp.alloc | apply Kp.drew | apply Kp.drewN | (refine Kp.setCell (by first | (simp; done) | (simp; omega) | omega) ?_) | (refine Kp.next ?_ (by assumption)))⟩
            by_cases e : j = k
            · subst e
              rw [HX.out] at hx'
              rw [HY.out] at hy'
              injection hx' with hx'
              injection hy' with hy'
              rw [← hx', ← hy']
              exact HD.out.1 (by trivial)
            · exact HG.out j x' y' (by omega) hx' hy'
          case measure => simp [intOf]; omega
      · go_wp2_with fail
        go_ret
        have : k = m := by omega
        subst this
        refine ⟨bool_ret ?_, by (repeat' first | assumption | exact Kp.refl _ | apply Kp.alloc | apply Kp.drew | apply Kp.drewN | (refine Kp.setCell (by first | (simp; done) | (simp; omega) | omega) ?_) | (refine Kp.next ?_ (by assumption)))⟩
        symm
        rw [eqB, decide_eq_true_eq]
        exact eq_of_all (HM.out.trans HL.out) (by rw [HM.out]; exact HG.out)
  · have E : Hid (eqB a b = false) := by
      rw [Hid, eqB, decide_eq_false_iff_not]
      rintro rfl
      exact hlen rfl
    have hne : ((a.length : Int) != (b.length : Int)) = true := by rw [bne_iff_ne]; omega
    clear hlen
    go_enter Try.func20, Try.ntmps20
    go_wp2_with fail
    go_ret
    exact ⟨bool_ret E.out.symm, by (repeat' first | assumption | exact Kp.refl _ | apply Kp.alloc | apply Kp.drew | apply Kp.drewN | (refine Kp.setCell (by first | (simp; done) | (simp; omega) | omega) ?_) | (refine Kp.next ?_ (by assumption)))⟩

end Go.Proofs.Ytonangdimkgdpaa
