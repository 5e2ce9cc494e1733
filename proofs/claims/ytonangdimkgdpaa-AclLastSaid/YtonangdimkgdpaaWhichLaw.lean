/- The walk of the law AclWhich: it returns true. -/
import Derived.Test.YtonangdimkgdpaaWhole
namespace Go.Proofs.Ytonangdimkgdpaa
open Go.RowKit

theorem lastN_none {x : Ref} {l : List Rule} : ∀ {n j : Nat} {r : Rule}, lastN x l n < j → j < n → l[j]? = some r → hasB r.rect x = false := by
  intro n
  induction n with
  | zero => intro j r _ h; omega
  | succ n ih =>
    intro j r hj hn hr
    rw [lastN] at hj
    split at hj
    · rename_i r' hr'
      split at hj
      · omega
      · rename_i hf
        by_cases e : j = n
        · subst e
          rw [hr'] at hr
          injection hr with hr
          subst hr
          simpa using hf
        · exact ih hj (by omega) hr
    · rename_i hn'
      by_cases e : j = n
      · subst e; rw [hn'] at hr; cases hr
      · exact ih hj (by omega) hr
theorem lastN_some {x : Ref} {l : List Rule} {r0 : Rule} (h0 : l[0]? = some r0) (hx : hasB r0.rect x = true) : ∀ {n : Nat}, 0 < n → ∃ r, l[lastN x l n]? = some r ∧ hasB r.rect x = true := by
  intro n
  induction n with
  | zero => intro h; omega
  | succ n ih =>
    intro _
    rw [lastN]
    split
    · rename_i r' hr'
      split
      · rename_i ht; exact ⟨r', hr', ht⟩
      · rcases Nat.eq_zero_or_pos n with e | e
        · subst e; exact ⟨r0, h0, hx⟩
        · exact ih e
    · rcases Nat.eq_zero_or_pos n with e | e
      · subst e; exact ⟨r0, h0, hx⟩
      · exact ih e
theorem sheet_ok : sheetR.ok := ⟨by unfold i64; decide, by unfold i64; decide, by unfold i64; decide, by unfold i64; decide⟩
theorem has_sheet {x : Ref} (h : refOk x = true) : hasB sheetR x = true := by
  have h' := of_decide_eq_true h
  exact decide_eq_true ⟨h'.1, h'.2.1, h'.2.2.1, h'.2.2.2⟩

set_option maxHeartbeats 1000000 in
theorem lawWhich_any (f : Rights) (hf : f.ok) (A : Option Addr) (cap : Nat) (l : List Rule) (hl : l.length * 56 ≤ 140737488351232) (hok : ∀ r ∈ l, r.ok) (x : Ref) (_ : x.ok) (w : World) (hs : SlAt Rule.vals 7 w A l) :
    Calls Try.prog 3 #[.agg #[.int .u64 f.read, .int .u64 f.write, .int .u64 f.own], .slice A l.length cap, .agg #[.int .i64 x.col, .int .i64 x.row]] w (Gives w (.bool true)) := by
  obtain ⟨a, ha⟩ : ∃ a : List Rule, a = ⟨sheetR, f⟩ :: l := ⟨_, rfl⟩
  have hal : a.length = l.length + 1 := by rw [ha]; rfl
  have ha0 : a[0]? = some ⟨sheetR, f⟩ := by rw [ha]; rfl
  have hal' : a.length ≤ 1000000000000000 := by omega
  have haok : ∀ r ∈ a, r.ok := by
    rw [ha]
    intro r hr
    rcases List.mem_cons.1 hr with rfl | hr
    · exact ⟨sheet_ok, hf⟩
    · exact hok r hr
  have HA : Hid (a = ⟨sheetR, f⟩ :: l) := ha
  have HAL : Hid (a.length = l.length + 1) := hal
  have HA0 : Hid (a[0]? = some ⟨sheetR, f⟩) := ha0
  clear ha hal ha0
  go_enter Try.func3, Try.ntmps3
  go_wp2_with fail
  refine (whole_any f A cap l hl _ (hs.keep (by (repeat' first | assumption | exact Kp.refl _ | apply Kp.alloc | apply Kp.drew | apply Kp.drewN | (refine Kp.setCell (by first | (simp; done) | (simp; omega) | omega) ?_) | (refine Kp.next ?_ (by assumption)))))).mono ?_; rintro e w1 ⟨v1, rfl, hown, hk1⟩
  rw [← HA.out] at hown
  obtain ⟨A1, c1, rfl⟩ := hown.form
  have HS : Hid (SlAt Rule.vals 7 w1 A1 a) := (OwnV.sl fit_rule hown).1
  clear hown hs
  have l0 : w1.cell? ⟨w.heap.size + 1, 0, none⟩ = some (.int .i64 x.col) := hk1.later (by simp)
  have l1 : w1.cell? ⟨w.heap.size + 1, 1, none⟩ = some (.int .i64 x.row) := hk1.later (by simp)
  have hkw : Kp w w1 := by (repeat' first | assumption | exact Kp.refl _ | apply Kp.alloc | apply Kp.drew | apply Kp.drewN | (refine Kp.setCell (by first | (simp; done) | (simp; omega) | omega) ?_) | (refine Kp.next ?_ (by assumption)))
  clear hk1
  by_cases d1 : chkE a = 0
  · have D1 : Hid (chkE a = 0) := d1
    clear d1
    go_wp2_with fail
    refine (refCheck_yes A1 c1 a hal' haok _ HS.out D1.out).mono ?_; rintro e w2 ⟨rfl, hk2⟩
    replace l0 := hk2.later l0
    replace l1 := hk2.later l1
    by_cases d2 : l.length ≤ 60
    · go_wp2_with fail
      refine (address_any x _).mono ?_; rintro e w3 ⟨rfl, hk3⟩
      replace l0 := hk3.later l0
      replace l1 := hk3.later l1
      by_cases d3 : refOk x = true
      · have hk13 : Kp w1 w3 := by (repeat' first | assumption | exact Kp.refl _ | apply Kp.alloc | apply Kp.drew | apply Kp.drewN | (refine Kp.setCell (by first | (simp; done) | (simp; omega) | omega) ?_) | (refine Kp.next ?_ (by assumption)))
        have E : whichS x a = ((lastN x a a.length : Int), 0) := by simp [whichS, d3, D1.out]
        have hpos : 0 < a.length := by have := HAL.out; omega
        have hlt : lastN x a a.length < a.length := lastN_lt hpos
        have HN : Hid (∀ j r, lastN x a a.length < j → j < a.length → a[j]? = some r → hasB r.rect x = false) := fun j r => lastN_none
        obtain ⟨r, hr, hrx⟩ := lastN_some (n := a.length) HA0.out (has_sheet d3) hpos
        have HR : Hid (a[lastN x a a.length]? = some r) := hr
        clear hr
        go_wp2_with fail
        refine (aclWhich_yes x A1 c1 a hal' haok _ (HS.out.keep hk13) E).mono ?_; rintro e w4 ⟨rfl, hk4⟩
        replace l0 := hk4.later l0
        replace l1 := hk4.later l1
        have hk14 : Kp w1 w4 := hk13.next hk4
        clear E hk2 hk3 hk13
        generalize lastN x a a.length = k at *
        generalize hn : a.length = n at *
        have HL : Hid (a.length = n) := hn
        clear hn
        obtain ⟨b, o, rfl, hb, q0, q1, q2, q3, -, -, -⟩ := (HS.out.keep hk14).rule HR.out
        have t0 : decide ((k : Int) < 0) = false := by rw [decide_eq_false_iff_not]; omega
        have t1 : decide (n ≤ k) = false := by rw [decide_eq_false_iff_not]; omega
        have z1 : w.heap.size + 1 < w4.heap.size := World.block_lt_of_cell? _ _ l0
        go_wp2_with fail
        go_region_held3 (fun w' => (∀ b o, b < w4.heap.size → w'.cell? ⟨b, o, none⟩ = w4.cell? ⟨b, o, none⟩) ∧ Kp w4 w') (first | exact held_refl _ | exact held_next (by assumption) (by assumption) | exact held_alloc (by assumption)) (first | (go_at_call 13; refine (refHas_any r.rect x _).mono ?_; rintro e w5 ⟨rfl, hk5⟩))
        rename_i hH
        replace hH := hH.2
        have l0' := hH.later l0
        have l1' := hH.later l1
        clear l0 l1 q0 q1 q2 q3 hk5 hb
        go_wp2_with fail
        go_loopw [12] (fun v wr => ∃ j : Nat, k < j ∧ j ≤ n ∧ v = .int .i64 j ∧ Kp w5 wr) (fun v _ => n - (intOf v).toNat)
        case atStart => exact ⟨k + 1, by omega, by omega, by go_num, Kp.refl _⟩
        case round =>
          obtain ⟨j, hkj, hjn, rfl, hkp⟩ := hrel
          by_cases hjl : j < n
          · obtain ⟨r', hr'⟩ : ∃ r, a[j]? = some r := ⟨a[j]'(by have := HL.out; omega), by simp⟩
            have hno := HN.out j r' hkj hjl hr'
            have HR' : Hid (a[j]? = some r') := hr'
            clear hr'
            obtain ⟨b', o', hbo, hb, q0, q1, q2, q3, -, -, -⟩ := (((HS.out.keep hk14).keep hH).keep hkp).rule HR'.out
            injection hbo with hbo
            injection hbo with hb1 hb2
            subst hb1 hb2
            have m0 := hkp.later l0'
            have m1 := hkp.later l1'
            have z2 : w.heap.size + 1 < wr.heap.size := World.block_lt_of_cell? _ _ m0
            go_wp2_with fail
            go_region_held3 (fun w' => (∀ b o, b < wr.heap.size → w'.cell? ⟨b, o, none⟩ = wr.cell? ⟨b, o, none⟩) ∧ Kp wr w') (first | exact held_refl _ | exact held_next (by assumption) (by assumption) | exact held_alloc (by assumption)) (first | (go_at_call 13; refine (refHas_any r'.rect x _).mono ?_; rintro e w6 ⟨rfl, hk6⟩))
            rename_i hH'
            replace hH' := hH'.2
            go_wp2_with fail
            go_roundw
            case rel => exact ⟨j + 1, by omega, by omega, by go_num, hkp.next hH'⟩
            case measure => simp [intOf]; omega
          · go_wp2_with fail
            refine (example_any _).mono ?_; rintro e w6 ⟨rfl, hk6⟩
            go_wp2_with fail
            go_ret
            exact ⟨rfl, by (repeat' first | assumption | exact Kp.refl _ | apply Kp.alloc | apply Kp.drew | apply Kp.drewN | (refine Kp.setCell (by first | (simp; done) | (simp; omega) | omega) ?_) | (refine Kp.next ?_ (by assumption)))⟩
      · simp only [Bool.not_eq_true] at d3
        rw [d3]
        go_wp2_with fail
        go_ret
        exact ⟨rfl, by (repeat' first | assumption | exact Kp.refl _ | apply Kp.alloc | apply Kp.drew | apply Kp.drewN | (refine Kp.setCell (by first | (simp; done) | (simp; omega) | omega) ?_) | (refine Kp.next ?_ (by assumption)))⟩
    · go_wp2_with fail
      go_ret
      exact ⟨rfl, by (repeat' first | assumption | exact Kp.refl _ | apply Kp.alloc | apply Kp.drew | apply Kp.drewN | (refine Kp.setCell (by first | (simp; done) | (simp; omega) | omega) ?_) | (refine Kp.next ?_ (by assumption)))⟩
  · have hne : (chkE a != 0) = true := by rw [bne_iff_ne]; exact d1
    clear d1
    go_wp2_with fail
    refine (refCheck_no A1 c1 a hal' haok _ HS.out).mono ?_; rintro e w2 ⟨rfl, hk2⟩
    go_wp2_with fail
    go_ret
    exact ⟨rfl, by (repeat' first | assumption | exact Kp.refl _ | apply Kp.alloc | apply Kp.drew | apply Kp.drewN | (refine Kp.setCell (by first | (simp; done) | (simp; omega) | omega) ?_) | (refine Kp.next ?_ (by assumption)))⟩

end Go.Proofs.Ytonangdimkgdpaa
