/- The walk of the program's check of rules. -/
import Derived.Test.YtonangdimkgdpaaChk
namespace Go.Proofs.Ytonangdimkgdpaa
open Go.RowKit

theorem or_within {a b c : Nat} {n : Int} (ha : a < 18446744073709551616) (hb : b < 18446744073709551616) (hc : c < 18446744073709551616) (h : n ≤ 64) :
    ∃ z : Int, bits .andNot .u64 (bits .or .u64 (bits .or .u64 (a : Int) (b : Int)) (c : Int)) (allN n : Int) = z ∧ (z = 0 ↔ rightsIn ⟨a, b, c⟩ n = true) := by
  refine ⟨_, rfl, ?_⟩
  have e1 : (18446744073709551616 : Nat) = 2 ^ 64 := by decide
  have hab : a ||| b < 18446744073709551616 := by rw [e1] at *; exact Nat.or_lt_two_pow ha hb
  have habc : a ||| b ||| c < 18446744073709551616 := by rw [e1] at *; exact Nat.or_lt_two_pow hab hc
  rw [u64_or_nat _ _ ha hb, u64_or_nat _ _ hab hc]
  have hz := andNot_zero habc h
  rw [← beq_iff_eq, hz]
  simp only [withinB, rightsIn, Bool.and_eq_true, decide_eq_true_eq]
  constructor
  · intro h
    exact ⟨Nat.lt_of_le_of_lt (Nat.le_trans Nat.left_le_or Nat.left_le_or) h, Nat.lt_of_le_of_lt (Nat.le_trans Nat.right_le_or Nat.left_le_or) h, Nat.lt_of_le_of_lt Nat.right_le_or h⟩
  · rintro ⟨h1, h2, h3⟩
    exact Nat.or_lt_two_pow (Nat.or_lt_two_pow h1 h2) h3

set_option maxHeartbeats 400000 in
theorem aclCheck_any (n : Int) (A : Option Addr) (cap : Nat) (l : List Rule) (hl : l.length ≤ 1000000000000000) (hok : ∀ r ∈ l, r.ok) (w : World) (hs : SlAt Rule.vals 7 w A l) :
    Calls Try.prog 16 #[.int .i64 n, .slice A l.length cap] w (Gives w (.tuple #[.int .i64 (checkS n l).1, .int .i64 (checkS n l).2])) := by
  by_cases hu : users1 n = true
  · have hu' : 1 ≤ n ∧ n ≤ 64 := by simpa [users1] using hu
    obtain ⟨u1, u2⟩ := hu'
    have EA : Hid (allE n = (allN n, 0)) := by simp [Hid, allE, allOk, u2]; omega
    have hn0 : (n == 0) = false := by rw [beq_eq_false_iff_ne]; omega
    by_cases h0 : l.length = 0
    · have E : Hid (checkS n l = (0, 2)) := by
        have : l = [] := List.eq_nil_of_length_eq_zero h0
        subst this
        simp [Hid, checkS]
      clear hu
      have h0' : ((l.length : Int) == 0) = true := by simp [h0]
      clear h0
      go_enter Try.func16, Try.ntmps16
      go_wp2_with (go_at_call 29; refine (groupAll_any n _).mono ?_; rw [EA.out]; rintro e w' ⟨rfl, rfl⟩)
      all_goals
        go_ret2
        exact ⟨pair_ret E.out rfl rfl, (by (repeat' first | assumption | exact Kp.refl _ | apply Kp.alloc | apply Kp.drew | apply Kp.drewN | (refine Kp.setCell (by first | (simp; done) | (simp; omega) | omega) ?_) | (refine Kp.next ?_ (by assumption))))⟩
    · obtain ⟨r0, hr0⟩ : ∃ r, l[0]? = some r := ⟨l[0], by simp [show 0 < l.length by omega]⟩
      have E0 : checkS n l = if l.length ≤ 64 then (if r0.rect = sheetR then scanR n 0 l else (0, 2)) else (64, 5) := by
        have hne : l.isEmpty = false := by cases l with | nil => simp at h0 | cons a l => rfl
        simp [checkS, hu, hne, head_rect hr0]
      have E : Hid (checkS n l = if l.length ≤ 64 then (if r0.rect = sheetR then scanR n 0 l else (0, 2)) else (64, 5)) := E0
      clear E0
      obtain ⟨b, o, rfl, hb, c0, c1, c2, c3, -, -, -⟩ := hs.rule hr0
      rw [Nat.zero_mul, Nat.add_zero] at c0 c1 c2 c3
      have HS : Hid (SlAt Rule.vals 7 w (some ⟨b, o, none⟩) l) := hs
      clear hs hu
      generalize hm : l.length = m at *
      have HM : Hid (l.length = m) := hm
      clear hm
      have hp : 0 < m := by omega
      have h0' : ((m : Int) == 0) = false := by rw [beq_eq_false_iff_ne]; omega
      clear h0
      have q := neq_rect r0.rect sheetR
      go_enter Try.func16, Try.ntmps16
      go_wp2_with (go_at_call 29; refine (groupAll_any n _).mono ?_; rw [EA.out]; rintro e w' ⟨rfl, rfl⟩)
      all_goals first | (exfalso; omega) | skip
      · go_ret2
        have hlong : 64 < (m : Int) := by assumption
        exact ⟨pair_ret (E.out.trans (if_neg (by omega))) rfl rfl, (by (repeat' first | assumption | exact Kp.refl _ | apply Kp.alloc | apply Kp.drew | apply Kp.drewN | (refine Kp.setCell (by first | (simp; done) | (simp; omega) | omega) ?_) | (refine Kp.next ?_ (by assumption))))⟩
      have hle : (m : Int) ≤ 64 := by assumption
      go_region_held3 (fun w' => (∀ b o, b < w.heap.size → w'.cell? ⟨b, o, none⟩ = w.cell? ⟨b, o, none⟩) ∧ Kp w w') (first | exact held_refl _ | exact held_next (by assumption) (by assumption) | exact held_alloc (by assumption)) (first | (go_at_call 30; refine (aclSheet_any _).mono ?_; rintro e w1 ⟨rfl, hb1⟩))
      rename_i hH
      replace hH := hH.2
      clear q
      have HSH : Hid (decide (r0.rect = sheetR) = true ↔ r0.rect = sheetR) := decide_eq_true_iff
      generalize decide (r0.rect = sheetR) = d at *
      cases d
      · go_wp2_with fail
        go_ret2
        exact ⟨pair_ret ((E.out.trans (if_pos (by omega))).trans (if_neg (by rw [← HSH.out]; simp))) rfl rfl, (by (repeat' first | assumption | exact Kp.refl _ | apply Kp.alloc | apply Kp.drew | apply Kp.drewN | (refine Kp.setCell (by first | (simp; done) | (simp; omega) | omega) ?_) | (refine Kp.next ?_ (by assumption))))⟩
      · have E2 : Hid (checkS n l = scanR n 0 l) := (E.out.trans (if_pos (by omega))).trans (if_pos (HSH.out.1 rfl))
        clear E HSH c0 c1 c2 c3 hr0 hp h0'
        simp only [Bool.not_true]
        go_wp2_with fail
        go_loopw [39] (fun v wr => ∃ k : Nat, k ≤ m ∧ v = .int .i64 k ∧ (∀ j r, j < k → l[j]? = some r → goodR n r = true) ∧ Kp w wr) (fun v _ => m - (intOf v).toNat)
        case atStart => exact ⟨0, Nat.zero_le _, rfl, fun j r h => absurd h (by omega), hH⟩
        case round =>
          obtain ⟨k, hk, rfl, hg, hkp⟩ := hrel
          have HG : Hid (∀ j r, j < k → l[j]? = some r → goodR n r = true) := hg
          clear hg
          by_cases hlt : k < m
          · obtain ⟨r, hr⟩ : ∃ r, l[k]? = some r := ⟨l[k]'(by have := HM.out; omega), by simp⟩
            obtain ⟨b', o', hbo, -, c0, c1, c2, c3, c4, c5, c6⟩ := (HS.out.keep hkp).rule hr
            injection hbo with hbo
            injection hbo with hb1 hb2
            subst hb1 hb2
            have hsz := hkp.le
            have hb' : b < wr.heap.size := by omega
            have hro := (hok r (List.mem_of_getElem? hr)).rights
            obtain ⟨z, hz, hzi⟩ := or_within hro.read hro.write hro.own u2
            have HZ : Hid (z = 0 ↔ rightsIn r.rights n = true) := hzi
            have HIT : Hid (scanR n 0 l = if rectOk r.rect then (if rightsIn r.rights n then scanR n (k + 1) (l.drop (k + 1)) else ((k : Int), 2)) else ((k : Int), 3)) := scan_hit HG.out hr
            have HR : Hid (l[k]? = some r) := hr
            clear hr hro hzi
            go_wp2_with fail
            refine (rectCheck_any r.rect _).mono ?_
            rintro e w2 ⟨rfl, hk2⟩
            have hq2 := hk2.rule
            have z2 : wr.heap.size < w2.heap.size := by have := hk2.le; simp at this; omega
            have hk3 : Kp wr w2 := by (repeat' first | assumption | exact Kp.refl _ | apply Kp.alloc | apply Kp.drew | apply Kp.drewN | (refine Kp.setCell (by first | (simp; done) | (simp; omega) | omega) ?_) | (refine Kp.next ?_ (by assumption)))
            by_cases hrg : rectOk r.rect = true
            · rw [chk_yes hrg]
              go_wp2_with fail
              go_ways
              all_goals
                first
                  | (go_ret2
                     exact ⟨pair_ret (((E2.out.trans HIT.out).trans (if_pos hrg)).trans (if_neg (by rw [← HZ.out]; simp_all))) rfl rfl, (by (repeat' first | assumption | exact Kp.refl _ | apply Kp.alloc | apply Kp.drew | apply Kp.drewN | (refine Kp.setCell (by first | (simp; done) | (simp; omega) | omega) ?_) | (refine Kp.next ?_ (by assumption))))⟩)
                  | (go_roundw
                     case rel =>
                       refine ⟨k + 1, by omega, by go_num, good_step HG.out HR.out ?_, (by (repeat' first | assumption | exact Kp.refl _ | apply Kp.alloc | apply Kp.drew | apply Kp.drewN | (refine Kp.setCell (by first | (simp; done) | (simp; omega) | omega) ?_) | (refine Kp.next ?_ (by assumption))))⟩
                       simp only [goodR, Bool.and_eq_true]
                       exact ⟨hrg, HZ.out.1 (by simp_all)⟩
                     case measure => simp [intOf]; omega)
            · rw [chk_no (by simpa using hrg)]
              go_wp2_with fail
              go_ret2
              exact ⟨pair_ret ((E2.out.trans HIT.out).trans (if_neg hrg)) rfl rfl, (by (repeat' first | assumption | exact Kp.refl _ | apply Kp.alloc | apply Kp.drew | apply Kp.drewN | (refine Kp.setCell (by first | (simp; done) | (simp; omega) | omega) ?_) | (refine Kp.next ?_ (by assumption))))⟩
          · go_wp2_with fail
            go_ret2
            have hkm : k = m := by omega
            subst hkm
            have e3 : scanR n 0 l = (0, 0) := scan_end n l (by rw [HM.out]; exact HG.out)
            exact ⟨pair_ret (E2.out.trans e3) rfl rfl, (by (repeat' first | assumption | exact Kp.refl _ | apply Kp.alloc | apply Kp.drew | apply Kp.drewN | (refine Kp.setCell (by first | (simp; done) | (simp; omega) | omega) ?_) | (refine Kp.next ?_ (by assumption))))⟩
  · have E : Hid (checkS n l = (0, 2)) := by simp [Hid, checkS, hu]
    by_cases hz : n = 0
    · subst hz
      have EA : Hid (allE 0 = (allN 0, 0)) := by simp [Hid, allE, allOk]
      clear hu
      go_enter Try.func16, Try.ntmps16
      go_wp2_with (go_at_call 29; refine (groupAll_any 0 _).mono ?_; rw [EA.out]; rintro e w' ⟨rfl, rfl⟩)
      all_goals
        go_ret2
        exact ⟨pair_ret E.out rfl rfl, (by (repeat' first | assumption | exact Kp.refl _ | apply Kp.alloc | apply Kp.drew | apply Kp.drewN | (refine Kp.setCell (by first | (simp; done) | (simp; omega) | omega) ?_) | (refine Kp.next ?_ (by assumption))))⟩
    · have EA : Hid (allE n = (0, 3)) := by simp [users1] at hu; simp [Hid, allE, allOk]; omega
      clear hu hz
      go_enter Try.func16, Try.ntmps16
      go_wp2_with (go_at_call 29; refine (groupAll_any n _).mono ?_; rw [EA.out]; rintro e w' ⟨rfl, rfl⟩)
      all_goals
        go_ret2
        exact ⟨pair_ret E.out rfl rfl, (by (repeat' first | assumption | exact Kp.refl _ | apply Kp.alloc | apply Kp.drew | apply Kp.drewN | (refine Kp.setCell (by first | (simp; done) | (simp; omega) | omega) ?_) | (refine Kp.next ?_ (by assumption))))⟩

end Go.Proofs.Ytonangdimkgdpaa
