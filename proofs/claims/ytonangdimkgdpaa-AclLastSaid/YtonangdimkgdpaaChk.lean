/- The walks of the checks of rules: the program's and the reference's. -/
import Derived.Test.YtonangdimkgdpaaLeaf3
import Derived.Test.YtonangdimkgdpaaEq
namespace Go.Proofs.Ytonangdimkgdpaa
open Go.RowKit

def rightsIn (x : Rights) (n : Int) : Bool := withinB x.read n && (withinB x.write n && withinB x.own n)
/-- The first rule that is not valid, from the i-th on. -/
def scanR (n : Int) : Nat → List Rule → Int × Int
  | _, [] => (0, 0)
  | i, r :: l => if rectOk r.rect then (if rightsIn r.rights n then scanR n (i + 1) l else (i, 2)) else (i, 3)
def goodR (n : Int) (r : Rule) : Bool := rectOk r.rect && rightsIn r.rights n
def users1 (n : Int) : Bool := decide (1 ≤ n ∧ n ≤ 64)
def checkS (n : Int) (l : List Rule) : Int × Int :=
  if users1 n && !l.isEmpty then (if l.length ≤ 64 then (if (l.map Rule.rect).head? = some sheetR then scanR n 0 l else (0, 2)) else (64, 5)) else (0, 2)
theorem scan_drop (n : Int) : ∀ (l : List Rule) (k i : Nat), (∀ j r, j < k → l[j]? = some r → goodR n r = true) → scanR n i l = scanR n (i + k) (l.drop k) := by
  intro l
  induction l with
  | nil => intro k i _; simp [scanR]
  | cons r l ih =>
    intro k i h
    cases k with
    | zero => rfl
    | succ k =>
      have h0 := h 0 r (by omega) rfl
      simp only [goodR, Bool.and_eq_true] at h0
      rw [scanR, if_pos h0.1, if_pos h0.2, ih k (i + 1) (fun j x hj hx => h (j + 1) x (by omega) (by simpa using hx)), List.drop_succ_cons, Nat.add_right_comm, Nat.add_assoc]
theorem scan_end (n : Int) (l : List Rule) (h : ∀ j r, j < l.length → l[j]? = some r → goodR n r = true) : scanR n 0 l = (0, 0) := by
  rw [scan_drop n l l.length 0 h]; simp [scanR]
theorem scan_hit {n : Int} {l : List Rule} {k : Nat} {r : Rule} (h : ∀ j r, j < k → l[j]? = some r → goodR n r = true) (hr : l[k]? = some r) : scanR n 0 l = if rectOk r.rect then (if rightsIn r.rights n then scanR n (k + 1) (l.drop (k + 1)) else ((k : Int), 2)) else ((k : Int), 3) := by
  have hk : k < l.length := (List.getElem?_eq_some_iff.1 hr).1
  have e : l.drop k = r :: l.drop (k + 1) := by
    rw [List.drop_eq_getElem_cons hk]
    have := (List.getElem?_eq_some_iff.1 hr).2
    rw [this]
  rw [scan_drop n l k 0 h, e, scanR, Nat.zero_add]
theorem good_step {n : Int} {l : List Rule} {k : Nat} {r : Rule} (h : ∀ j r, j < k → l[j]? = some r → goodR n r = true) (hr : l[k]? = some r) (hg : goodR n r = true) : ∀ j r, j < k + 1 → l[j]? = some r → goodR n r = true := by
  intro j x hj hx
  by_cases e : j = k
  · subst e
    rw [hr] at hx
    injection hx with hx
    subst hx
    exact hg
  · exact h j x (by omega) hx
theorem pair_ret {k : IntKind} {a b c d : Int} {p : Int × Int} (h : p = (c, d)) (h1 : a = c) (h2 : b = d) : Ending.returned (.tuple #[.int .i64 a, .int k b]) = .returned (.tuple #[.int .i64 p.1, .int k p.2]) := by rw [h, h1, h2]

theorem head_rect {l : List Rule} {r : Rule} (h : l[0]? = some r) : (l.map Rule.rect).head? = some r.rect := by
  cases l with
  | nil => simp at h
  | cons a l => simp at h; simp [h]

set_option maxHeartbeats 400000 in
theorem refCheck_any (n : Int) (A : Option Addr) (cap : Nat) (l : List Rule) (hl : l.length ≤ 1000000000000000) (hok : ∀ r ∈ l, r.ok) (w : World) (hs : SlAt Rule.vals 7 w A l) :
    Calls Try.prog 10 #[.int .i64 n, .slice A l.length cap] w (Gives w (.tuple #[.int .i64 (checkS n l).1, .int .i64 (checkS n l).2])) := by
  by_cases hu : users1 n = true
  · have hu' : 1 ≤ n ∧ n ≤ 64 := by simpa [users1] using hu
    obtain ⟨u1, u2⟩ := hu'
    by_cases h0 : l.length = 0
    · have E : Hid (checkS n l = (0, 2)) := by
        have : l = [] := List.eq_nil_of_length_eq_zero h0
        subst this
        simp [Hid, checkS]
      clear hu
      have h0' : ((l.length : Int) == 0) = true := by simp [h0]
      clear h0
      go_enter Try.func10, Try.ntmps10
      go_wp2_with fail
      all_goals
        go_ret2
        exact ⟨pair_ret E.out rfl rfl, (by (repeat' first | assumption | exact Kp.refl _ | apply Kp.alloc | apply Kp.drew | apply Kp.drewN | (refine Kp.setCell (by first | (simp; done) | (simp; omega) | omega) ?_) | (refine Kp.next ?_ (by assumption))))⟩
    · obtain ⟨r0, hr0⟩ : ∃ r, l[0]? = some r := ⟨l[0], by simp [show 0 < l.length by omega]⟩
      have E0 : checkS n l = if l.length ≤ 64 then (if r0.rect = sheetR then scanR n 0 l else (0, 2)) else (64, 5) := by
        have hne : l.isEmpty = false := by cases l with | nil => simp at h0 | cons a l => rfl
        simp [checkS, hu, hne, head_rect hr0]
      have E : Hid (checkS n l = if l.length ≤ 64 then (if r0.rect = sheetR then scanR n 0 l else (0, 2)) else (64, 5)) := E0
      clear E0
      obtain ⟨b, o, rfl, hb, c0, c1, c2, c3, -, -, -⟩ := hs.rule hr0
      rw [Nat.zero_mul, Nat.add_zero] at c0 c1 c2 c3
      have HS : Hid (SlAt Rule.vals 7 w (some ⟨b, o, none⟩) l) := hs
      clear hs hu
      generalize hm : l.length = m at *
      have HM : Hid (l.length = m) := hm
      clear hm
      have hp : 0 < m := by omega
      have h0' : ((m : Int) == 0) = false := by rw [beq_eq_false_iff_ne]; omega
      clear h0
      have q := neq_rect r0.rect sheetR
      go_enter Try.func10, Try.ntmps10
      go_wp2_with fail
      all_goals first | (exfalso; omega) | skip
      · go_ret2
        have hlong : 64 < (m : Int) := by assumption
        exact ⟨pair_ret (E.out.trans (if_neg (by omega))) rfl rfl, (by (repeat' first | assumption | exact Kp.refl _ | apply Kp.alloc | apply Kp.drew | apply Kp.drewN | (refine Kp.setCell (by first | (simp; done) | (simp; omega) | omega) ?_) | (refine Kp.next ?_ (by assumption))))⟩
      have hle : (m : Int) ≤ 64 := by assumption
      go_region_held3 (fun w' => (∀ b o, b < w.heap.size → w'.cell? ⟨b, o, none⟩ = w.cell? ⟨b, o, none⟩) ∧ Kp w w') (first | exact held_refl _ | exact held_next (by assumption) (by assumption) | exact held_alloc (by assumption)) (first | (go_at_call 24; refine (refSheet_any _).mono ?_; rintro e w1 ⟨rfl, hb1⟩))
      rename_i hH
      replace hH := hH.2
      clear q
      have HSH : Hid (decide (r0.rect = sheetR) = true ↔ r0.rect = sheetR) := decide_eq_true_iff
      generalize decide (r0.rect = sheetR) = d at *
      cases d
      · go_wp2_with fail
        go_ret2
        exact ⟨pair_ret ((E.out.trans (if_pos (by omega))).trans (if_neg (by rw [← HSH.out]; simp))) rfl rfl, (by (repeat' first | assumption | exact Kp.refl _ | apply Kp.alloc | apply Kp.drew | apply Kp.drewN | (refine Kp.setCell (by first | (simp; done) | (simp; omega) | omega) ?_) | (refine Kp.next ?_ (by assumption))))⟩
      · have E2 : Hid (checkS n l = scanR n 0 l) := (E.out.trans (if_pos (by omega))).trans (if_pos (HSH.out.1 rfl))
        clear E HSH c0 c1 c2 c3 hr0 hp h0'
        simp only [Bool.not_true]
        go_wp2_with fail
        go_loopw [6, 7] (fun v x wr => ∃ k : Nat, k ≤ m ∧ v = .int .i64 k ∧ (∀ j r, j < k → l[j]? = some r → goodR n r = true) ∧ Kp w wr) (fun v _ _ => m - (intOf v).toNat)
        case atStart => exact ⟨0, Nat.zero_le _, rfl, fun j r h => absurd h (by omega), hH⟩
        case round =>
          obtain ⟨k, hk, rfl, hg, hkp⟩ := hrel
          have HG : Hid (∀ j r, j < k → l[j]? = some r → goodR n r = true) := hg
          clear hg
          by_cases hlt : k < m
          · obtain ⟨r, hr⟩ : ∃ r, l[k]? = some r := ⟨l[k]'(by have := HM.out; omega), by simp⟩
            obtain ⟨b', o', hbo, -, c0, c1, c2, c3, c4, c5, c6⟩ := (HS.out.keep hkp).rule hr
            injection hbo with hbo
            injection hbo with hb1 hb2
            subst hb1 hb2
            have hsz := hkp.le
            have hb' : b < wr.heap.size := by omega
            have hro := (hok r (List.mem_of_getElem? hr)).rights
            have r1 := hro.read
            have r2 := hro.write
            have r3 := hro.own
            have HIT : Hid (scanR n 0 l = if rectOk r.rect then (if rightsIn r.rights n then scanR n (k + 1) (l.drop (k + 1)) else ((k : Int), 2)) else ((k : Int), 3)) := scan_hit HG.out hr
            have HR : Hid (l[k]? = some r) := hr
            clear hr hro
            go_wp2_with fail
            refine (range_any r.rect _).mono ?_
            rintro e w2 ⟨rfl, hk2⟩
            have hq2 := hk2.rule
            by_cases hrg : rectOk r.rect = true
            · go_wp2_with (go_at_call 26; refine (within_any _ (by assumption) n (by omega) u2 _).mono ?_; rintro e w' ⟨rfl, rfl⟩)
              all_goals
                first
                  | (go_ret2
                     exact ⟨pair_ret (((E2.out.trans HIT.out).trans (if_pos hrg)).trans (if_neg (by rw [rightsIn]; simp_all))) rfl rfl, (by (repeat' first | assumption | exact Kp.refl _ | apply Kp.alloc | apply Kp.drew | apply Kp.drewN | (refine Kp.setCell (by first | (simp; done) | (simp; omega) | omega) ?_) | (refine Kp.next ?_ (by assumption))))⟩)
                  | (go_roundw
                     case rel =>
                       refine ⟨k + 1, by omega, by go_num, good_step HG.out HR.out ?_, (by (repeat' first | assumption | exact Kp.refl _ | apply Kp.alloc | apply Kp.drew | apply Kp.drewN | (refine Kp.setCell (by first | (simp; done) | (simp; omega) | omega) ?_) | (refine Kp.next ?_ (by assumption))))⟩
                       have h3 : (!withinB r.rights.own n) = false := by assumption
                       simp only [goodR, rightsIn, Bool.and_eq_true]
                       exact ⟨hrg, by assumption, by assumption, by simpa using h3⟩
                     case measure => simp [intOf]; omega)
            · go_wp2_with fail
              go_ret2
              exact ⟨pair_ret ((E2.out.trans HIT.out).trans (if_neg hrg)) rfl rfl, (by (repeat' first | assumption | exact Kp.refl _ | apply Kp.alloc | apply Kp.drew | apply Kp.drewN | (refine Kp.setCell (by first | (simp; done) | (simp; omega) | omega) ?_) | (refine Kp.next ?_ (by assumption))))⟩
          · go_wp2_with fail
            go_ret2
            have hkm : k = m := by omega
            subst hkm
            have e3 : scanR n 0 l = (0, 0) := scan_end n l (by rw [HM.out]; exact HG.out)
            exact ⟨pair_ret (E2.out.trans e3) rfl rfl, (by (repeat' first | assumption | exact Kp.refl _ | apply Kp.alloc | apply Kp.drew | apply Kp.drewN | (refine Kp.setCell (by first | (simp; done) | (simp; omega) | omega) ?_) | (refine Kp.next ?_ (by assumption))))⟩
  · have E : Hid (checkS n l = (0, 2)) := by simp [Hid, checkS, hu]
    have hu' : n < 1 ∨ 64 < n := by simp [users1] at hu; omega
    clear hu
    go_enter Try.func10, Try.ntmps10
    go_wp2_with fail
    all_goals
      go_ret2
      exact ⟨pair_ret E.out rfl rfl, (by (repeat' first | assumption | exact Kp.refl _ | apply Kp.alloc | apply Kp.drew | apply Kp.drewN | (refine Kp.setCell (by first | (simp; done) | (simp; omega) | omega) ?_) | (refine Kp.next ?_ (by assumption))))⟩

end Go.Proofs.Ytonangdimkgdpaa
