/- The walks of Which and At, the program's and the reference's. -/
import Derived.Test.YtonangdimkgdpaaChk2
import Derived.Test.YtonangdimkgdpaaLast
namespace Go.Proofs.Ytonangdimkgdpaa
open Go.RowKit

def chkE (l : List Rule) : Int := (checkS 64 l).2
def whichS (x : Ref) (l : List Rule) : Int × Int := if refOk x then (if chkE l = 0 then (lastN x l l.length, 0) else (0, chkE l)) else (0, 3)
def noRights : Rights := ⟨0, 0, 0⟩
def atS (x : Ref) (l : List Rule) : Rights × Int := if (whichS x l).2 = 0 then (((l[lastN x l l.length]?).map Rule.rights).getD noRights, 0) else (noRights, (whichS x l).2)
theorem check_nil (n : Int) : checkS n [] = (0, 2) := by simp [checkS]
theorem chkE_ne {l : List Rule} (h : chkE l = 0) : l ≠ [] := by
  rintro rfl
  rw [chkE, check_nil] at h
  omega
theorem lastN_lt {x : Ref} {l : List Rule} : ∀ {k : Nat}, 0 < k → lastN x l k < k := by
  intro k
  induction k with
  | zero => intro h; omega
  | succ k ih =>
    intro _
    rw [lastN]
    split
    · split
      · omega
      · rcases Nat.eq_zero_or_pos k with h | h
        · subst h; simp [lastN]
        · have := ih h; omega
    · rcases Nat.eq_zero_or_pos k with h | h
      · subst h; simp [lastN]
      · have := ih h; omega
theorem which_cases (x : Ref) (l : List Rule) : (refOk x = true ∧ chkE l = 0 ∧ whichS x l = ((lastN x l l.length : Int), 0)) ∨ ((whichS x l).2 ≠ 0 ∧ (whichS x l).1 = 0) := by
  by_cases h1 : refOk x = true
  · by_cases h2 : chkE l = 0
    · exact .inl ⟨h1, h2, by simp [whichS, h1, h2]⟩
    · exact .inr (by simp [whichS, h1, h2])
  · exact .inr (by simp [whichS, h1])

theorem refCheck_yes (A : Option Addr) (cap : Nat) (l : List Rule) (hl : l.length ≤ 1000000000000000) (hok : ∀ r ∈ l, r.ok) (w : World) (hs : SlAt Rule.vals 7 w A l) (h : chkE l = 0) :
    Calls Try.prog 10 #[.int .i64 64, .slice A l.length cap] w (Gives w (.tuple #[.int .i64 (checkS 64 l).1, .int .i64 0])) := by
  have := refCheck_any 64 A cap l hl hok w hs
  rw [show (checkS 64 l).2 = 0 from h] at this
  exact this
theorem refCheck_no (A : Option Addr) (cap : Nat) (l : List Rule) (hl : l.length ≤ 1000000000000000) (hok : ∀ r ∈ l, r.ok) (w : World) (hs : SlAt Rule.vals 7 w A l) :
    Calls Try.prog 10 #[.int .i64 64, .slice A l.length cap] w (Gives w (.tuple #[.int .i64 (checkS 64 l).1, .int .i64 (chkE l)])) := refCheck_any 64 A cap l hl hok w hs

set_option maxHeartbeats 400000 in
theorem refWhich_any (x : Ref) (A : Option Addr) (cap : Nat) (l : List Rule) (hl : l.length ≤ 1000000000000000) (hok : ∀ r ∈ l, r.ok) (w : World) (hs : SlAt Rule.vals 7 w A l) :
    Calls Try.prog 17 #[.agg #[.int .i64 x.col, .int .i64 x.row], .slice A l.length cap] w (Gives w (.tuple #[.int .i64 (whichS x l).1, .int .i64 (whichS x l).2])) := by
  by_cases h1 : refOk x = true
  · by_cases h2 : chkE l = 0
    · have E : Hid (whichS x l = ((lastN x l l.length : Int), 0)) := by simp [Hid, whichS, h1, h2]
      have H2 : Hid (chkE l = 0) := h2
      clear h2
      go_enter Try.func17, Try.ntmps17
      go_wp2_with fail
      refine (address_any x _).mono ?_; rintro e w1 ⟨rfl, hk1⟩; have hq1 := hk1.rule
      have z1 : w.heap.size < w1.heap.size := by have := hk1.le; simp at this; omega
      have hkk1 : Kp w w1 := by (repeat' first | assumption | exact Kp.refl _ | apply Kp.alloc | apply Kp.drew | apply Kp.drewN | (refine Kp.setCell (by first | (simp; done) | (simp; omega) | omega) ?_) | (refine Kp.next ?_ (by assumption)))
      go_wp2_with fail
      refine (refCheck_yes A cap l hl hok _ (hs.keep hkk1) H2.out).mono ?_; rintro e w2 ⟨rfl, hk2⟩; have hq2 := hk2.rule
      have hkk2 : Kp w w2 := hkk1.next hk2
      go_wp2_with fail
      refine (refLast_any x A cap l hl _ (hs.keep hkk2)).mono ?_; rintro e w3 ⟨rfl, hk3⟩
      go_wp2_with fail
      go_ret2
      exact ⟨pair_ret E.out rfl rfl, by (repeat' first | assumption | exact Kp.refl _ | apply Kp.alloc | apply Kp.drew | apply Kp.drewN | (refine Kp.setCell (by first | (simp; done) | (simp; omega) | omega) ?_) | (refine Kp.next ?_ (by assumption)))⟩
    · have E : Hid (whichS x l = (0, chkE l)) := by simp [Hid, whichS, h1, h2]
      have hne : (chkE l != 0) = true := by rw [bne_iff_ne]; exact h2
      clear h2
      go_enter Try.func17, Try.ntmps17
      go_wp2_with fail
      refine (address_any x _).mono ?_; rintro e w1 ⟨rfl, hk1⟩; have hq1 := hk1.rule
      have hkk1 : Kp w w1 := by (repeat' first | assumption | exact Kp.refl _ | apply Kp.alloc | apply Kp.drew | apply Kp.drewN | (refine Kp.setCell (by first | (simp; done) | (simp; omega) | omega) ?_) | (refine Kp.next ?_ (by assumption)))
      go_wp2_with fail
      refine (refCheck_no A cap l hl hok _ (hs.keep hkk1)).mono ?_; rintro e w2 ⟨rfl, hk2⟩; have hq2 := hk2.rule
      go_wp2_with fail
      go_ret2
      exact ⟨pair_ret E.out rfl rfl, by (repeat' first | assumption | exact Kp.refl _ | apply Kp.alloc | apply Kp.drew | apply Kp.drewN | (refine Kp.setCell (by first | (simp; done) | (simp; omega) | omega) ?_) | (refine Kp.next ?_ (by assumption)))⟩
  · have E : Hid (whichS x l = (0, 3)) := by simp [Hid, whichS, h1]
    go_enter Try.func17, Try.ntmps17
    go_wp2_with fail
    refine (address_any x _).mono ?_; rintro e w1 ⟨rfl, hk1⟩
    go_wp2_with fail
    go_ret2
    exact ⟨pair_ret E.out rfl rfl, by (repeat' first | assumption | exact Kp.refl _ | apply Kp.alloc | apply Kp.drew | apply Kp.drewN | (refine Kp.setCell (by first | (simp; done) | (simp; omega) | omega) ?_) | (refine Kp.next ?_ (by assumption)))⟩

theorem refWhich_yes (x : Ref) (A : Option Addr) (cap : Nat) (l : List Rule) (hl : l.length ≤ 1000000000000000) (hok : ∀ r ∈ l, r.ok) (w : World) (hs : SlAt Rule.vals 7 w A l) (h : whichS x l = ((lastN x l l.length : Int), 0)) :
    Calls Try.prog 17 #[.agg #[.int .i64 x.col, .int .i64 x.row], .slice A l.length cap] w (Gives w (.tuple #[.int .i64 (lastN x l l.length : Int), .int .i64 0])) := by
  have := refWhich_any x A cap l hl hok w hs
  rw [h] at this
  exact this

set_option maxHeartbeats 400000 in
theorem refAt_any (x : Ref) (A : Option Addr) (cap : Nat) (l : List Rule) (hl : l.length ≤ 1000000000000000) (hok : ∀ r ∈ l, r.ok) (w : World) (hs : SlAt Rule.vals 7 w A l) :
    Calls Try.prog 19 #[.agg #[.int .i64 x.col, .int .i64 x.row], .slice A l.length cap] w (Gives w (.tuple #[.agg #[.int .u64 (atS x l).1.read, .int .u64 (atS x l).1.write, .int .u64 (atS x l).1.own], .int .i64 (atS x l).2])) := by
  rcases which_cases x l with ⟨_, h2, h⟩ | ⟨h, _⟩
  · have hpos : 0 < l.length := List.length_pos_iff.2 (chkE_ne h2)
    have hlt : lastN x l l.length < l.length := lastN_lt hpos
    obtain ⟨r, hr⟩ : ∃ r, l[lastN x l l.length]? = some r := ⟨l[lastN x l l.length], by simp [hlt]⟩
    have E : Hid (atS x l = (r.rights, 0)) := by simp [Hid, atS, h, hr]
    have H : Hid (whichS x l = ((lastN x l l.length : Int), 0)) := h
    have HR : Hid (l[lastN x l l.length]? = some r) := hr
    clear h h2 hr hpos
    go_enter Try.func19, Try.ntmps19
    go_wp2_with fail
    refine (refWhich_yes x A cap l hl hok _ (hs.keep (by (repeat' first | assumption | exact Kp.refl _ | apply Kp.alloc | apply Kp.drew | apply Kp.drewN | (refine Kp.setCell (by first | (simp; done) | (simp; omega) | omega) ?_) | (refine Kp.next ?_ (by assumption))))) H.out).mono ?_; rintro e w1 ⟨rfl, hk1⟩; have hq1 := hk1.rule; have hf1 := hk1.frule
    have hkk1 : Kp w w1 := by (repeat' first | assumption | exact Kp.refl _ | apply Kp.alloc | apply Kp.drew | apply Kp.drewN | (refine Kp.setCell (by first | (simp; done) | (simp; omega) | omega) ?_) | (refine Kp.next ?_ (by assumption)))
    have z1 : w.heap.size < w1.heap.size ∧ w.heap.size + 1 < w1.heap.size := by have := hk1.le; simp at this; omega
    obtain ⟨z1, z2⟩ := z1
    obtain ⟨b, o, rfl, hb, -, -, -, -, c4, c5, c6⟩ := (hs.keep hkk1).rule HR.out
    clear hs
    generalize lastN x l l.length = k at *
    generalize l.length = m at *
    go_wp2_with fail
    refine bodyPost_ret (v := .tuple #[.agg #[.int .u64 r.rights.read, .int .u64 r.rights.write, .int .u64 r.rights.own], .int .i64 0]) (by simp [results, Try.results19, go_sem, hq1]) rfl ⟨by rw [E.out], by (repeat' first | assumption | exact Kp.refl _ | apply Kp.alloc | apply Kp.drew | apply Kp.drewN | (refine Kp.setCell (by first | (simp; done) | (simp; omega) | omega) ?_) | (refine Kp.next ?_ (by assumption)))⟩
  · have E : Hid (atS x l = (noRights, (whichS x l).2)) := by simp [Hid, atS, h]
    have hne : ((whichS x l).2 != 0) = true := by rw [bne_iff_ne]; exact h
    clear h
    go_enter Try.func19, Try.ntmps19
    go_wp2_with fail
    refine (refWhich_any x A cap l hl hok _ (hs.keep (by (repeat' first | assumption | exact Kp.refl _ | apply Kp.alloc | apply Kp.drew | apply Kp.drewN | (refine Kp.setCell (by first | (simp; done) | (simp; omega) | omega) ?_) | (refine Kp.next ?_ (by assumption)))))).mono ?_; rintro e w1 ⟨rfl, hk1⟩; have hq1 := hk1.rule; have hf1 := hk1.frule
    have z1 : w.heap.size < w1.heap.size ∧ w.heap.size + 1 < w1.heap.size := by have := hk1.le; simp at this; omega
    obtain ⟨z1, z2⟩ := z1
    go_wp2_with fail
    refine bodyPost_ret (v := .tuple #[.agg #[.int .u64 noRights.read, .int .u64 noRights.write, .int .u64 noRights.own], .int .i64 (whichS x l).2]) (by simp [results, Try.results19, go_sem, hq1, noRights]) rfl ⟨by rw [E.out], by (repeat' first | assumption | exact Kp.refl _ | apply Kp.alloc | apply Kp.drew | apply Kp.drewN | (refine Kp.setCell (by first | (simp; done) | (simp; omega) | omega) ?_) | (refine Kp.next ?_ (by assumption)))⟩

theorem aclCheck_yes (A : Option Addr) (cap : Nat) (l : List Rule) (hl : l.length ≤ 1000000000000000) (hok : ∀ r ∈ l, r.ok) (w : World) (hs : SlAt Rule.vals 7 w A l) (h : chkE l = 0) :
    Calls Try.prog 16 #[.int .i64 64, .slice A l.length cap] w (Gives w (.tuple #[.int .i64 (checkS 64 l).1, .int .i64 0])) := by
  have := aclCheck_any 64 A cap l hl hok w hs
  rw [show (checkS 64 l).2 = 0 from h] at this
  exact this
theorem aclCheck_no (A : Option Addr) (cap : Nat) (l : List Rule) (hl : l.length ≤ 1000000000000000) (hok : ∀ r ∈ l, r.ok) (w : World) (hs : SlAt Rule.vals 7 w A l) :
    Calls Try.prog 16 #[.int .i64 64, .slice A l.length cap] w (Gives w (.tuple #[.int .i64 (checkS 64 l).1, .int .i64 (chkE l)])) := aclCheck_any 64 A cap l hl hok w hs

set_option maxHeartbeats 400000 in
theorem aclWhich_any (x : Ref) (A : Option Addr) (cap : Nat) (l : List Rule) (hl : l.length ≤ 1000000000000000) (hok : ∀ r ∈ l, r.ok) (w : World) (hs : SlAt Rule.vals 7 w A l) :
    Calls Try.prog 12 #[.agg #[.int .i64 x.col, .int .i64 x.row], .slice A l.length cap] w (Gives w (.tuple #[.int .i64 (whichS x l).1, .int .i64 (whichS x l).2])) := by
  by_cases h1 : refOk x = true
  · by_cases h2 : chkE l = 0
    · have E : Hid (whichS x l = ((lastN x l l.length : Int), 0)) := by simp [Hid, whichS, h1, h2]
      have H2 : Hid (chkE l = 0) := h2
      clear h2
      go_enter Try.func12, Try.ntmps12
      go_wp2_with fail
      refine (valid_any x _).mono ?_; rintro e w1 ⟨rfl, hk1⟩; have hq1 := hk1.rule
      have z1 : w.heap.size < w1.heap.size := by have := hk1.le; simp at this; omega
      have hkk1 : Kp w w1 := by (repeat' first | assumption | exact Kp.refl _ | apply Kp.alloc | apply Kp.drew | apply Kp.drewN | (refine Kp.setCell (by first | (simp; done) | (simp; omega) | omega) ?_) | (refine Kp.next ?_ (by assumption)))
      go_wp2_with fail
      refine (aclCheck_yes A cap l hl hok _ (hs.keep hkk1) H2.out).mono ?_; rintro e w2 ⟨rfl, hk2⟩; have hq2 := hk2.rule
      have hkk2 : Kp w w2 := hkk1.next hk2
      go_wp2_with fail
      refine (aclLast_any x A cap l hl (chkE_ne H2.out) _ (hs.keep hkk2)).mono ?_; rintro e w3 ⟨rfl, hk3⟩
      go_wp2_with fail
      go_ret2
      exact ⟨pair_ret E.out rfl rfl, by (repeat' first | assumption | exact Kp.refl _ | apply Kp.alloc | apply Kp.drew | apply Kp.drewN | (refine Kp.setCell (by first | (simp; done) | (simp; omega) | omega) ?_) | (refine Kp.next ?_ (by assumption)))⟩
    · have E : Hid (whichS x l = (0, chkE l)) := by simp [Hid, whichS, h1, h2]
      have hne : (chkE l != 0) = true := by rw [bne_iff_ne]; exact h2
      clear h2
      go_enter Try.func12, Try.ntmps12
      go_wp2_with fail
      refine (valid_any x _).mono ?_; rintro e w1 ⟨rfl, hk1⟩; have hq1 := hk1.rule
      have hkk1 : Kp w w1 := by (repeat' first | assumption | exact Kp.refl _ | apply Kp.alloc | apply Kp.drew | apply Kp.drewN | (refine Kp.setCell (by first | (simp; done) | (simp; omega) | omega) ?_) | (refine Kp.next ?_ (by assumption)))
      go_wp2_with fail
      refine (aclCheck_no A cap l hl hok _ (hs.keep hkk1)).mono ?_; rintro e w2 ⟨rfl, hk2⟩; have hq2 := hk2.rule
      go_wp2_with fail
      go_ret2
      exact ⟨pair_ret E.out rfl rfl, by (repeat' first | assumption | exact Kp.refl _ | apply Kp.alloc | apply Kp.drew | apply Kp.drewN | (refine Kp.setCell (by first | (simp; done) | (simp; omega) | omega) ?_) | (refine Kp.next ?_ (by assumption)))⟩
  · have E : Hid (whichS x l = (0, 3)) := by simp [Hid, whichS, h1]
    go_enter Try.func12, Try.ntmps12
    go_wp2_with fail
    refine (valid_any x _).mono ?_; rintro e w1 ⟨rfl, hk1⟩
    go_wp2_with fail
    go_ret2
    exact ⟨pair_ret E.out rfl rfl, by (repeat' first | assumption | exact Kp.refl _ | apply Kp.alloc | apply Kp.drew | apply Kp.drewN | (refine Kp.setCell (by first | (simp; done) | (simp; omega) | omega) ?_) | (refine Kp.next ?_ (by assumption)))⟩

theorem aclWhich_yes (x : Ref) (A : Option Addr) (cap : Nat) (l : List Rule) (hl : l.length ≤ 1000000000000000) (hok : ∀ r ∈ l, r.ok) (w : World) (hs : SlAt Rule.vals 7 w A l) (h : whichS x l = ((lastN x l l.length : Int), 0)) :
    Calls Try.prog 12 #[.agg #[.int .i64 x.col, .int .i64 x.row], .slice A l.length cap] w (Gives w (.tuple #[.int .i64 (lastN x l l.length : Int), .int .i64 0])) := by
  have := aclWhich_any x A cap l hl hok w hs
  rw [h] at this
  exact this

set_option maxHeartbeats 400000 in
theorem aclAt_any (x : Ref) (A : Option Addr) (cap : Nat) (l : List Rule) (hl : l.length ≤ 1000000000000000) (hok : ∀ r ∈ l, r.ok) (w : World) (hs : SlAt Rule.vals 7 w A l) :
    Calls Try.prog 18 #[.agg #[.int .i64 x.col, .int .i64 x.row], .slice A l.length cap] w (Gives w (.tuple #[.agg #[.int .u64 (atS x l).1.read, .int .u64 (atS x l).1.write, .int .u64 (atS x l).1.own], .int .i64 (atS x l).2])) := by
  rcases which_cases x l with ⟨_, h2, h⟩ | ⟨h, _⟩
  · have hpos : 0 < l.length := List.length_pos_iff.2 (chkE_ne h2)
    have hlt : lastN x l l.length < l.length := lastN_lt hpos
    obtain ⟨r, hr⟩ : ∃ r, l[lastN x l l.length]? = some r := ⟨l[lastN x l l.length], by simp [hlt]⟩
    have E : Hid (atS x l = (r.rights, 0)) := by simp [Hid, atS, h, hr]
    have H : Hid (whichS x l = ((lastN x l l.length : Int), 0)) := h
    have HR : Hid (l[lastN x l l.length]? = some r) := hr
    clear h h2 hr hpos
    go_enter Try.func18, Try.ntmps18
    go_wp2_with fail
    refine (aclWhich_yes x A cap l hl hok _ (hs.keep (by (repeat' first | assumption | exact Kp.refl _ | apply Kp.alloc | apply Kp.drew | apply Kp.drewN | (refine Kp.setCell (by first | (simp; done) | (simp; omega) | omega) ?_) | (refine Kp.next ?_ (by assumption))))) H.out).mono ?_; rintro e w1 ⟨rfl, hk1⟩; have hq1 := hk1.rule; have hf1 := hk1.frule
    have hkk1 : Kp w w1 := by (repeat' first | assumption | exact Kp.refl _ | apply Kp.alloc | apply Kp.drew | apply Kp.drewN | (refine Kp.setCell (by first | (simp; done) | (simp; omega) | omega) ?_) | (refine Kp.next ?_ (by assumption)))
    have z1 : w.heap.size < w1.heap.size ∧ w.heap.size + 1 < w1.heap.size := by have := hk1.le; simp at this; omega
    obtain ⟨z1, z2⟩ := z1
    obtain ⟨b, o, rfl, hb, -, -, -, -, c4, c5, c6⟩ := (hs.keep hkk1).rule HR.out
    clear hs
    generalize lastN x l l.length = k at *
    generalize l.length = m at *
    go_wp2_with fail
    refine bodyPost_ret (v := .tuple #[.agg #[.int .u64 r.rights.read, .int .u64 r.rights.write, .int .u64 r.rights.own], .int .i64 0]) (by simp [results, Try.results18, go_sem, hq1]) rfl ⟨by rw [E.out], by (repeat' first | assumption | exact Kp.refl _ | apply Kp.alloc | apply Kp.drew | apply Kp.drewN | (refine Kp.setCell (by first | (simp; done) | (simp; omega) | omega) ?_) | (refine Kp.next ?_ (by assumption)))⟩
  · have E : Hid (atS x l = (noRights, (whichS x l).2)) := by simp [Hid, atS, h]
    have hne : ((whichS x l).2 != 0) = true := by rw [bne_iff_ne]; exact h
    clear h
    go_enter Try.func18, Try.ntmps18
    go_wp2_with fail
    refine (aclWhich_any x A cap l hl hok _ (hs.keep (by (repeat' first | assumption | exact Kp.refl _ | apply Kp.alloc | apply Kp.drew | apply Kp.drewN | (refine Kp.setCell (by first | (simp; done) | (simp; omega) | omega) ?_) | (refine Kp.next ?_ (by assumption)))))).mono ?_; rintro e w1 ⟨rfl, hk1⟩; have hq1 := hk1.rule; have hf1 := hk1.frule
    have z1 : w.heap.size < w1.heap.size ∧ w.heap.size + 1 < w1.heap.size := by have := hk1.le; simp at this; omega
    obtain ⟨z1, z2⟩ := z1
    go_wp2_with fail
    refine bodyPost_ret (v := .tuple #[.agg #[.int .u64 noRights.read, .int .u64 noRights.write, .int .u64 noRights.own], .int .i64 (whichS x l).2]) (by simp [results, Try.results18, go_sem, hq1, noRights]) rfl ⟨by rw [E.out], by (repeat' first | assumption | exact Kp.refl _ | apply Kp.alloc | apply Kp.drew | apply Kp.drewN | (refine Kp.setCell (by first | (simp; done) | (simp; omega) | omega) ?_) | (refine Kp.next ?_ (by assumption)))⟩

end Go.Proofs.Ytonangdimkgdpaa
