/- The walk of the law AclLast: it returns true. -/
import Derived.Test.YtonangdimkgdpaaWhichLaw
import Derived.Deep.DeepCutAuto
namespace Go.Proofs.Ytonangdimkgdpaa
open Go.RowKit

theorem scan_zero {n : Int} : ∀ {l : List Rule} {i : Nat}, (scanR n i l).2 = 0 → ∀ r ∈ l, goodR n r = true := by
  intro l
  induction l with
  | nil => intro i _ r hr; simp at hr
  | cons x l ih =>
    intro i h r hr
    rw [scanR] at h
    split at h
    · rename_i h1
      split at h
      · rename_i h2
        rcases List.mem_cons.1 hr with rfl | hr
        · simp [goodR, h1, h2]
        · exact ih h r hr
      · simp at h
    · simp at h
theorem scan_good {n : Int} : ∀ {l : List Rule} {i : Nat}, (∀ r ∈ l, goodR n r = true) → scanR n i l = (0, 0) := by
  intro l
  induction l with
  | nil => intro i _; rfl
  | cons x l ih =>
    intro i h
    have h0 := h x (by simp)
    simp only [goodR, Bool.and_eq_true] at h0
    rw [scanR, if_pos h0.1, if_pos h0.2, ih (fun r hr => h r (by simp [hr]))]
theorem chkE_iff (l : List Rule) : chkE l = 0 ↔ (∃ r0, l[0]? = some r0 ∧ r0.rect = sheetR) ∧ l.length ≤ 64 ∧ ∀ r ∈ l, goodR 64 r = true := by
  unfold chkE checkS
  cases l with
  | nil => simp
  | cons x l =>
    simp only [List.isEmpty_cons, Bool.not_false, Bool.and_true, show users1 64 = true by decide, if_true]
    by_cases hl : (x :: l).length ≤ 64
    · rw [if_pos hl]
      simp only [List.map_cons, List.head?_cons, Option.some.injEq]
      by_cases hx : x.rect = sheetR
      · rw [if_pos hx]
        constructor
        · intro h; exact ⟨⟨x, rfl, hx⟩, hl, scan_zero h⟩
        · rintro ⟨_, _, h⟩; rw [scan_good h]
      · rw [if_neg hx]
        constructor
        · intro h; simp at h
        · rintro ⟨⟨r0, h0, h1⟩, _⟩
          simp at h0
          exact absurd (h0 ▸ h1) hx
    · rw [if_neg hl]
      constructor
      · intro h; simp at h
      · rintro ⟨_, h, _⟩; exact absurd h hl
theorem chkE_prefix {a b : List Rule} (ha : a ≠ []) (h : chkE (a ++ b) = 0) : chkE a = 0 := by
  rw [chkE_iff] at *
  obtain ⟨⟨r0, h0, h1⟩, h2, h3⟩ := h
  refine ⟨⟨r0, ?_, h1⟩, ?_, fun r hr => h3 r (by simp [hr])⟩
  · rwa [List.getElem?_append_left (List.length_pos_iff.2 ha)] at h0
  · rw [List.length_append] at h2; omega
theorem lastN_append {x : Ref} {a b : List Rule} : ∀ {n : Nat}, n ≤ a.length → lastN x (a ++ b) n = lastN x a n := by
  intro n
  induction n with
  | zero => intro _; rfl
  | succ n ih =>
    intro h
    rw [lastN, lastN, List.getElem?_append_left (by omega), ih (by omega)]
theorem at_append {x : Ref} {a : List Rule} {r : Rule} (hx : refOk x = true) (ha : a ≠ []) (h : chkE (a ++ [r]) = 0) : atS x (a ++ [r]) = (if hasB r.rect x then r.rights else (atS x a).1, 0) ∧ (atS x a).2 = 0 := by
  have h0 := chkE_prefix ha h
  have w1 : whichS x (a ++ [r]) = ((lastN x (a ++ [r]) (a ++ [r]).length : Int), 0) := by simp [whichS, hx, h]
  have w2 : whichS x a = ((lastN x a a.length : Int), 0) := by simp [whichS, hx, h0]
  have hl : (a ++ [r]).length = a.length + 1 := by simp
  have hr : (a ++ [r])[a.length]? = some r := by simp
  refine ⟨?_, by simp [atS, w2]⟩
  rw [atS, w1, if_pos rfl, hl]
  by_cases hh : hasB r.rect x = true
  · rw [lastN_yes hr hh, hr]; simp [hh]
  · simp only [Bool.not_eq_true] at hh
    rw [lastN_no hr hh, lastN_append (Nat.le_refl _), List.getElem?_append_left (lastN_lt (List.length_pos_iff.2 ha))]
    simp [hh, atS, w2]

set_option maxHeartbeats 8000000 in
theorem lawLast_any (f : Rights) (hf : f.ok) (A : Option Addr) (cap : Nat) (l : List Rule) (hl : l.length * 56 ≤ 140737488351232) (hok : ∀ r ∈ l, r.ok) (r : Rule) (hr : r.ok) (x : Ref) (_ : x.ok) (w : World) (hs : SlAt Rule.vals 7 w A l) :
    Calls Try.prog 5 #[.agg #[.int .u64 f.read, .int .u64 f.write, .int .u64 f.own], .slice A l.length cap, .agg #[.int .i64 r.rect.c1, .int .i64 r.rect.r1, .int .i64 r.rect.c2, .int .i64 r.rect.r2, .int .u64 r.rights.read, .int .u64 r.rights.write, .int .u64 r.rights.own], .agg #[.int .i64 x.col, .int .i64 x.row]] w (Gives w (.bool true)) := by
  obtain ⟨a, ha⟩ : ∃ a : List Rule, a = ⟨sheetR, f⟩ :: l := ⟨_, rfl⟩
  have HAL : Hid (a.length = l.length + 1) := by rw [Hid, ha]; rfl
  have hal' : a.length ≤ 1000000000000000 := by have := HAL.out; omega
  have HNE : Hid (a ≠ []) := by rw [Hid, ha]; simp
  have haok : ∀ r ∈ a, r.ok := by
    rw [ha]
    intro r hr
    rcases List.mem_cons.1 hr with rfl | hr
    · exact ⟨sheet_ok, hf⟩
    · exact hok r hr
  obtain ⟨a1, ha1⟩ : ∃ a1 : List Rule, a1 = a ++ [r] := ⟨_, rfl⟩
  have HA1L : Hid (a1.length = a.length + 1) := by rw [Hid, ha1]; simp
  have hal1 : a1.length ≤ 1000000000000000 := by have := HAL.out; have := HA1L.out; omega
  have haok1 : ∀ r ∈ a1, r.ok := by
    rw [ha1]
    intro r' hr'
    rcases List.mem_append.1 hr' with h | h
    · exact haok r' h
    · simp at h; subst h; exact hr
  have HA : Hid (a = ⟨sheetR, f⟩ :: l) := ha
  have HA1 : Hid (a1 = a ++ [r]) := ha1
  clear ha ha1
  go_enter Try.func5, Try.ntmps5
  go_wp2_with fail
  refine (whole_any f A cap l hl _ (hs.keep (by (repeat' first | assumption | exact Kp.refl _ | apply Kp.alloc | apply Kp.drew | apply Kp.drewN | (refine Kp.setCell (by first | (simp; done) | (simp; omega) | omega) ?_) | (refine Kp.next ?_ (by assumption)))))).mono ?_; rintro e w1 ⟨v1, rfl, hown, hk1⟩
  rw [← HA.out] at hown
  obtain ⟨A1, c1, rfl⟩ := hown.form
  have HS : Hid (SlAt Rule.vals 7 w1 A1 a) := (OwnV.sl fit_rule hown).1
  clear hown hs
  have l0 : w1.cell? ⟨w.heap.size + 2, 0, none⟩ = some (.int .i64 x.col) := hk1.later (by go_simp)
  have l1 : w1.cell? ⟨w.heap.size + 2, 1, none⟩ = some (.int .i64 x.row) := hk1.later (by go_simp)
  have m0 : w1.cell? ⟨w.heap.size + 1, 0, none⟩ = some (.int .i64 r.rect.c1) := hk1.later (by go_simp)
  have m1 : w1.cell? ⟨w.heap.size + 1, 1, none⟩ = some (.int .i64 r.rect.r1) := hk1.later (by go_simp)
  have m2 : w1.cell? ⟨w.heap.size + 1, 2, none⟩ = some (.int .i64 r.rect.c2) := hk1.later (by go_simp)
  have m3 : w1.cell? ⟨w.heap.size + 1, 3, none⟩ = some (.int .i64 r.rect.r2) := hk1.later (by go_simp)
  have m4 : w1.cell? ⟨w.heap.size + 1, 4, none⟩ = some (.int .u64 r.rights.read) := hk1.later (by go_simp)
  have m5 : w1.cell? ⟨w.heap.size + 1, 5, none⟩ = some (.int .u64 r.rights.write) := hk1.later (by go_simp)
  have m6 : w1.cell? ⟨w.heap.size + 1, 6, none⟩ = some (.int .u64 r.rights.own) := hk1.later (by go_simp)
  have z1 : w.heap.size + 2 < w1.heap.size := World.block_lt_of_cell? _ _ l0
  have z2 : w.heap.size + 1 < w1.heap.size := World.block_lt_of_cell? _ _ m0
  have hkw : Kp w w1 := by (repeat' first | assumption | exact Kp.refl _ | apply Kp.alloc | apply Kp.drew | apply Kp.drewN | (refine Kp.setCell (by first | (simp; done) | (simp; omega) | omega) ?_) | (refine Kp.next ?_ (by assumption)))
  clear hk1
  go_wp2_with fail
  go_cut [10, 11] (fun s t wx => s = .int .i64 (checkS 64 a1).1 ∧ t = .int .i64 (chkE a1) ∧ Kp w1 wx)
  case first =>
    have HB : Hid ((a.length + [r].length) * 56 ≤ 140737488355328) := by have := HAL.out; simp only [Hid, List.length_cons, List.length_nil]; omega
    have HB2 : Hid (a.length * 56 ≤ 140737488355328) := by have := HAL.out; simp only [Hid]; omega
    go_region_held3 (fun w' => (∀ b o, b < w1.heap.size → w'.cell? ⟨b, o, none⟩ = w1.cell? ⟨b, o, none⟩) ∧ Kp w1 w')
      (first
       | (with_reducible exact held_refl _)
       | (with_reducible exact held_next (by assumption) hk4)
       | (with_reducible exact held_next (by assumption) hk2)
       | (with_reducible exact held_alloc (by assumption))
               | (with_reducible exact held_dalloc (by assumption))
       | exact held_grown (by assumption) hg3 (fun g hg => Nat.le_trans (Kp.le (by (repeat' first | assumption | exact Kp.refl _ | apply Kp.alloc | apply Kp.drew | apply Kp.drewN | (refine Kp.setCell (by first | (simp; done) | (simp; omega) | omega) ?_) | (refine Kp.next ?_ (by assumption))))) (hown2.blocks g hg).1))
      (first
       | (go_at_call 15; refine (copyRules_any A1 c1 a HB2.out _ (held_sl (by assumption) HS.out)).mono ?_; rintro e w2 ⟨v2, rfl, hown2, hk2⟩)
       | (go_at_call 10; refine (refCheck_no A3 c3 a1 hal1 haok1 _ hs3).mono ?_; rintro e w4 ⟨rfl, hk4⟩)
       | ((with_reducible refine at_app ?_)
          refine step_app rfl _ _ rfl el_rule fit_rule (by decide) (hown2.keep ?_) rfl ((SlAt.new (e := 38) (l := [r]) fit_rule rfl (by simp [maxLen])).keep ?_) rfl rfl HB.out ?_ ?_
          · (repeat' first | assumption | exact Kp.refl _ | apply Kp.alloc | apply Kp.drew | apply Kp.drewN | (refine Kp.setCell (by first | (simp; done) | (simp; omega) | omega) ?_) | (refine Kp.next ?_ (by assumption)))
          · (repeat' first | assumption | exact Kp.refl _ | apply Kp.alloc | apply Kp.drew | apply Kp.drewN | (refine Kp.setCell (by first | (simp; done) | (simp; omega) | omega) ?_) | (refine Kp.next ?_ (by assumption)))
          · exact Kp.le (by (repeat' first | assumption | exact Kp.refl _ | apply Kp.alloc | apply Kp.drew | apply Kp.drewN | (refine Kp.setCell (by first | (simp; done) | (simp; omega) | omega) ?_) | (refine Kp.next ?_ (by assumption))))
          intro v3 w3 hown3 hg3 hat3
          rw [← HA1.out] at hown3
          obtain ⟨A3, c3, rfl⟩ := hown3.form
          have hs3 := (OwnV.sl fit_rule hown3).1))
    all_goals
      go_wp2_with fail
      go_meet
      exact ⟨rfl, rfl, held_kp (by assumption)⟩
  case rest =>
    obtain ⟨rfl, rfl, hk2⟩ := hcut
    replace l0 := hk2.later l0
    replace l1 := hk2.later l1
    replace m0 := hk2.later m0
    replace m1 := hk2.later m1
    replace m2 := hk2.later m2
    replace m3 := hk2.later m3
    replace m4 := hk2.later m4
    replace m5 := hk2.later m5
    replace m6 := hk2.later m6
    by_cases d1 : chkE a1 = 0
    · have D1 : Hid (chkE a1 = 0) := d1
      have e1 : (chkE a1 != 0) = false := by rw [d1]; rfl
      clear d1
      by_cases d2 : l.length ≤ 60
      · go_wp2_with fail
        refine (address_any x _).mono ?_; rintro e w3 ⟨rfl, hk3⟩
        replace l0 := hk3.later l0
        replace l1 := hk3.later l1
        replace m0 := hk3.later m0
        replace m1 := hk3.later m1
        replace m2 := hk3.later m2
        replace m3 := hk3.later m3
        replace m4 := hk3.later m4
        replace m5 := hk3.later m5
        replace m6 := hk3.later m6
        by_cases d3 : refOk x = true
        · have HAT := at_append (r := r) d3 HNE.out (by rw [← HA1.out]; exact D1.out)
          rw [← HA1.out] at HAT
          have E1 : Hid ((atS x a).2 = 0) := HAT.2
          have E2 : Hid (atS x a1 = (if hasB r.rect x then r.rights else (atS x a).1, 0)) := HAT.1
          clear HAT
          have hk13 : Kp w1 w3 := by (repeat' first | assumption | exact Kp.refl _ | apply Kp.alloc | apply Kp.drew | apply Kp.drewN | (refine Kp.setCell (by first | (simp; done) | (simp; omega) | omega) ?_) | (refine Kp.next ?_ (by assumption)))
          go_wp2_with fail
          refine (aclAt_any x A1 c1 a hal' haok _ (HS.out.keep hk13)).mono ?_; rintro e w4 ⟨rfl, hk4⟩
          rw [E1.out]
          go_wp2_with fail
          generalize hR : (atS x a).1 = R at *
          generalize hR1 : (atS x a1).1 = R1 at *
          have E3 : Hid (R1 = if hasB r.rect x then r.rights else R) := by rw [← hR1, E2.out]; rfl
          have E4 : Hid ((atS x a1).2 = 0) := by rw [E2.out]; rfl
          have HR1 : Hid ((atS x a1).1 = R1) := hR1
          clear hR hR1 E1 E2
          have n0 : (w4.alloc (.cells #[.int .u64 R.read, .int .u64 R.write, .int .u64 R.own] 24)).cell? ⟨w4.heap.size, 0, none⟩ = some (.int .u64 R.read) := by go_simp
          have n1 : (w4.alloc (.cells #[.int .u64 R.read, .int .u64 R.write, .int .u64 R.own] 24)).cell? ⟨w4.heap.size, 1, none⟩ = some (.int .u64 R.write) := by go_simp
          have n2 : (w4.alloc (.cells #[.int .u64 R.read, .int .u64 R.write, .int .u64 R.own] 24)).cell? ⟨w4.heap.size, 2, none⟩ = some (.int .u64 R.own) := by go_simp
          have hk45 : Kp w4 (w4.alloc (.cells #[.int .u64 R.read, .int .u64 R.write, .int .u64 R.own] 24)) := by (repeat' first | assumption | exact Kp.refl _ | apply Kp.alloc | apply Kp.drew | apply Kp.drewN | (refine Kp.setCell (by first | (simp; done) | (simp; omega) | omega) ?_) | (refine Kp.next ?_ (by assumption)))
          have zg : w4.heap.size < (w4.alloc (.cells #[.int .u64 R.read, .int .u64 R.write, .int .u64 R.own] 24)).heap.size := by simp
          generalize w4.alloc (.cells #[.int .u64 R.read, .int .u64 R.write, .int .u64 R.own] 24) = w5 at *
          have hk35 : Kp w3 w5 := by (repeat' first | assumption | exact Kp.refl _ | apply Kp.alloc | apply Kp.drew | apply Kp.drewN | (refine Kp.setCell (by first | (simp; done) | (simp; omega) | omega) ?_) | (refine Kp.next ?_ (by assumption)))
          have hk05 : Kp w w5 := by (repeat' first | assumption | exact Kp.refl _ | apply Kp.alloc | apply Kp.drew | apply Kp.drewN | (refine Kp.setCell (by first | (simp; done) | (simp; omega) | omega) ?_) | (refine Kp.next ?_ (by assumption)))
          have HS5 : Hid (SlAt Rule.vals 7 w5 A1 a) := HS.out.keep (hk13.next hk35)
          generalize w4.heap.size = g4 at *
          replace l0 := hk35.later l0
          replace l1 := hk35.later l1
          replace m0 := hk35.later m0
          replace m1 := hk35.later m1
          replace m2 := hk35.later m2
          replace m3 := hk35.later m3
          replace m4 := hk35.later m4
          replace m5 := hk35.later m5
          replace m6 := hk35.later m6
          have z1 : w.heap.size + 2 < w5.heap.size := World.block_lt_of_cell? _ _ l0
          have z2 : w.heap.size + 1 < w5.heap.size := World.block_lt_of_cell? _ _ m0
          have HB : Hid ((a.length + [r].length) * 56 ≤ 140737488355328) := by have := HAL.out; simp only [Hid, List.length_cons, List.length_nil]; omega
          have HB2 : Hid (a.length * 56 ≤ 140737488355328) := by have := HAL.out; simp only [Hid]; omega
          clear hk2 hk3 hk4 hk45 hk35 hk13 hkw e1
          go_wp2_with fail
          go_cut [14, 15] (fun s t wx => ∃ g : Nat, s = .pointer (some ⟨g, 0, none⟩) ∧ t = .int .i64 0 ∧ wx.cell? ⟨g, 0, none⟩ = some (.int .u64 R1.read) ∧ wx.cell? ⟨g, 1, none⟩ = some (.int .u64 R1.write) ∧ wx.cell? ⟨g, 2, none⟩ = some (.int .u64 R1.own) ∧ Kp w5 wx)
          case first =>
            go_region_held3 (fun w' => (∀ b o, b < w5.heap.size → w'.cell? ⟨b, o, none⟩ = w5.cell? ⟨b, o, none⟩) ∧ Kp w5 w')
              (first
               | (with_reducible exact held_refl _)
               | (with_reducible exact held_next (by assumption) hk4)
               | (with_reducible exact held_next (by assumption) hk2)
               | (with_reducible exact held_alloc (by assumption))
               | (with_reducible exact held_dalloc (by assumption))
               | (with_reducible exact held_alloc2 (by assumption) (Kp.le (by (repeat' first | assumption | exact Kp.refl _ | apply Kp.alloc | apply Kp.drew | apply Kp.drewN | (refine Kp.setCell (by first | (simp; done) | (simp; omega) | omega) ?_) | (refine Kp.next ?_ (by assumption))))))
               | (with_reducible exact held_set (held_set (held_set (by assumption) bx4.ge) bx4.ge) bx4.ge)
               | exact held_grown (by assumption) hg3 (fun g hg => Nat.le_trans (Kp.le (by (repeat' first | assumption | exact Kp.refl _ | apply Kp.alloc | apply Kp.drew | apply Kp.drewN | (refine Kp.setCell (by first | (simp; done) | (simp; omega) | omega) ?_) | (refine Kp.next ?_ (by assumption))))) (hown2.blocks g hg).1))
              (first
               | (go_at_call 15
                  refine (copyRules_any A1 c1 a HB2.out _ (held_sl (by assumption) HS5.out)).mono ?_
                  rintro e w2 ⟨v2, rfl, hown2, hk2⟩
                  first
                  | (have bx1 := (Bx.here (lo := w5.heap.size) (w := w5) (cs := #[.int .u64 0, .int .u64 0, .int .u64 0]) (e := 24) (Nat.le_refl _)).drew
                     have bx2 := bx1.keep hk2
                     have bl2 := bx1.lt)
                  | (have bx1 := ((Bx.here (lo := w5.heap.size) (w := w5) (cs := #[.int .u64 0, .int .u64 0, .int .u64 0]) (e := 24) (Nat.le_refl _)).past (.cells (Rule.vals r).toArray 38)).drew
                     have bx2 := bx1.keep hk2
                     have bl2 := bx1.lt)
                  | (have bx1 := (Bx.here (lo := w5.heap.size) (w := w5.alloc (.cells (Rule.vals r).toArray 38)) (cs := #[.int .u64 0, .int .u64 0, .int .u64 0]) (e := 24) (le_alloc (Nat.le_refl _))).drew
                     have bx2 := bx1.keep hk2
                     have bl2 := bx1.lt
                     rw [World.size_alloc] at bx2 bl2)
                  | skip)
               | (go_at_call 18
                  refine (aclAt_any x A3 c3 a1 hal1 haok1 _ (hs3.keep (by (repeat' first | assumption | exact Kp.refl _ | apply Kp.alloc | apply Kp.drew | apply Kp.drewN | (refine Kp.setCell (by first | (simp; done) | (simp; omega) | omega) ?_) | (refine Kp.next ?_ (by assumption)))))).mono ?_
                  rintro e w4 ⟨rfl, hk4⟩
                  first
                  | (have bx4 := bx3.keep hk4
                     have b0 := bx4.cell 0
                     have b1 := bx4.cell 1
                     have b2 := bx4.cell 2
                     have bf := bx4.frozen)
                  | (have bx4 := (Bx.here (lo := w5.heap.size) (w := w3) (cs := #[.int .u64 0, .int .u64 0, .int .u64 0]) (e := 24) (Kp.le hkw3)).keep hk4
                     have b0 := bx4.cell 0
                     have b1 := bx4.cell 1
                     have b2 := bx4.cell 2
                     have bf := bx4.frozen)
                  | skip)
               | ((with_reducible refine at_app ?_)
                  first
                  | refine step_app rfl _ _ rfl el_rule fit_rule (by decide) (hown2.keep ?_) rfl ((SlAt.new (e := 38) (l := [r]) fit_rule rfl (by simp [maxLen])).keep ?_) rfl rfl HB.out ?_ ?_
                  | refine step_app rfl _ _ rfl el_rule fit_rule (by decide) (hown2.keep ?_) rfl ((SlAt.new1 (e := 38) (l := [r]) fit_rule (.cells #[.int .u64 0, .int .u64 0, .int .u64 0] 24) rfl (by simp [maxLen])).keep ?_) rfl rfl HB.out ?_ ?_
                  · (repeat' first | assumption | exact Kp.refl _ | apply Kp.alloc | apply Kp.drew | apply Kp.drewN | (refine Kp.setCell (by first | (simp; done) | (simp; omega) | omega) ?_) | (refine Kp.next ?_ (by assumption)))
                  · (repeat' first | assumption | exact Kp.refl _ | apply Kp.alloc | apply Kp.drew | apply Kp.drewN | (refine Kp.setCell (by first | (simp; done) | (simp; omega) | omega) ?_) | (refine Kp.next ?_ (by assumption)))
                  · exact Kp.le (by (repeat' first | assumption | exact Kp.refl _ | apply Kp.alloc | apply Kp.drew | apply Kp.drewN | (refine Kp.setCell (by first | (simp; done) | (simp; omega) | omega) ?_) | (refine Kp.next ?_ (by assumption))))
                  intro v3 w3 hown3 hg3 hat3
                  have hkw3 : Kp w5 w3 := (held_grown (by assumption) hg3 (fun g hg => Nat.le_trans (Kp.le (by (repeat' first | assumption | exact Kp.refl _ | apply Kp.alloc | apply Kp.drew | apply Kp.drewN | (refine Kp.setCell (by first | (simp; done) | (simp; omega) | omega) ?_) | (refine Kp.next ?_ (by assumption))))) (hown2.blocks g hg).1)).2
                  first
                  | have bx3 := bx2.grown hg3 (fun k hk e => absurd (hown2.blocks k hk).1 (by subst e; exact Nat.not_le.2 bl2))
                  | have bx3 := (bx2.past _).grown hg3 (fun k hk e => absurd (hown2.blocks k hk).1 (by subst e; exact Nat.not_le.2 bl2))
                  | have bx3 := (Bx.here (lo := w5.heap.size) (w := w2) (cs := #[.int .u64 0, .int .u64 0, .int .u64 0]) (e := 24) (Kp.le (by (repeat' first | assumption | exact Kp.refl _ | apply Kp.alloc | apply Kp.drew | apply Kp.drewN | (refine Kp.setCell (by first | (simp; done) | (simp; omega) | omega) ?_) | (refine Kp.next ?_ (by assumption)))))).grown hg3 (fun k hk e => absurd (hown2.blocks k hk).2 (by subst e; exact Nat.lt_irrefl _))
                  | have bx3 := ((Bx.here (lo := w5.heap.size) (w := w2) (cs := #[.int .u64 0, .int .u64 0, .int .u64 0]) (e := 24) (Kp.le (by (repeat' first | assumption | exact Kp.refl _ | apply Kp.alloc | apply Kp.drew | apply Kp.drewN | (refine Kp.setCell (by first | (simp; done) | (simp; omega) | omega) ?_) | (refine Kp.next ?_ (by assumption)))))).past _).grown hg3 (fun k hk e => absurd (hown2.blocks k hk).2 (by subst e; exact Nat.lt_irrefl _))
                  | (have bx3 := (Bx.here (lo := w5.heap.size) (w := w2.alloc (.cells (Rule.vals r).toArray 38)) (cs := #[.int .u64 0, .int .u64 0, .int .u64 0]) (e := 24) (Kp.le (by (repeat' first | assumption | exact Kp.refl _ | apply Kp.alloc | apply Kp.drew | apply Kp.drewN | (refine Kp.setCell (by first | (simp; done) | (simp; omega) | omega) ?_) | (refine Kp.next ?_ (by assumption)))))).grown hg3 (fun k hk e => absurd (hown2.blocks k hk).2 (by subst e; rw [World.size_alloc]; omega))
                     rw [World.size_alloc] at bx3)
                  | skip
                  rw [← HA1.out] at hown3
                  obtain ⟨A3, c3, rfl⟩ := hown3.form
                  have hs3 := (OwnV.sl fit_rule hown3).1))
            all_goals
              go_wp2_with fail
              go_meet
              exact ⟨_, rfl, by rw [E4.out], by rw [← HR1.out]; go_simp, by rw [← HR1.out]; go_simp, by rw [← HR1.out]; go_simp, held_kp (by assumption)⟩
          case rest =>
            obtain ⟨g, rfl, rfl, t0, t1, t2, hk6⟩ := hcut
            replace l0 := hk6.later l0
            replace l1 := hk6.later l1
            replace m0 := hk6.later m0
            replace m1 := hk6.later m1
            replace m2 := hk6.later m2
            replace m3 := hk6.later m3
            replace m4 := hk6.later m4
            replace m5 := hk6.later m5
            replace m6 := hk6.later m6
            replace n0 := hk6.later n0
            replace n1 := hk6.later n1
            replace n2 := hk6.later n2
            go_wp2_with fail
            refine (refHas_any r.rect x _).mono ?_; rintro e w8 ⟨rfl, hk8⟩
            replace m4 := hk8.later m4
            replace m5 := hk8.later m5
            replace m6 := hk8.later m6
            replace n0 := hk8.later n0
            replace n1 := hk8.later n1
            replace n2 := hk8.later n2
            replace t0 := hk8.later t0
            replace t1 := hk8.later t1
            replace t2 := hk8.later t2
            clear l0 l1 m0 m1 m2 m3
            cases hh : hasB r.rect x
            · have e5 : R1 = R := by rw [E3.out, hh]; rfl
              subst e5
              have q1 := eql_rights R1 R1
              go_wp2_with fail
              refine (example_any _).mono ?_; rintro e w9 ⟨rfl, hk9⟩
              go_wp2_with fail
              go_ret
              exact ⟨rfl, by (repeat' first | assumption | exact Kp.refl _ | apply Kp.alloc | apply Kp.drew | apply Kp.drewN | (refine Kp.setCell (by first | (simp; done) | (simp; omega) | omega) ?_) | (refine Kp.next ?_ (by assumption)))⟩
            · have e5 : R1 = r.rights := by rw [E3.out, hh]; rfl
              subst e5
              have q1 := eql_rights r.rights r.rights
              go_wp2_with fail
              go_ret
              exact ⟨by simp, by (repeat' first | assumption | exact Kp.refl _ | apply Kp.alloc | apply Kp.drew | apply Kp.drewN | (refine Kp.setCell (by first | (simp; done) | (simp; omega) | omega) ?_) | (refine Kp.next ?_ (by assumption)))⟩
        · simp only [Bool.not_eq_true] at d3
          rw [d3]
          go_wp2_with fail
          go_ret
          exact ⟨rfl, by (repeat' first | assumption | exact Kp.refl _ | apply Kp.alloc | apply Kp.drew | apply Kp.drewN | (refine Kp.setCell (by first | (simp; done) | (simp; omega) | omega) ?_) | (refine Kp.next ?_ (by assumption)))⟩
      · go_wp2_with fail
        go_ret
        exact ⟨rfl, by (repeat' first | assumption | exact Kp.refl _ | apply Kp.alloc | apply Kp.drew | apply Kp.drewN | (refine Kp.setCell (by first | (simp; done) | (simp; omega) | omega) ?_) | (refine Kp.next ?_ (by assumption)))⟩
    · have hne : (chkE a1 != 0) = true := by rw [bne_iff_ne]; exact d1
      clear d1
      go_wp2_with fail
      go_ret
      exact ⟨rfl, by (repeat' first | assumption | exact Kp.refl _ | apply Kp.alloc | apply Kp.drew | apply Kp.drewN | (refine Kp.setCell (by first | (simp; done) | (simp; omega) | omega) ?_) | (refine Kp.next ?_ (by assumption)))⟩

end Go.Proofs.Ytonangdimkgdpaa
