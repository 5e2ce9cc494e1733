/- Plain laws of the parts of a range: they part it, and each has one rule. No program in sight. -/
import Derived.Test.YtfacimebfdeaeaaPartMath
import Derived.Test.YtfacimebfdeaeaaPlainMath
namespace Go.Proofs.Ytfacimebfdeaeaa

/-- Bands one behind the other, from lo to hi. -/
def Tiles : Int → Int → List (Int × Int) → Prop
  | lo, hi, [] => lo = hi + 1
  | lo, hi, p :: B => p.1 = lo ∧ p.1 ≤ p.2 ∧ Tiles (p.2 + 1) hi B
set_option maxRecDepth 100000 in
theorem tiles_bands {hi : Int} : ∀ {L : List Int} {u : Int}, (u :: L).Pairwise (· < ·) → (∀ c ∈ u :: L, c ≤ hi) → Tiles u hi (bandsOf hi (u :: L))
  | [], u, _, h => ⟨rfl, h u (List.mem_cons_self ..), rfl⟩
  | z :: L, u, hp, h => by
    have hp' := List.pairwise_cons.1 hp
    have hz := hp'.1 z (List.mem_cons_self ..)
    refine ⟨rfl, by simp only; omega, ?_⟩
    have := tiles_bands hp'.2 (fun c hc => h c (List.mem_cons_of_mem _ hc))
    rw [show z - 1 + 1 = z by omega]
    exact this
set_option maxRecDepth 100000 in
theorem bands_free {hi : Int} : ∀ {L : List Int}, L.Pairwise (· < ·) → ∀ p ∈ bandsOf hi L, ∀ c ∈ L, ¬(p.1 < c ∧ c ≤ p.2)
  | [], _, p, hp => by cases hp
  | [u], _, p, hp => by
    simp only [bandsOf, List.mem_singleton] at hp
    subst hp
    intro c hc
    simp only [List.mem_singleton] at hc
    subst hc
    simp only; omega
  | u :: z :: L, hw, p, hp => by
    have hp' := List.pairwise_cons.1 hw
    have hzL := List.pairwise_cons.1 hp'.2
    intro c hc
    rw [bandsOf, List.mem_cons] at hp
    rw [List.mem_cons] at hc
    rcases hp with hp | hp
    · subst hp
      rcases hc with hc | hc
      · simp only; omega
      · rcases List.mem_cons.1 hc with hc | hc
        · simp only; omega
        · have := hzL.1 c hc
          simp only; omega
    · rcases hc with hc | hc
      · subst hc -- ahead of all
        intro ⟨h1, _⟩
        have key : ∀ {L : List Int} {z : Int}, (z :: L).Pairwise (· < ·) → ∀ p ∈ bandsOf hi (z :: L), z ≤ p.1 := by
          intro L
          induction L with
          | nil => intro z _ p hp; simp only [bandsOf, List.mem_singleton] at hp; subst hp; exact Int.le_refl _
          | cons w L ih =>
            intro z hz p hp
            rw [bandsOf] at hp
            rcases List.mem_cons.1 hp with rfl | hp
            · exact Int.le_refl _
            · have h1 := List.pairwise_cons.1 hz
              have h2 := ih h1.2 p hp
              have h3 := h1.1 w (List.mem_cons_self ..)
              omega
        have h2 := key hp'.2 p hp
        have h3 := hp'.1 z (List.mem_cons_self ..)
        omega
      · exact bands_free hp'.2 p hp c hc
set_option maxRecDepth 100000 in
theorem tiles_in : ∀ {B : List (Int × Int)} {lo hi : Int}, Tiles lo hi B → lo ≤ hi + 1 ∧ ∀ p ∈ B, lo ≤ p.1 ∧ p.1 ≤ p.2 ∧ p.2 ≤ hi
  | [], lo, hi, h => ⟨by rw [show lo = hi + 1 from h]; exact Int.le_refl _, fun p hp => by cases hp⟩
  | q :: B, lo, hi, ⟨h1, h2, h3⟩ => by
    obtain ⟨i1, i2⟩ := tiles_in h3
    refine ⟨by omega, fun p hp => ?_⟩
    rcases List.mem_cons.1 hp with rfl | hp
    · omega
    · have := i2 p hp; omega
set_option maxRecDepth 100000 in
theorem tiles_cover : ∀ {B : List (Int × Int)} {lo hi z : Int}, Tiles lo hi B → lo ≤ z → z ≤ hi → ∃ p ∈ B, p.1 ≤ z ∧ z ≤ p.2
  | [], lo, hi, z, h, h1, h2 => by have : lo = hi + 1 := h; omega
  | q :: B, lo, hi, z, ⟨h1, h2, h3⟩, h4, h5 => by
    by_cases h : z ≤ q.2
    · exact ⟨q, List.mem_cons_self .., by omega, h⟩
    · obtain ⟨p, hp, h6⟩ := tiles_cover h3 (by omega : q.2 + 1 ≤ z) h5
      exact ⟨p, List.mem_cons_of_mem _ hp, h6⟩
set_option maxRecDepth 100000 in
theorem tiles_pair : ∀ {B : List (Int × Int)} {lo hi : Int}, Tiles lo hi B → B.Pairwise fun p q => p.2 < q.1
  | [], _, _, _ => .nil
  | q :: B, lo, hi, ⟨h1, h2, h3⟩ => List.pairwise_cons.2 ⟨fun p hp => by have := ((tiles_in h3).2 p hp).1; omega, tiles_pair h3⟩
set_option maxRecDepth 100000 in
theorem tiles_snoc : ∀ {B : List (Int × Int)} {lo hi : Int} {p : Int × Int}, Tiles lo hi (B ++ [p]) ↔ Tiles lo (p.1 - 1) B ∧ p.1 ≤ p.2 ∧ p.2 = hi
  | [], lo, hi, p => by
    show (p.1 = lo ∧ p.1 ≤ p.2 ∧ p.2 + 1 = hi + 1) ↔ (lo = p.1 - 1 + 1 ∧ p.1 ≤ p.2 ∧ p.2 = hi)
    omega
  | q :: B, lo, hi, p => by
    show (q.1 = lo ∧ q.1 ≤ q.2 ∧ Tiles (q.2 + 1) hi (B ++ [p])) ↔ ((q.1 = lo ∧ q.1 ≤ q.2 ∧ Tiles (q.2 + 1) (p.1 - 1) B) ∧ p.1 ≤ p.2 ∧ p.2 = hi)
    rw [tiles_snoc]
    exact ⟨fun ⟨a, b, c, d⟩ => ⟨⟨a, b, c⟩, d⟩, fun ⟨⟨a, b, c⟩, d⟩ => ⟨a, b, c, d⟩⟩
set_option maxRecDepth 100000 in
/-- What bandsL makes. -/
theorem bandsL_spec {lo hi : Int} (h : lo ≤ hi) (ps : List (Int × Int)) : Tiles lo hi (bandsL lo hi ps) ∧ ∀ q ∈ bandsL lo hi ps, ∀ p ∈ ps, ¬(q.1 < p.1 ∧ p.1 ≤ q.2) ∧ ¬(q.1 < p.2 + 1 ∧ p.2 + 1 ≤ q.2) := by
  have hs := cutsB_sorted lo hi ps
  have hlo : lo ∈ cutsB lo hi ps := cutsB_mem.2 ⟨Int.le_refl _, h, .inl rfl⟩
  have hT : Tiles lo hi (bandsL lo hi ps) := by
    unfold bandsL
    cases hc : cutsB lo hi ps with
    | nil => rw [hc] at hlo; cases hlo
    | cons u L =>
      rw [hc] at hs hlo
      have hu : u = lo := by
        have h1 : lo ≤ u := (cutsB_mem.1 (by rw [hc]; exact List.mem_cons_self .. : u ∈ cutsB lo hi ps)).1
        rcases List.mem_cons.1 hlo with h2 | h2
        · exact h2.symm
        · have := (List.pairwise_cons.1 hs).1 lo h2; omega
      subst hu
      exact tiles_bands hs fun c hcm => (cutsB_mem.1 (by rw [hc]; exact hcm : c ∈ cutsB u hi ps)).2.1
  refine ⟨hT, fun q hq p hp => ?_⟩
  have hin := (tiles_in hT).2 q hq
  have hf := bands_free hs q hq
  refine ⟨fun hh => ?_, fun hh => ?_⟩
  · exact hf p.1 (cutsB_mem.2 ⟨by omega, by omega, .inr ⟨p, hp, .inl rfl⟩⟩) hh
  · exact hf (p.2 + 1) (cutsB_mem.2 ⟨by omega, by omega, .inr ⟨p, hp, .inr rfl⟩⟩) hh
/-- All addresses of a part have its rules last. -/
def Uni (a b : List Rule) (p : Part) : Prop := ∀ x, hasB p.r x = true → (lastN x a a.length : Int) = p.which.1 ∧ (lastN x b b.length : Int) = p.which.2
set_option maxRecDepth 100000 in
theorem which_last {q : Rect} {x : Ref} {l : List Rule} (h : ∀ y ∈ l, insideB q y.rect = hasB y.rect x) : ∀ n, whichN q l n = lastN x l n
  | 0 => rfl
  | 1 => lastN_one.symm
  | n + 2 => by
    have ih := which_last h (n + 1)
    rw [whichN, ih]
    conv => rhs; rw [lastN]
    cases hy : l[n + 1]? with
    | none => rfl
    | some y => simp only; rw [h y (List.mem_of_getElem? hy)]
set_option maxRecDepth 100000 in
theorem inside_iff {q R : Rect} (hq : rectOk q = true) (hR : rectOk R = true) : insideB q R = true ↔ R.c1 ≤ q.c1 ∧ q.c2 ≤ R.c2 ∧ R.r1 ≤ q.r1 ∧ q.r2 ≤ R.r2 := by
  have h1 := ok_iff.1 hq
  have h2 := ok_iff.1 hR
  unfold insideB meets
  simp only [hq, hR, Bool.true_and, Bool.and_eq_true, decide_eq_true_eq, ok_iff]
  constructor
  · rintro ⟨_, h⟩
    have e1 : max q.c1 R.c1 = q.c1 := congrArg Rect.c1 h
    have e2 : max q.r1 R.r1 = q.r1 := congrArg Rect.r1 h
    have e3 : min q.c2 R.c2 = q.c2 := congrArg Rect.c2 h
    have e4 : min q.r2 R.r2 = q.r2 := congrArg Rect.r2 h
    omega
  · rintro ⟨g1, g2, g3, g4⟩
    have e1 : max q.c1 R.c1 = q.c1 := by omega
    have e2 : max q.r1 R.r1 = q.r1 := by omega
    have e3 : min q.c2 R.c2 = q.c2 := by omega
    have e4 : min q.r2 R.r2 = q.r2 := by omega
    have : meetR q R = q := by unfold meetR; rw [e1, e2, e3, e4]
    rw [this]
    exact ⟨by omega, rfl⟩
set_option maxRecDepth 100000 in
/-- A cell of the grid is inside of a rule's range, or apart from it. -/
theorem cell_uni {r : Rect} (hr : rectOk r = true) {l a b : List Rule} (hl : ∀ y ∈ l, rectOk y.rect = true) (hsub : ∀ p, p ∈ noteC r l → p ∈ noteC r a ++ noteC r b) (hsub2 : ∀ p, p ∈ noteR r l → p ∈ noteR r a ++ noteR r b) {x y : Int × Int} (hx : x ∈ colsP r a b) (hy : y ∈ rowsP r a b)
    {pt : Ref} (hpt : hasB ⟨x.1, y.1, x.2, y.2⟩ pt = true) : ∀ q ∈ l, insideB ⟨x.1, y.1, x.2, y.2⟩ q.rect = hasB q.rect pt := by
  intro q hq
  have hro := ok_iff.1 hr
  have hqo := ok_iff.1 (hl q hq)
  obtain ⟨tC, fC⟩ := bandsL_spec (lo := r.c1) (hi := r.c2) (by omega) (noteC r a ++ noteC r b)
  obtain ⟨tR, fR⟩ := bandsL_spec (lo := r.r1) (hi := r.r2) (by omega) (noteR r a ++ noteR r b)
  have bx := (tiles_in tC).2 x hx
  have by_ := (tiles_in tR).2 y hy
  have hp := has_iff.1 hpt
  simp only at hp
  have hcell : rectOk ⟨x.1, y.1, x.2, y.2⟩ = true := ok_iff.2 (by simp only; omega)
  rw [Bool.eq_iff_iff, inside_iff hcell (hl q hq), has_iff]
  simp only
  constructor
  · omega
  · intro hh
    have hm : meets q.rect r = true := by
      unfold meets
      simp only [hl q hq, hr, Bool.true_and]
      exact ok_iff.2 (by simp only [meetR]; omega)
    have m1 : ((meetR q.rect r).c1, (meetR q.rect r).c2) ∈ noteC r l := List.mem_filterMap.2 ⟨q, hq, by rw [if_pos hm]⟩
    have m2 : ((meetR q.rect r).r1, (meetR q.rect r).r2) ∈ noteR r l := List.mem_filterMap.2 ⟨q, hq, by rw [if_pos hm]⟩
    have f1 := fC x hx _ (hsub _ m1)
    have f2 := fR y hy _ (hsub2 _ m2)
    simp only [meetR] at f1 f2
    omega

def cols (p : Part) : Int × Int := (p.r.c1, p.r.c2)
/-- The parts of a row, up to column u - 1. -/
def RowOk (a b : List Rule) (lo : Int) (y : Int × Int) (Q : List Part) (u : Int) : Prop := Tiles lo (u - 1) (Q.map cols) ∧ ∀ p ∈ Q, p.r.r1 = y.1 ∧ p.r.r2 = y.2 ∧ Uni a b p
set_option maxRecDepth 100000 in
theorem row_fold {a b : List Rule} {y : Int × Int} {lo hi : Int} : ∀ {B : List (Int × Int)} {u : Int} {Q : List Part}, Tiles u hi B → (∀ x ∈ B, Uni a b (mkP a b y x)) → RowOk a b lo y Q u → RowOk a b lo y ((B.map (mkP a b y)).foldl stepP Q) (hi + 1)
  | [], u, Q, h, _, hQ => by
    have : u = hi + 1 := h
    subst this; exact hQ
  | x :: B, u, Q, ⟨h1, h2, h3⟩, hu, ⟨q1, q2⟩ => by
    rw [List.map_cons, List.foldl_cons]
    refine row_fold h3 (fun z hz => hu z (List.mem_cons_of_mem _ hz)) ?_
    have hux := hu x (List.mem_cons_self ..)
    have hstep : RowOk a b lo y (Q ++ [mkP a b y x]) (x.2 + 1) := by
      refine ⟨?_, fun p hp => ?_⟩
      · rw [List.map_append]
        refine tiles_snoc.2 ⟨?_, h2, by show x.2 = x.2 + 1 - 1; omega⟩
        show Tiles lo (x.1 - 1) _
        rw [h1]; exact q1
      · rcases List.mem_append.1 hp with hp | hp
        · exact q2 p hp
        · rw [List.mem_singleton] at hp
          subst hp
          exact ⟨rfl, rfl, hux⟩
    rcases list_snoc Q with hQ | ⟨Q', q, hQ⟩
    · subst hQ
      rw [stepP_nil]
      exact hstep
    · subst hQ
      by_cases hw : q.which = (mkP a b y x).which
      · rw [stepP_same hw]
        rw [List.map_append] at q1
        obtain ⟨t1, t2, t3⟩ := tiles_snoc.1 q1
        have hq := q2 q (by simp)
        refine ⟨?_, fun p hp => ?_⟩
        · rw [List.map_append]
          refine tiles_snoc.2 ⟨t1, ?_, ?_⟩
          · show q.r.c1 ≤ x.2
            have e1 : q.r.c1 ≤ q.r.c2 := t2
            have e2 : q.r.c2 = u - 1 := t3
            omega
          · show x.2 = x.2 + 1 - 1; omega
        · rcases List.mem_append.1 hp with hp | hp
          · exact q2 p (List.mem_append_left _ hp)
          · rw [List.mem_singleton] at hp
            subst hp
            refine ⟨hq.1, hq.2.1, fun pt hpt => ?_⟩
            have hh := has_iff.1 hpt
            simp only [wider] at hh
            have e2 : q.r.c2 = u - 1 := t3
            by_cases hc : pt.col ≤ q.r.c2
            · exact hq.2.2 pt (has_iff.2 ⟨hh.1, hc, hh.2.2.1, hh.2.2.2⟩)
            · have h4 := hux pt (has_iff.2 ⟨by show x.1 ≤ pt.col; omega, hh.2.1, by rw [hq.1] at hh; exact hh.2.2.1, by rw [hq.2.1] at hh; exact hh.2.2.2⟩)
              show (lastN pt a a.length : Int) = q.which.1 ∧ (lastN pt b b.length : Int) = q.which.2
              rw [hw]; exact h4
      · rw [stepP_new hw]; exact hstep
set_option maxRecDepth 100000 in
theorem good_rects {l : List Rule} (h : chkE l = 0) : ∀ y ∈ l, rectOk y.rect = true := fun y hy => good_rectOk (((chkE_iff l).1 h).2.2 y hy)
set_option maxRecDepth 100000 in
theorem rowP_ok {r : Rect} (hr : rectOk r = true) {a b : List Rule} (ha : ∀ y ∈ a, rectOk y.rect = true) (hb : ∀ y ∈ b, rectOk y.rect = true) {y : Int × Int} (hy : y ∈ rowsP r a b) : RowOk a b r.c1 y (rowP a b (colsP r a b) y) (r.c2 + 1) := by
  have hro := ok_iff.1 hr
  have hT := (bandsL_spec (lo := r.c1) (hi := r.c2) (by omega) (noteC r a ++ noteC r b)).1
  refine row_fold hT (fun x hx pt hpt => ?_) ⟨by show r.c1 = r.c1 - 1 + 1; omega, fun p hp => by cases hp⟩
  have w1 := which_last (cell_uni hr ha (fun p hp => List.mem_append_left _ hp) (fun p hp => List.mem_append_left _ hp) hx hy hpt) a.length
  have w2 := which_last (cell_uni hr hb (fun p hp => List.mem_append_right _ hp) (fun p hp => List.mem_append_right _ hp) hx hy hpt) b.length
  exact ⟨by show _ = ((whichN _ a a.length : Nat) : Int); rw [w1], by show _ = ((whichN _ b b.length : Nat) : Int); rw [w2]⟩
set_option maxRecDepth 100000 in
/-- The parts of a range: they part it, and each has its rules. -/
theorem parts_spec {r : Rect} (hr : rectOk r = true) {a b : List Rule} (ha : ∀ y ∈ a, rectOk y.rect = true) (hb : ∀ y ∈ b, rectOk y.rect = true) :
    (∀ p ∈ partsL r a b, rectOk p.r = true ∧ Uni a b p ∧ ∀ x, hasB p.r x = true → hasB r x = true) ∧ (∀ x, hasB r x = true → ∃ p ∈ partsL r a b, hasB p.r x = true) ∧ Asc (partsL r a b) := by
  have hro := ok_iff.1 hr
  have hT := (bandsL_spec (lo := r.r1) (hi := r.r2) (by omega) (noteR r a ++ noteR r b)).1
  have key : ∀ p ∈ partsL r a b, ∃ y ∈ rowsP r a b, p ∈ rowP a b (colsP r a b) y := fun p hp => List.mem_flatMap.1 hp
  have hin : ∀ p ∈ partsL r a b, 1 ≤ p.r.c1 ∧ p.r.c1 ≤ p.r.c2 ∧ p.r.c2 ≤ 1024 ∧ 1 ≤ p.r.r1 ∧ p.r.r1 ≤ p.r.r2 ∧ p.r.r2 ≤ 1024 ∧ r.c1 ≤ p.r.c1 ∧ p.r.c2 ≤ r.c2 ∧ r.r1 ≤ p.r.r1 ∧ p.r.r2 ≤ r.r2 ∧ Uni a b p := fun p hp => by
    obtain ⟨y, hy, hpy⟩ := key p hp
    obtain ⟨t1, t2⟩ := rowP_ok hr ha hb hy
    have h1 := (tiles_in t1).2 (cols p) (List.mem_map.2 ⟨p, hpy, rfl⟩)
    have h2 := t2 p hpy
    have h3 := (tiles_in hT).2 y hy
    simp only [cols] at h1
    obtain ⟨g1, g2, g3⟩ := h2
    refine ⟨?_, ?_, ?_, ?_, ?_, ?_, ?_, ?_, ?_, ?_, g3⟩ <;> omega
  refine ⟨fun p hp => ?_, fun x hx => ?_, fun p hp => ?_, ?_⟩
  · have h := hin p hp
    refine ⟨ok_iff.2 (by omega), h.2.2.2.2.2.2.2.2.2.2, fun x hx => ?_⟩
    have := has_iff.1 hx
    exact has_iff.2 (by omega)
  · have hh := has_iff.1 hx
    obtain ⟨y, hy, hy2⟩ := tiles_cover hT (show r.r1 ≤ x.row from hh.2.2.1) hh.2.2.2
    obtain ⟨t1, t2⟩ := rowP_ok hr ha hb hy
    obtain ⟨c, hc, hc2⟩ := tiles_cover t1 (show r.c1 ≤ x.col from hh.1) (by omega)
    obtain ⟨p, hp, rfl⟩ := List.mem_map.1 hc
    obtain ⟨g1, g2, _⟩ := t2 p hp
    exact ⟨p, List.mem_flatMap.2 ⟨y, hy, hp⟩, has_iff.2 ⟨hc2.1, hc2.2, by omega, by omega⟩⟩
  · have h := hin p hp
    unfold small
    omega
  · have hpw : (partsL r a b).Pairwise fun x y => 0 ≤ cmpV y x := by
      unfold partsL
      rw [List.pairwise_flatMap]
      refine ⟨fun y hy => ?_, ?_⟩
      · obtain ⟨t1, t2⟩ := rowP_ok hr ha hb hy
        have h1 := List.pairwise_map.1 (tiles_pair t1)
        refine List.Pairwise.imp_of_mem (fun {p q} hp hq h2 => ?_) h1
        have g1 := t2 p hp
        have g2 := t2 q hq
        have h3 := (tiles_in t1).2 (cols p) (List.mem_map.2 ⟨p, hp, rfl⟩)
        simp only [cols] at h2 h3
        unfold cmpV
        rw [if_pos (by rw [g1.1, g2.1])]
        omega
      · refine List.Pairwise.imp_of_mem (fun {y z} hy hz h2 => ?_) (tiles_pair hT)
        intro p hp q hq
        have g1 := (rowP_ok hr ha hb hy).2 p hp
        have g2 := (rowP_ok hr ha hb hz).2 q hq
        have h3 := (tiles_in hT).2 y hy
        unfold cmpV
        rw [if_neg (by rw [g1.1, g2.1]; omega)]
        rw [g1.1, g2.1]; omega
    intro i j x y hij hx hy
    rcases Nat.lt_or_ge i j with h | h
    · have := List.pairwise_iff_getElem.1 hpw i j (List.getElem?_eq_some_iff.1 hx).1 (List.getElem?_eq_some_iff.1 hy).1 h
      rw [(List.getElem?_eq_some_iff.1 hx).2, (List.getElem?_eq_some_iff.1 hy).2] at this
      exact this
    · have : i = j := by omega
      subst this
      rw [hx] at hy
      injection hy with hy
      subst hy
      unfold cmpV
      rw [if_pos rfl]; omega
end Go.Proofs.Ytfacimebfdeaeaa
