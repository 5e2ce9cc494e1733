/- Plain laws of the addresses at which two lists of rules differ, counted by the points that stand for all. No program in sight. -/
import Derived.Test.YtgljklggeopolaaCellMath
import Derived.Test.YtgljklggeopolaaOverMath
namespace Go.Proofs.Ytgljklggeopolaa

/-- The least number above c, M if there is none. -/
def minAbove (c M : Int) (xs : List Int) : Int := xs.foldl (fun m x => if c < x then min m x else m) M
theorem minAbove_spec (c : Int) : ∀ (xs : List Int) (M : Int), minAbove c M xs ≤ M ∧ (∀ x ∈ xs, c < x → minAbove c M xs ≤ x) ∧ (minAbove c M xs = M ∨ minAbove c M xs ∈ xs ∧ c < minAbove c M xs)
  | [], M => ⟨Int.le_refl _, fun x hx => (by cases hx), .inl rfl⟩
  | y :: xs, M => by
    have e : minAbove c M (y :: xs) = minAbove c (if c < y then min M y else M) xs := rfl
    obtain ⟨h1, h2, h3⟩ := minAbove_spec c xs (if c < y then min M y else M)
    rw [← e] at h1 h2 h3
    refine ⟨?_, fun x hx hc => ?_, ?_⟩
    · split at h1 <;> omega
    · rcases List.mem_cons.1 hx with rfl | hx
      · rw [if_pos hc] at h1; omega
      · exact h2 x hx hc
    · rcases h3 with h3 | ⟨h3, h4⟩
      · by_cases hy : c < y
        · rw [if_pos hy] at h3
          by_cases hm : M ≤ y
          · exact .inl (by omega)
          · have : minAbove c M (y :: xs) = y := by omega
            exact .inr ⟨by rw [this]; exact List.mem_cons_self .., by omega⟩
        · rw [if_neg hy] at h3; exact .inl h3
      · exact .inr ⟨List.mem_cons_of_mem _ h3, h4⟩
theorem minAbove_eq {c M v : Int} {xs : List Int} (h1 : v ≤ M) (h2 : ∀ x ∈ xs, c < x → v ≤ x) (h3 : v = M ∨ v ∈ xs ∧ c < v) : minAbove c M xs = v := by
  obtain ⟨g1, g2, g3⟩ := minAbove_spec c xs M
  rcases h3 with h3 | ⟨h3, h4⟩
  · rcases g3 with g3 | ⟨g3, g4⟩
    · omega
    · have := h2 _ g3 g4; omega
  · have := g2 _ h3 h4
    rcases g3 with g3 | ⟨g3, g4⟩
    · omega
    · have := h2 _ g3 g4; omega
theorem minAbove_snoc (c M x : Int) (xs : List Int) : minAbove c M (xs ++ [x]) = if c < x then min (minAbove c M xs) x else minAbove c M xs := by
  unfold minAbove; rw [List.foldl_append]; rfl

theorem bands_fst (hi : Int) : ∀ S : List Int, (bandsOf hi S).map (·.1) = S
  | [] => rfl
  | [_] => rfl
  | y :: z :: r => by rw [bandsOf, List.map_cons, bands_fst hi (z :: r)]
theorem bands_end {hi : Int} : ∀ {S : List Int}, S.Pairwise (· < ·) → (∀ c ∈ S, c ≤ hi) → ∀ p ∈ bandsOf hi S, p.1 ∈ S ∧ p.2 ≤ hi ∧ (p.2 = hi ∨ p.2 + 1 ∈ S ∧ p.1 < p.2 + 1)
  | [], _, _, p, hp => by cases hp
  | [u], _, h, p, hp => by
    simp only [bandsOf, List.mem_singleton] at hp
    subst hp
    exact ⟨List.mem_singleton.2 rfl, Int.le_refl _, .inl rfl⟩
  | u :: z :: L, hw, h, p, hp => by
    have hp' := List.pairwise_cons.1 hw
    rw [bandsOf] at hp
    rcases List.mem_cons.1 hp with rfl | hp
    · have h1 := hp'.1 z (List.mem_cons_self ..)
      have h2 := h z (List.mem_cons_of_mem _ (List.mem_cons_self ..))
      refine ⟨List.mem_cons_self .., by simp only; omega, .inr ⟨?_, by simp only; omega⟩⟩
      simp only [Int.sub_add_cancel]
      exact List.mem_cons_of_mem _ (List.mem_cons_self ..)
    · obtain ⟨h1, h2, h3⟩ := bands_end hp'.2 (fun c hc => h c (List.mem_cons_of_mem _ hc)) p hp
      exact ⟨List.mem_cons_of_mem _ h1, h2, h3.imp id fun ⟨a, b⟩ => ⟨List.mem_cons_of_mem _ a, b⟩⟩
theorem bands_next {hi : Int} {S xs : List Int} (hw : S.Pairwise (· < ·)) (h : ∀ c ∈ S, c ≤ hi) (hx : ∀ x, x ∈ xs ↔ x ∈ S) {p : Int × Int} (hp : p ∈ bandsOf hi S) : minAbove p.1 (hi + 1) xs = p.2 + 1 := by
  obtain ⟨h1, h2, h3⟩ := bands_end hw h p hp
  refine minAbove_eq (by omega) (fun x hxx hc => ?_) ?_
  · have := bands_free hw p hp x ((hx x).1 hxx); omega
  · rcases h3 with h3 | ⟨h3, h4⟩
    · exact .inl (by omega)
    · exact .inr ⟨(hx _).2 h3, h4⟩
theorem cuts_sorted (lo : Int) (bs : List Int) (n : Nat) : (cutsN lo bs n).Pairwise (· < ·) := by
  unfold cutsN
  refine List.Pairwise.filter _ (List.pairwise_map.2 ?_)
  exact List.pairwise_lt_range.imp fun h => by omega
theorem cuts_cons {lo hi : Int} (h : lo ≤ hi) (bs : List Int) : ∃ L, cutsL lo hi bs = lo :: L := by
  have hm : lo ∈ cutsL lo hi bs := mem_cuts.2 ⟨Int.le_refl _, h, .inl rfl⟩
  cases hc : cutsL lo hi bs with
  | nil => rw [hc] at hm; cases hm
  | cons u L =>
    have hs : (cutsL lo hi bs).Pairwise (· < ·) := cuts_sorted ..
    rw [hc] at hs hm
    rcases List.mem_cons.1 hm with e | hm
    · exact ⟨L, by rw [e]⟩
    · have h1 := (List.pairwise_cons.1 hs).1 lo hm
      have h2 := (mem_cuts.1 (hc ▸ List.mem_cons_self .. : u ∈ cutsL lo hi bs)).1
      omega
theorem cuts_tiles {lo hi : Int} (h : lo ≤ hi) (bs : List Int) : Tiles lo hi (bandsOf hi (cutsL lo hi bs)) := by
  obtain ⟨L, e⟩ := cuts_cons h bs
  have hs : (cutsL lo hi bs).Pairwise (· < ·) := cuts_sorted ..
  have hm : ∀ c ∈ cutsL lo hi bs, c ≤ hi := fun c hc => (mem_cuts.1 hc).2.1
  rw [e] at hs hm ⊢
  exact tiles_bands hs hm
theorem cuts_free {lo hi : Int} {bs : List Int} (h : lo ≤ hi) {p : Int × Int} (hp : p ∈ bandsOf hi (cutsL lo hi bs)) {c : Int} (hc : c ∈ bs) : ¬(p.1 < c ∧ c ≤ p.2) := by
  have ht := (tiles_in (cuts_tiles h bs)).2 p hp
  intro hh
  exact bands_free (cuts_sorted lo bs _) p hp c (mem_cuts.2 ⟨by omega, by omega, .inr hc⟩) hh

def difB (a b : List Rule) (x : Ref) : Bool := !decide ((atL a x).read = (atL b x).read)
def difT (r : Rect) (a b : List Rule) (L : List Ref) (q : Ref) : Int := if difB a b q then (minAbove q.col (r.c2 + 1) (L.map Ref.col) - q.col) * (minAbove q.row (r.r2 + 1) (L.map Ref.row) - q.row) else 0
def difN (r : Rect) (a b : List Rule) : Int := ((pointsL r (a ++ b)).map (difT r a b (pointsL r (a ++ b)))).sum
theorem cnt_band {P : Ref → Bool} {c1 c2 : Int} {y : Int × Int} {C : List (Int × Int)} (h : Tiles c1 c2 C) : sumZ (fun v => sumZ (fun x => if P ⟨x, v⟩ then 1 else 0) c1 c2) y.1 y.2 = (C.map fun x => cnt P ⟨x.1, y.1, x.2, y.2⟩).sum := by
  rw [show (fun v => sumZ (fun x => if P ⟨x, v⟩ then 1 else 0) c1 c2) = fun v => (C.map fun p => sumZ (fun x => if P ⟨x, v⟩ then (1 : Int) else 0) p.1 p.2).sum from funext fun v => tiles_sum _ h]
  rw [sumZ_list (fun (p : Int × Int) v => sumZ (fun x => if P ⟨x, v⟩ then (1 : Int) else 0) p.1 p.2)]
  rfl
theorem difB_congr {a b : List Rule} {x y : Ref} (h : ∀ q ∈ a ++ b, hasB q.rect x = hasB q.rect y) : difB a b x = difB a b y := by
  unfold difB atL
  rw [lastN_congr fun q hq => h q (List.mem_append_left _ hq), lastN_congr fun q hq => h q (List.mem_append_right _ hq)]
/-- What the points stand for is counted once. -/
theorem difN_cnt {r : Rect} (hr : rectOk r = true) (a b : List Rule) : difN r a b = cnt (difB a b) r := by
  have ho := ok_iff.1 hr
  have tR := cuts_tiles (lo := r.r1) (hi := r.r2) (by omega) (rowsOf (a ++ b))
  have tC := cuts_tiles (lo := r.c1) (hi := r.c2) (by omega) (colsOf (a ++ b))
  unfold cnt
  rw [tiles_sum _ tR]
  unfold difN
  have hpts : pointsL r (a ++ b) = (bandsOf r.r2 (cutsL r.r1 r.r2 (rowsOf (a ++ b)))).flatMap fun y => (bandsOf r.c2 (cutsL r.c1 r.c2 (colsOf (a ++ b)))).map fun x => (⟨x.1, y.1⟩ : Ref) := by
    unfold pointsL
    conv => lhs; rw [← bands_fst r.r2 (cutsL r.r1 r.r2 (rowsOf (a ++ b))), ← bands_fst r.c2 (cutsL r.c1 r.c2 (colsOf (a ++ b)))]
    rw [List.flatMap_map]
    simp only [List.map_map]
    rfl
  have hrow : ∀ v, v ∈ (pointsL r (a ++ b)).map Ref.row ↔ v ∈ cutsL r.r1 r.r2 (rowsOf (a ++ b)) := fun v => by
    obtain ⟨L, e⟩ := cuts_cons (show r.c1 ≤ r.c2 by omega) (colsOf (a ++ b))
    constructor
    · intro h
      obtain ⟨q, hq, rfl⟩ := List.mem_map.1 h
      obtain ⟨c, hc, hq⟩ := List.mem_flatMap.1 hq
      obtain ⟨d, hd, rfl⟩ := List.mem_map.1 hq
      exact hc
    · intro h
      exact List.mem_map.2 ⟨⟨r.c1, v⟩, List.mem_flatMap.2 ⟨v, h, List.mem_map.2 ⟨r.c1, by rw [e]; exact List.mem_cons_self .., rfl⟩⟩, rfl⟩
  have hcol : ∀ v, v ∈ (pointsL r (a ++ b)).map Ref.col ↔ v ∈ cutsL r.c1 r.c2 (colsOf (a ++ b)) := fun v => by
    obtain ⟨L, e⟩ := cuts_cons (show r.r1 ≤ r.r2 by omega) (rowsOf (a ++ b))
    constructor
    · intro h
      obtain ⟨q, hq, rfl⟩ := List.mem_map.1 h
      obtain ⟨c, hc, hq⟩ := List.mem_flatMap.1 hq
      obtain ⟨d, hd, rfl⟩ := List.mem_map.1 hq
      exact hd
    · intro h
      exact List.mem_map.2 ⟨⟨v, r.r1⟩, List.mem_flatMap.2 ⟨r.r1, by rw [e]; exact List.mem_cons_self .., List.mem_map.2 ⟨v, h, rfl⟩⟩, rfl⟩
  generalize hT : difT r a b (pointsL r (a ++ b)) = T
  rw [hpts, sum_flat]
  refine congrArg List.sum (List.map_congr_left fun y hy => ?_)
  rw [cnt_band tC, List.map_map]
  refine congrArg List.sum (List.map_congr_left fun x hx => ?_)
  have hx1 := (tiles_in tC).2 x hx
  have hy1 := (tiles_in tR).2 y hy
  have hcell : ∀ pt, hasB ⟨x.1, y.1, x.2, y.2⟩ pt = true → difB a b pt = difB a b ⟨x.1, y.1⟩ := fun pt hpt => difB_congr fun q hq => by
    have hp := has_iff.1 hpt
    simp only at hp
    have f1 := cuts_free (show r.c1 ≤ r.c2 by omega) hx (List.mem_flatMap.2 ⟨q, hq, by simp⟩ : q.rect.c1 ∈ colsOf (a ++ b))
    have f2 := cuts_free (show r.c1 ≤ r.c2 by omega) hx (List.mem_flatMap.2 ⟨q, hq, by simp⟩ : q.rect.c2 + 1 ∈ colsOf (a ++ b))
    have f3 := cuts_free (show r.r1 ≤ r.r2 by omega) hy (List.mem_flatMap.2 ⟨q, hq, by simp⟩ : q.rect.r1 ∈ rowsOf (a ++ b))
    have f4 := cuts_free (show r.r1 ≤ r.r2 by omega) hy (List.mem_flatMap.2 ⟨q, hq, by simp⟩ : q.rect.r2 + 1 ∈ rowsOf (a ++ b))
    rw [Bool.eq_iff_iff, has_iff, has_iff]
    simp only
    omega
  rw [cnt_const (b := difB a b ⟨x.1, y.1⟩) (by simp only; omega) (by simp only; omega) hcell]
  show T ⟨x.1, y.1⟩ = _
  rw [← hT]
  unfold difT
  rw [show minAbove (Ref.mk x.1 y.1).col (r.c2 + 1) ((pointsL r (a ++ b)).map Ref.col) = x.2 + 1 from bands_next (cuts_sorted ..) (fun c hc => (mem_cuts.1 hc).2.1) hcol hx,
    show minAbove (Ref.mk x.1 y.1).row (r.r2 + 1) ((pointsL r (a ++ b)).map Ref.row) = y.2 + 1 from bands_next (cuts_sorted ..) (fun c hc => (mem_cuts.1 hc).2.1) hrow hy]
  cases difB a b ⟨x.1, y.1⟩
  · simp
  · rw [if_pos rfl, if_pos rfl]
    show (x.2 + 1 - x.1) * (y.2 + 1 - y.1) = (x.2 - x.1 + 1) * (y.2 - y.1 + 1)
    rw [show x.2 + 1 - x.1 = x.2 - x.1 + 1 by omega, show y.2 + 1 - y.1 = y.2 - y.1 + 1 by omega]
def difP (a b : List Rule) (p : Part) : Bool := !decide ((rightsOf a p).read = (((b[p.which.2.toNat]?).map Rule.rights).getD noRights).read)
theorem difP_eq {r : Rect} (hr : rectOk r = true) {a b : List Rule} (ha : ∀ y ∈ a, rectOk y.rect = true) (hb : ∀ y ∈ b, rectOk y.rect = true) {p : Part} (hp : p ∈ partsL r a b) {x : Ref} (hx : hasB p.r x = true) : difB a b x = difP a b p := by
  obtain ⟨e1, e2⟩ := ((parts_spec hr ha hb).1 p hp).2.1 x hx
  unfold difB difP rightsOf atL
  rw [← e1, ← e2, Int.toNat_natCast, Int.toNat_natCast]
theorem sum_filter {α : Type} (f : α → Int) (D : α → Bool) : ∀ l : List α, ((l.filter D).map f).sum = (l.map fun p => if D p then f p else 0).sum
  | [] => rfl
  | p :: l => by
    rw [List.filter_cons, List.map_cons, List.sum_cons, ← sum_filter f D l]
    cases D p
    · simp
    · simp
/-- The parts at which they differ have all addresses at which they differ. -/
theorem difP_area {r : Rect} (hr : rectOk r = true) {a b : List Rule} (ha : ∀ y ∈ a, rectOk y.rect = true) (hb : ∀ y ∈ b, rectOk y.rect = true) : areaS (((partsL r a b).filter (difP a b)).map Part.r) = difN r a b := by
  rw [difN_cnt hr, parts_cnt hr ha hb, areaS, List.map_map, sum_filter]
  refine congrArg List.sum (List.map_congr_left fun p hp => ?_)
  have ho := ok_iff.1 ((parts_spec hr ha hb).1 p hp).1
  rw [cnt_const (b := difP a b p) (by omega) (by omega) fun x hx => difP_eq hr ha hb hp hx]
  rfl
end Go.Proofs.Ytgljklggeopolaa
