/- Components, loops, the condensed graph. No condition. -/
import Derived.Test.YtfokjpmcifkoeaaWars
namespace Go.Proofs.Ytfokjpmcifkoeaa.Scc
/-! ### components, loops, the condensed graph -/
def sameC (g : G) (i k : Nat) : Bool := i == k || (R g i k && R g k i)
def isLead (g : G) (i : Nat) : Bool := (List.range i).all fun j => !sameC g j i
def leads (g : G) : List Nat := (List.range g.length).filter (isLead g)
def classOf (g : G) (i : Nat) : List Nat := (List.range g.length).filter (sameC g i)
/-- The components, each in ascending order, by their least nodes. -/
def comps (g : G) : List (List Nat) := (leads g).map (classOf g)
def loopsN (g : G) : List Nat := (List.range g.length).filter fun i => R g i i
/-- The number of a node's component. -/
def ofN (g : G) (k : Nat) : Nat := (comps g).findIdx fun c => decide (k ∈ c)
def condRow (g : G) (a : Nat) : List Nat := (List.range (comps g).length).filter fun b => b != a && ((comps g).getD a []).any fun i => (g.getD i []).any fun k => ofN g k == b
def condN (g : G) : List (List Nat) := (List.range (comps g).length).map (condRow g)
set_option maxRecDepth 100000 in
theorem pw_ext {α : Type} {lt : α → α → Prop} (h1 : ∀ a, ¬lt a a) (h2 : ∀ a b, lt a b → ¬lt b a) : ∀ {l l' : List α}, l.Pairwise lt → l'.Pairwise lt → (∀ x, x ∈ l ↔ x ∈ l') → l = l'
  | [], [], _, _, _ => rfl
  | [], b :: l', _, _, h => absurd ((h b).2 (List.mem_cons_self ..)) (by simp)
  | a :: l, [], _, _, h => absurd ((h a).1 (List.mem_cons_self ..)) (by simp)
  | a :: l, b :: l', hl, hl', h => by
    have hl := List.pairwise_cons.1 hl
    have hl' := List.pairwise_cons.1 hl'
    have hab : a = b := by
      rcases List.mem_cons.1 ((h a).1 (List.mem_cons_self ..)) with e | ha
      · exact e
      · rcases List.mem_cons.1 ((h b).2 (List.mem_cons_self ..)) with e | hb
        · exact e.symm
        · exact absurd (hl'.1 a ha) (h2 _ _ (hl.1 b hb))
    subst hab
    congr 1
    refine pw_ext h1 h2 hl.2 hl'.2 fun x => ?_
    constructor
    · intro hx
      rcases List.mem_cons.1 ((h x).1 (List.mem_cons_of_mem _ hx)) with e | h'
      · subst e; exact absurd (hl.1 x hx) (h1 x)
      · exact h'
    · intro hx
      rcases List.mem_cons.1 ((h x).2 (List.mem_cons_of_mem _ hx)) with e | h'
      · subst e; exact absurd (hl'.1 x hx) (h1 x)
      · exact h'
set_option maxRecDepth 100000 in
theorem lt_ext {l l' : List Nat} (h : l.Pairwise (· < ·)) (h' : l'.Pairwise (· < ·)) (hm : ∀ x, x ∈ l ↔ x ∈ l') : l = l' := pw_ext (fun _ => Nat.lt_irrefl _) (fun _ _ h => Nat.lt_asymm h) h h' hm
set_option maxRecDepth 100000 in
theorem range_lt (n : Nat) : (List.range n).Pairwise (· < ·) := List.pairwise_lt_range
section
variable {g : G} (hg : GOk g)
include hg
set_option maxRecDepth 100000 in
theorem same_iff (i k : Nat) : sameC g i k = true ↔ Reach g i k ∧ Reach g k i := by
  unfold sameC
  rw [Bool.or_eq_true, Bool.and_eq_true, R_iff hg, R_iff hg, reach_iff, reach_iff, beq_iff_eq]
  constructor
  · rintro (rfl | ⟨h1, h2⟩)
    · exact ⟨.inl rfl, .inl rfl⟩
    · exact ⟨.inr h1, .inr h2⟩
  · rintro ⟨h1, h2⟩
    rcases h1 with h1 | h1
    · exact .inl h1
    · rcases h2 with h2 | h2
      · exact .inl h2.symm
      · exact .inr ⟨h1, h2⟩
set_option maxRecDepth 100000 in
theorem same_symm {i k : Nat} (h : sameC g i k = true) : sameC g k i = true := (same_iff hg _ _).2 ((same_iff hg _ _).1 h).symm
set_option maxRecDepth 100000 in
theorem same_trans {i j k : Nat} (h : sameC g i j = true) (h' : sameC g j k = true) : sameC g i k = true := by
  rw [same_iff hg] at *
  exact ⟨h.1.trans h'.1, h'.2.trans h.2⟩
set_option maxRecDepth 100000 in
theorem same_refl (i : Nat) : sameC g i i = true := (same_iff hg _ _).2 ⟨.refl _, .refl _⟩
set_option maxRecDepth 100000 in
theorem reach_lt {i k : Nat} (h : Reach g i k) (hi : i < g.length) : k < g.length := by
  cases h with
  | refl => exact hi
  | tail _ e => exact hg _ _ e
set_option maxRecDepth 100000 in
theorem same_lt {i k : Nat} (h : sameC g i k = true) (hi : i < g.length) : k < g.length := reach_lt hg ((same_iff hg _ _).1 h).1 hi
set_option maxRecDepth 100000 in
theorem mem_class {i k : Nat} (hi : i < g.length) : k ∈ classOf g i ↔ sameC g i k = true := by
  unfold classOf
  rw [List.mem_filter, List.mem_range]
  exact ⟨fun h => h.2, fun h => ⟨same_lt hg h hi, h⟩⟩
omit hg in
set_option maxRecDepth 100000 in
theorem mem_leads {i : Nat} : i ∈ leads g ↔ i < g.length ∧ ∀ j, j < i → sameC g j i = false := by
  unfold leads isLead
  rw [List.mem_filter, List.mem_range, List.all_eq_true]
  simp only [List.mem_range, Bool.not_eq_true']
set_option maxRecDepth 100000 in
theorem exists_lead : ∀ i, i < g.length → ∃ j, j ∈ leads g ∧ sameC g j i = true := by
  intro i
  induction i using Nat.strongRecOn with
  | _ i ih =>
    intro hi
    by_cases h : ∀ j, j < i → sameC g j i = false
    · exact ⟨i, mem_leads.2 ⟨hi, h⟩, same_refl hg i⟩
    · have h : ∃ j, ¬(j < i → sameC g j i = false) := Classical.not_forall.1 h
      obtain ⟨j, hj⟩ := h
      have hj : j < i ∧ sameC g j i = true := by
        constructor
        · exact Classical.byContradiction fun h => hj fun h' => absurd h' h
        · cases hs : sameC g j i with
          | true => rfl
          | false => exact absurd (fun _ => hs) hj
      obtain ⟨q, hq, hs⟩ := ih j hj.1 (by omega)
      exact ⟨q, hq, same_trans hg hs hj.2⟩
set_option maxRecDepth 100000 in
theorem class_head {i : Nat} (hi : i ∈ leads g) : ∃ t, classOf g i = i :: t := by
  have hl := mem_leads.1 hi
  have hm : i ∈ classOf g i := (mem_class hg hl.1).2 (same_refl hg i)
  have hp : (classOf g i).Pairwise (· < ·) := (range_lt _).filter _
  cases hc : classOf g i with
  | nil => rw [hc] at hm; cases hm
  | cons a t =>
    rw [hc] at hm hp
    rcases List.mem_cons.1 hm with rfl | ht
    · exact ⟨t, rfl⟩
    · have h1 := (List.pairwise_cons.1 hp).1 i ht
      have h2 : a ∈ classOf g i := by rw [hc]; exact List.mem_cons_self ..
      have h3 := same_symm hg ((mem_class hg hl.1).1 h2)
      rw [hl.2 a h1] at h3
      cases h3
set_option maxRecDepth 100000 in
theorem class_eq {i k : Nat} (hi : i < g.length) (h : sameC g i k = true) : classOf g i = classOf g k := by
  refine lt_ext ((range_lt _).filter _) ((range_lt _).filter _) fun x => ?_
  show x ∈ classOf g i ↔ x ∈ classOf g k
  rw [mem_class hg hi, mem_class hg (same_lt hg h hi)]
  exact ⟨fun h' => same_trans hg (same_symm hg h) h', fun h' => same_trans hg h h'⟩
set_option maxRecDepth 100000 in
theorem comps_heads : (comps g).Pairwise fun a b => a.headD 0 < b.headD 0 := by
  unfold comps
  rw [List.pairwise_map]
  refine ((range_lt _).filter _).imp_of_mem fun {a b} ha hb h => ?_
  obtain ⟨t, ht⟩ := class_head hg ha
  obtain ⟨u, hu⟩ := class_head hg hb
  rw [ht, hu]; exact h
set_option maxRecDepth 100000 in
/-- Sorted by their least nodes, the parts of a search are the components. -/
theorem comps_of {out l : List (List Nat)} (hp : l.Perm out) (hs : l.Pairwise fun a b => a.headD 0 ≤ b.headD 0) (h1 : ∀ p ∈ out, p ≠ [] ∧ p.Pairwise (· < ·) ∧ ∀ x ∈ p, ∀ y, y ∈ p ↔ (Reach g x y ∧ Reach g y x)) (h2 : out.Pairwise fun p q => ∀ x ∈ p, x ∉ q) (h3 : ∀ x, (∃ p ∈ out, x ∈ p) ↔ x < g.length) : l = comps g := by
  have hd : l.Pairwise fun p q => ∀ x ∈ p, x ∉ q := (hp.pairwise_iff (fun {a b} h x hx hx' => h x hx' hx)).2 h2
  have hin : ∀ {p}, p ∈ l → p ∈ out := fun h => hp.mem_iff.1 h
  have hlt : l.Pairwise fun a b => a.headD 0 < b.headD 0 := by
    refine (hs.and hd).imp_of_mem fun {a b} ha hb h => ?_
    obtain ⟨hne, _, _⟩ := h1 a (hin ha)
    obtain ⟨hne', _, _⟩ := h1 b (hin hb)
    cases a with
    | nil => exact absurd rfl hne
    | cons x t =>
      cases b with
      | nil => exact absurd rfl hne'
      | cons y u =>
        have hle : x ≤ y := h.1
        show x < y
        rcases Nat.lt_or_ge x y with h' | h'
        · exact h'
        · exact absurd (show x ∈ y :: u by rw [show x = y by omega]; exact List.mem_cons_self ..) (h.2 x (List.mem_cons_self ..))
  refine pw_ext (lt := fun a b : List Nat => a.headD 0 < b.headD 0) (fun _ => Nat.lt_irrefl _) (fun _ _ h => Nat.lt_asymm h) hlt (comps_heads hg) fun p => ?_
  have key : ∀ p ∈ out, ∃ i, i ∈ leads g ∧ p = classOf g i := by
    intro p hpo
    obtain ⟨hne, hpw, hm⟩ := h1 p hpo
    cases p with
    | nil => exact absurd rfl hne
    | cons x t =>
      have hx : x < g.length := (h3 x).1 ⟨_, hpo, List.mem_cons_self ..⟩
      have hcl : ∀ y, y ∈ x :: t ↔ sameC g x y = true := fun y => by rw [hm x (List.mem_cons_self ..), same_iff hg]
      refine ⟨x, mem_leads.2 ⟨hx, fun j hj => ?_⟩, lt_ext hpw ((range_lt _).filter _) fun y => ?_⟩
      · cases hs : sameC g j x with
        | false => rfl
        | true =>
          have := (hcl j).2 (same_symm hg hs)
          rcases List.mem_cons.1 this with rfl | ht
          · omega
          · have := (List.pairwise_cons.1 hpw).1 j ht
            omega
      · rw [hcl]; exact (mem_class hg hx).symm
  constructor
  · intro h
    obtain ⟨i, hi, rfl⟩ := key p (hin h)
    exact List.mem_map_of_mem hi
  · intro h
    obtain ⟨i, hi, rfl⟩ := List.mem_map.1 h
    have hil := mem_leads.1 hi
    obtain ⟨p, hpo, hip⟩ := (h3 i).2 hil.1
    obtain ⟨j, hj, rfl⟩ := key p hpo
    have hjl := mem_leads.1 hj
    rw [class_eq hg hjl.1 ((mem_class hg hjl.1).1 hip)] at hpo
    exact hp.mem_iff.2 hpo
end
/-! ### the whole search -/
def start (g : G) : TS := ⟨List.replicate g.length 0, List.replicate g.length 0, List.replicate g.length false, [], [], 0⟩
def stepF (g : G) (s : TS) (i : Nat) : TS := if s.N i = 0 then enterF g g.length i s else s
def upTo (g : G) (m : Nat) : TS := (List.range m).foldl (stepF g) (start g)
set_option maxRecDepth 100000 in
theorem upTo_succ (g : G) (m : Nat) : upTo g (m + 1) = stepF g (upTo g m) m := by simp [upTo, List.range_succ]
set_option maxRecDepth 100000 in
theorem start_inv (g : G) : Inv g [] (start g) := by
  have hN : ∀ x, (start g).N x = 0 := fun x => by
    unfold TS.N start
    simp only [List.getD_eq_getElem?_getD, List.getElem?_replicate]
    split <;> rfl
  refine ⟨by simp [start], by simp [start], by simp [start], fun x => by rw [hN]; exact Nat.zero_le _, by simp [start], Nat.le_refl _, (fun x hx => by cases hx), fun x _ => ?_, .nil, .nil, fun x => ?_, (fun p hp => by cases hp), .nil, fun x y h => absurd (hN x) h, fun x y h => absurd (hN x) h, (fun y hy => by cases hy), (fun x hx => by cases hx)⟩
  · show (start g).O x = true ↔ x ∈ []
    unfold TS.O start
    simp only [List.getD_eq_getElem?_getD, List.getElem?_replicate]
    split <;> simp
  · rw [hN]; simp [start]
set_option maxRecDepth 100000 in
theorem upTo_inv {g : G} (hg : GOk g) : ∀ m, m ≤ g.length → Inv g [] (upTo g m) ∧ ∀ i, i < m → (upTo g m).N i ≠ 0
  | 0, _ => ⟨start_inv g, fun i hi => absurd hi (Nat.not_lt_zero _)⟩
  | m + 1, hm => by
    obtain ⟨h1, h2⟩ := upTo_inv hg m (by omega)
    rw [upTo_succ]
    unfold stepF
    by_cases h0 : (upTo g m).N m = 0
    · rw [if_pos h0]
      have hP := enter_spec hg g.length [] (upTo g m) m h1 (by omega) h0 (fun x hx => by cases hx) (by omega)
      refine ⟨hP.inv, fun i hi => ?_⟩
      by_cases e : i = m
      · subst e; exact hP.vis
      · have := h2 i (by omega)
        rw [hP.keepN i this]; exact this
    · rw [if_neg h0]
      refine ⟨h1, fun i hi => ?_⟩
      by_cases e : i = m
      · subst e; exact h0
      · exact h2 i (by omega)
set_option maxRecDepth 100000 in
theorem stack_nil {g : G} {s : TS} (h : Inv g [] s) : s.stack = [] := by
  cases hs : s.stack with
  | nil => rfl
  | cons y l =>
    obtain ⟨x, hx, _⟩ := h.back y (by rw [hs]; exact List.mem_cons_self ..)
    cases hx
set_option maxRecDepth 100000 in
/-- What the search finds, sorted, are the components. -/
theorem search_comps {g : G} (hg : GOk g) {l : List (List Nat)} (hp : l.Perm (upTo g g.length).out) (hs : l.Pairwise fun a b => a.headD 0 ≤ b.headD 0) : l = comps g := by
  obtain ⟨h1, h2⟩ := upTo_inv hg g.length (Nat.le_refl _)
  refine comps_of hg hp hs h1.scc h1.disj fun x => ?_
  rw [h1.outs, stack_nil h1]
  constructor
  · rintro ⟨h, _⟩; exact N_lt h1 h
  · intro h; exact ⟨h2 x h, by simp⟩
end Go.Proofs.Ytfokjpmcifkoeaa.Scc
