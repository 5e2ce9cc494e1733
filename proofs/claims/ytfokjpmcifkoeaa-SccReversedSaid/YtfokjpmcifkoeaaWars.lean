/- The matrix of what reaches what. No condition. -/
import Derived.Test.YtfokjpmcifkoeaaTarjan
namespace Go.Proofs.Ytfokjpmcifkoeaa.Scc
/-! ### the reference's matrix -/
def gB (M : List (List Bool)) (i k : Nat) : Bool := (M.getD i []).getD k false
def setB (M : List (List Bool)) (i k : Nat) (b : Bool) : List (List Bool) := M.set i ((M.getD i []).set k b)
def upd (via i k : Nat) (M : List (List Bool)) : List (List Bool) := setB M i k (gB M i k || gB M i via && gB M via k)
def rowF (via i m : Nat) (M : List (List Bool)) : List (List Bool) := (List.range m).foldl (fun M k => upd via i k M) M
def rowsF (n via m : Nat) (M : List (List Bool)) : List (List Bool) := (List.range m).foldl (fun M i => rowF via i n M) M
def viaF (n m : Nat) (M : List (List Bool)) : List (List Bool) := (List.range m).foldl (fun M via => rowsF n via n M) M
def initRow (n : Nat) (row : List Nat) : List Bool := row.foldl (fun r k => r.set k true) (List.replicate n false)
def initM (g : G) : List (List Bool) := g.map (initRow g.length)
def reachM (g : G) : List (List Bool) := viaF g.length g.length (initM g)
/-- Does i reach k by one edge or more? -/
def R (g : G) (i k : Nat) : Bool := gB (reachM g) i k
set_option maxRecDepth 100000 in
theorem rowF_succ (via i m : Nat) (M : List (List Bool)) : rowF via i (m + 1) M = upd via i m (rowF via i m M) := by simp [rowF, List.range_succ]
set_option maxRecDepth 100000 in
theorem rowsF_succ (n via m : Nat) (M : List (List Bool)) : rowsF n via (m + 1) M = rowF via m n (rowsF n via m M) := by simp [rowsF, List.range_succ]
set_option maxRecDepth 100000 in
theorem viaF_succ (n m : Nat) (M : List (List Bool)) : viaF n (m + 1) M = rowsF n m n (viaF n m M) := by simp [viaF, List.range_succ]
structure Dim (n : Nat) (M : List (List Bool)) : Prop where
  len : M.length = n
  row : ∀ r ∈ M, r.length = n
set_option maxRecDepth 100000 in
theorem Dim.get {n : Nat} {M : List (List Bool)} (h : Dim n M) {i : Nat} (hi : i < n) : (M.getD i []).length = n := by
  rw [List.getD_eq_getElem?_getD, List.getElem?_eq_getElem (h.len.symm ▸ hi)]
  exact h.row _ (List.getElem_mem ..)
set_option maxRecDepth 100000 in
theorem Dim.set {n : Nat} {M : List (List Bool)} (h : Dim n M) {i : Nat} (hi : i < n) (k : Nat) (b : Bool) : Dim n (setB M i k b) :=
  ⟨(List.length_set ..).trans h.len, fun r hr => by
    rcases List.mem_or_eq_of_mem_set hr with hr | rfl
    · exact h.row r hr
    · rw [List.length_set]; exact h.get hi⟩
set_option maxRecDepth 100000 in
theorem gB_set {n : Nat} {M : List (List Bool)} (h : Dim n M) {i k : Nat} (hi : i < n) (hk : k < n) (b : Bool) (i' k' : Nat) : gB (setB M i k b) i' k' = if i' = i ∧ k' = k then b else gB M i' k' := by
  unfold gB setB
  rw [getD_set _ _ _ _ _ (h.len.symm ▸ hi)]
  by_cases e : i' = i
  · subst e
    rw [if_pos rfl, getD_set _ _ _ _ _ (by rw [h.get hi]; exact hk)]
    by_cases e2 : k' = k <;> simp [e2]
  · simp [e]
/-- At least one edge. -/
def Path1 (g : G) (i k : Nat) : Prop := ∃ j, edge g i j ∧ Reach g j k
set_option maxRecDepth 100000 in
theorem Path1.trans {g : G} {i j k : Nat} (h : Path1 g i j) (h' : Path1 g j k) : Path1 g i k := by
  obtain ⟨a, e, r⟩ := h
  obtain ⟨b, e', r'⟩ := h'
  exact ⟨a, e, r.trans ((Reach.edge e').trans r')⟩
set_option maxRecDepth 100000 in
theorem reach_iff {g : G} {i k : Nat} : Reach g i k ↔ i = k ∨ Path1 g i k := by
  constructor
  · intro h
    induction h with
    | refl => exact .inl rfl
    | tail h e ih =>
      rcases ih with rfl | ⟨a, e', r⟩
      · exact .inr ⟨_, e, .refl _⟩
      · exact .inr ⟨a, e', r.tail e⟩
  · rintro (rfl | ⟨a, e, r⟩)
    · exact .refl _
    · exact (Reach.edge e).trans r
inductive PathLt (g : G) (m : Nat) : Nat → Nat → Prop
  | edge {i k : Nat} (e : edge g i k) : PathLt g m i k
  | cons {i j k : Nat} (e : Go.Proofs.Ytfokjpmcifkoeaa.Scc.edge g i j) (hj : j < m) (p : PathLt g m j k) : PathLt g m i k
set_option maxRecDepth 100000 in
theorem PathLt.split {g : G} {m i k : Nat} (h : PathLt g (m + 1) i k) : PathLt g m i k ∨ (PathLt g m i m ∧ PathLt g m m k) := by
  induction h with
  | edge e => exact .inl (.edge e)
  | @cons i j k e hj p ih =>
    by_cases hjm : j = m
    · subst hjm
      rcases ih with ih | ⟨_, ih⟩
      · exact .inr ⟨.edge e, ih⟩
      · exact .inr ⟨.edge e, ih⟩
    · have hj' : j < m := by omega
      rcases ih with ih | ⟨ih1, ih2⟩
      · exact .inl (.cons e hj' ih)
      · exact .inr ⟨.cons e hj' ih1, ih2⟩
set_option maxRecDepth 100000 in
theorem path_lt {g : G} (hg : GOk g) {i k : Nat} (h : Path1 g i k) : PathLt g g.length i k := by
  obtain ⟨j, e, r⟩ := h
  have key : ∀ {j k : Nat}, Reach g j k → ∀ i, edge g i j → PathLt g g.length i k := by
    intro j k r
    induction r with
    | refl => exact fun i e => .edge e
    | @tail j' k' r e' ih =>
      intro i e
      have := ih i e
      clear ih r e
      induction this with
      | edge e0 => exact .cons e0 (hg _ _ e0) (.edge e')
      | cons e0 hj p ih => exact .cons e0 hj (ih e')
  exact key r i e
set_option maxRecDepth 100000 in
theorem PathLt.lt {g : G} (hg : GOk g) {m i k : Nat} (h : PathLt g m i k) : k < g.length := by
  induction h with
  | edge e => exact hg _ _ e
  | cons _ _ _ ih => exact ih
structure Good (g : G) (M : List (List Bool)) : Prop where
  dim : Dim g.length M
  sound : ∀ i k, gB M i k = true → Path1 g i k
def LeM (M M' : List (List Bool)) : Prop := ∀ i k, gB M i k = true → gB M' i k = true
set_option maxRecDepth 100000 in
theorem upd_good {g : G} {M : List (List Bool)} (h : Good g M) {via i k : Nat} (hi : i < g.length) (hk : k < g.length) : Good g (upd via i k M) ∧ LeM M (upd via i k M) ∧ ((gB M i via && gB M via k) = true → gB (upd via i k M) i k = true) := by
  have hs := gB_set h.dim hi hk (gB M i k || gB M i via && gB M via k)
  refine ⟨⟨h.dim.set hi _ _, fun i' k' he => ?_⟩, fun i' k' he => ?_, fun he => ?_⟩
  · unfold upd at he
    rw [hs] at he
    split at he
    · rename_i e
      obtain ⟨rfl, rfl⟩ := e
      rw [Bool.or_eq_true, Bool.and_eq_true] at he
      rcases he with he | ⟨h1, h2⟩
      · exact h.sound _ _ he
      · exact (h.sound _ _ h1).trans (h.sound _ _ h2)
    · exact h.sound _ _ he
  · unfold upd
    rw [hs]
    split
    · rename_i e
      obtain ⟨rfl, rfl⟩ := e
      rw [he]; rfl
    · exact he
  · unfold upd
    rw [hs, if_pos ⟨rfl, rfl⟩, he, Bool.or_true]
set_option maxRecDepth 100000 in
theorem rowF_good {g : G} {M : List (List Bool)} (h : Good g M) {via i : Nat} (hi : i < g.length) : ∀ m, m ≤ g.length → Good g (rowF via i m M) ∧ LeM M (rowF via i m M) ∧ ∀ k, k < m → (gB M i via && gB M via k) = true → gB (rowF via i m M) i k = true
  | 0, _ => ⟨h, fun _ _ h => h, fun k hk => absurd hk (Nat.not_lt_zero _)⟩
  | m + 1, hm => by
    obtain ⟨h1, h2, h3⟩ := rowF_good h (via := via) hi m (by omega)
    obtain ⟨q1, q2, q3⟩ := upd_good h1 (via := via) hi (k := m) (by omega)
    rw [rowF_succ]
    refine ⟨q1, fun a b hab => q2 a b (h2 a b hab), fun k hk he => ?_⟩
    by_cases e : k = m
    · subst e
      refine q3 ?_
      rw [Bool.and_eq_true] at he ⊢
      exact ⟨h2 _ _ he.1, h2 _ _ he.2⟩
    · exact q2 _ _ (h3 k (by omega) he)
set_option maxRecDepth 100000 in
theorem rowsF_good {g : G} {M : List (List Bool)} (h : Good g M) {via : Nat} : ∀ m, m ≤ g.length → Good g (rowsF g.length via m M) ∧ LeM M (rowsF g.length via m M) ∧ ∀ i k, i < m → k < g.length → (gB M i via && gB M via k) = true → gB (rowsF g.length via m M) i k = true
  | 0, _ => ⟨h, fun _ _ h => h, fun i k hi => absurd hi (Nat.not_lt_zero _)⟩
  | m + 1, hm => by
    obtain ⟨h1, h2, h3⟩ := rowsF_good h (via := via) m (by omega)
    obtain ⟨q1, q2, q3⟩ := rowF_good h1 (via := via) (i := m) (by omega) g.length (Nat.le_refl _)
    rw [rowsF_succ]
    refine ⟨q1, fun a b hab => q2 a b (h2 a b hab), fun i k hi hk he => ?_⟩
    by_cases e : i = m
    · subst e
      refine q3 k hk ?_
      rw [Bool.and_eq_true] at he ⊢
      exact ⟨h2 _ _ he.1, h2 _ _ he.2⟩
    · exact q2 _ _ (h3 i k (by omega) hk he)
set_option maxRecDepth 100000 in
theorem viaF_good {g : G} {M : List (List Bool)} (h : Good g M) (he : ∀ i k, edge g i k → gB M i k = true) (hg : GOk g) : ∀ m, m ≤ g.length → Good g (viaF g.length m M) ∧ ∀ i k, PathLt g m i k → gB (viaF g.length m M) i k = true
  | 0, _ => ⟨h, fun i k hp => by
      cases hp with
      | edge e => exact he i k e
      | cons _ hj _ => exact absurd hj (Nat.not_lt_zero _)⟩
  | m + 1, hm => by
    obtain ⟨h1, h2⟩ := viaF_good h he hg m (by omega)
    obtain ⟨q1, q2, q3⟩ := rowsF_good h1 (via := m) g.length (Nat.le_refl _)
    rw [viaF_succ]
    refine ⟨q1, fun i k hp => ?_⟩
    rcases hp.split with hp | ⟨hp1, hp2⟩
    · exact q2 _ _ (h2 i k hp)
    · have g1 := h2 _ _ hp1
      have g2 := h2 _ _ hp2
      have hi : i < g.length := by
        cases hp1 with
        | edge e => exact edge_lt e
        | cons e _ _ => exact edge_lt e
      have hk : k < g.length := hp2.lt hg
      exact q3 i k hi hk (by rw [Bool.and_eq_true]; exact ⟨g1, g2⟩)
set_option maxRecDepth 100000 in
theorem fold_row (n : Nat) : ∀ (row : List Nat) (r : List Bool), r.length = n → (row.foldl (fun r k => r.set k true) r).length = n ∧ ∀ k, (row.foldl (fun r k => r.set k true) r).getD k false = (r.getD k false || (decide (k < n) && decide (k ∈ row)))
  | [], r, h => ⟨h, fun k => by simp⟩
  | x :: row, r, h => by
    obtain ⟨h1, h2⟩ := fold_row n row (r.set x true) ((List.length_set ..).trans h)
    refine ⟨h1, fun k => ?_⟩
    rw [List.foldl_cons, h2]
    by_cases hx : x < r.length
    · rw [getD_set _ _ _ _ _ hx]
      by_cases e : k = x
      · subst e; simp [← h, hx]
      · simp [e]
    · rw [List.set_eq_of_length_le (by omega)]
      by_cases e : k = x
      · subst e; simp [show ¬ k < n by omega]
      · simp [e]
set_option maxRecDepth 100000 in
theorem init_good {g : G} : Good g (initM g) ∧ ∀ i k, gB (initM g) i k = true ↔ (edge g i k ∧ k < g.length) := by
  have hrow : ∀ row, (initRow g.length row).length = g.length ∧ ∀ k, (initRow g.length row).getD k false = (decide (k < g.length) && decide (k ∈ row)) := fun row => by
    obtain ⟨h1, h2⟩ := fold_row g.length row (List.replicate g.length false) List.length_replicate
    refine ⟨h1, fun k => ?_⟩
    rw [initRow, h2]
    simp [List.getD_eq_getElem?_getD, List.getElem?_replicate]
    intro h; split at h <;> simp at h
  have hB : ∀ i k, gB (initM g) i k = true ↔ (edge g i k ∧ k < g.length) := fun i k => by
    unfold gB initM edge
    by_cases hi : i < g.length
    · have e1 : (g.map (initRow g.length)).getD i [] = initRow g.length (g.getD i []) := by simp [List.getD_eq_getElem?_getD, List.getElem?_eq_getElem hi]
      rw [e1, (hrow _).2]
      simp [and_comm]
    · have e1 : (g.map (initRow g.length)).getD i [] = [] := by simp [List.getD_eq_getElem?_getD, List.getElem?_eq_none (show g.length ≤ i by omega)]
      have e2 : g.getD i [] = [] := by simp [List.getD_eq_getElem?_getD, List.getElem?_eq_none (show g.length ≤ i by omega)]
      rw [e1, e2]; simp
  refine ⟨⟨⟨by simp [initM], fun r hr => ?_⟩, fun i k h => ?_⟩, hB⟩
  · obtain ⟨row, _, rfl⟩ := List.mem_map.1 hr
    exact (hrow row).1
  · exact ⟨k, ((hB i k).1 h).1, .refl _⟩
set_option maxRecDepth 100000 in
theorem R_iff {g : G} (hg : GOk g) (i k : Nat) : R g i k = true ↔ Path1 g i k := by
  obtain ⟨h1, h2⟩ := init_good (g := g)
  obtain ⟨q1, q2⟩ := viaF_good h1 (fun i k e => (h2 i k).2 ⟨e, hg i k e⟩) hg g.length (Nat.le_refl _)
  exact ⟨q1.sound i k, fun h => q2 i k (path_lt hg h)⟩
end Go.Proofs.Ytfokjpmcifkoeaa.Scc
