/- The nodes that a node reaches, found by a list of those still to do. No condition. -/
import Derived.Test.YtfokjpmcifkoeaaComp2
namespace Go.Proofs.Ytfokjpmcifkoeaa.Scc
/-- What the search from i keeps: the nodes found, those to do. -/
structure FromI (g : G) (i : Nat) (A : List Bool) (T : List Nat) : Prop where
  len : A.length = g.length
  sound : ∀ x, A.getD x false = true → Path1 g i x
  todo : ∀ x ∈ T, Path1 g i x
  start : ∀ x, edge g i x → A.getD x false = true ∨ x ∈ T
  step : ∀ y x, A.getD y false = true → edge g y x → A.getD x false = true ∨ x ∈ T
  size : T.length ≤ (A.count true + 1) * 1000
def left (A : List Bool) (T : List Nat) : Nat := A.count false * 1001 + T.length
set_option maxRecDepth 100000 in
theorem count_bool : ∀ A : List Bool, A.count true + A.count false = A.length
  | [] => rfl
  | b :: A => by
    have := count_bool A
    cases b <;> simp <;> omega
set_option maxRecDepth 100000 in
theorem count_set {A : List Bool} {x : Nat} (hx : x < A.length) (hb : A.getD x false = false) : (A.set x true).count true = A.count true + 1 ∧ (A.set x true).count false + 1 = A.count false := by
  induction A generalizing x with
  | nil => simp at hx
  | cons b A ih =>
    cases x with
    | zero =>
      simp only [List.getD_cons_zero] at hb
      subst hb
      simp
    | succ x =>
      have := ih (x := x) (by simpa using hx) (by simpa using hb)
      cases b <;> simp <;> omega
section
variable {g : G} (hg : GOk g) (hr : ∀ r ∈ g, r.length < 1000) {i : Nat}
include hr
set_option maxRecDepth 100000 in
theorem row_len (x : Nat) : (g.getD x []).length < 1000 := by
  rw [List.getD_eq_getElem?_getD]
  cases hx : g[x]? with
  | none => exact Nat.zero_lt_succ _
  | some r => exact hr r (List.mem_of_getElem? hx)
set_option maxRecDepth 100000 in
theorem from_start : FromI g i (List.replicate g.length false) (g.getD i []) := by
  have e : ∀ x, (List.replicate g.length false).getD x false = false := fun x => by
    rw [List.getD_eq_getElem?_getD, List.getElem?_replicate]
    split <;> rfl
  refine ⟨List.length_replicate, fun x h => ?_, fun x h => ⟨_, h, .refl _⟩, fun x h => .inr h, fun y x h => ?_, ?_⟩
  · rw [e] at h; cases h
  · rw [e] at h; cases h
  · have := row_len hr i
    omega
omit hr in
set_option maxRecDepth 100000 in
theorem from_lt {A : List Bool} {T : List Nat} {x : Nat} (hI : FromI g i A (x :: T)) (hg : GOk g) : x < g.length := by
  obtain ⟨a, e, r⟩ := hI.todo x (List.mem_cons_self ..)
  exact reach_lt hg r (hg _ _ e)
omit hr in
set_option maxRecDepth 100000 in
theorem from_skip {A : List Bool} {T : List Nat} {x : Nat} (hI : FromI g i A (x :: T)) (hA : A.getD x false = true) : FromI g i A T ∧ left A T < left A (x :: T) := by
  refine ⟨⟨hI.len, hI.sound, fun y hy => hI.todo y (List.mem_cons_of_mem _ hy), fun y e => ?_, fun y z h e => ?_, ?_⟩, by simp [left]⟩
  · rcases hI.start y e with h | h
    · exact .inl h
    · rcases List.mem_cons.1 h with rfl | h
      · exact .inl hA
      · exact .inr h
  · rcases hI.step y z h e with h | h
    · exact .inl h
    · rcases List.mem_cons.1 h with rfl | h
      · exact .inl hA
      · exact .inr h
  · have := hI.size
    rw [List.length_cons] at this; omega
set_option maxRecDepth 100000 in
theorem from_new {A : List Bool} {T : List Nat} {x : Nat} (hI : FromI g i A (x :: T)) (hx : x < g.length) (hA : A.getD x false = false) : FromI g i (A.set x true) (T ++ g.getD x []) ∧ left (A.set x true) (T ++ g.getD x []) < left A (x :: T) := by
  have hxl : x < A.length := by rw [hI.len]; exact hx
  have hs := fun y => getD_set A x y true false hxl
  have hl := row_len hr x
  obtain ⟨c1, c2⟩ := count_set hxl hA
  have hp := hI.todo x (List.mem_cons_self ..)
  refine ⟨⟨(List.length_set ..).trans hI.len, fun y h => ?_, fun y hy => ?_, fun y e => ?_, fun y z h e => ?_, ?_⟩, ?_⟩
  · rw [hs] at h
    split at h
    · subst_vars; exact hp
    · exact hI.sound y h
  · rcases List.mem_append.1 hy with h | h
    · exact hI.todo y (List.mem_cons_of_mem _ h)
    · obtain ⟨a, e, r⟩ := hp
      exact ⟨a, e, r.tail h⟩
  · rw [hs]
    rcases hI.start y e with h | h
    · split
      · exact .inl rfl
      · exact .inl h
    · rcases List.mem_cons.1 h with rfl | h
      · rw [if_pos rfl]; exact .inl rfl
      · exact .inr (List.mem_append_left _ h)
  · rw [hs] at h ⊢
    by_cases hyx : y = x
    · subst hyx
      exact .inr (List.mem_append_right _ e)
    · rw [if_neg hyx] at h
      rcases hI.step y z h e with h | h
      · split
        · exact .inl rfl
        · exact .inl h
      · rcases List.mem_cons.1 h with rfl | h
        · rw [if_pos rfl]; exact .inl rfl
        · exact .inr (List.mem_append_left _ h)
  · have := hI.size
    rw [List.length_cons] at this
    rw [List.length_append, c1]; omega
  · unfold left
    rw [List.length_append, List.length_cons]; omega
include hg
omit hr in
set_option maxRecDepth 100000 in
theorem from_end {A : List Bool} (hI : FromI g i A []) : A = (List.range g.length).map (R g i) := by
  have key : ∀ x, Reach g i x → ∀ y, edge g x y → A.getD y false = true := by
    intro x h
    have : ∀ y, edge g x y → A.getD y false = true := by
      induction h with
      | refl => exact fun y e => (hI.start y e).resolve_right (by simp)
      | tail h e ih => exact fun y e' => (hI.step _ y (ih _ e) e').resolve_right (by simp)
    exact this
  have key2 : ∀ x, A.getD x false = R g i x := fun x => by
    cases hx : R g i x with
    | true =>
      obtain ⟨a, e, r⟩ := (R_iff hg i x).1 hx
      cases r with
      | refl => exact key i (.refl _) x e
      | tail r e2 => exact key _ ((Reach.edge e).trans r) x e2
    | false =>
      cases hA : A.getD x false with
      | false => rfl
      | true => rw [(R_iff hg i x).2 (hI.sound x hA)] at hx; cases hx
  refine List.ext_getElem? fun x => ?_
  rw [List.getElem?_map]
  by_cases hx : x < g.length
  · rw [List.getElem?_range hx, Option.map_some, ← key2, List.getD_eq_getElem?_getD, List.getElem?_eq_getElem (by rw [hI.len]; exact hx)]; rfl
  · rw [List.getElem?_eq_none (by rw [hI.len]; omega), List.getElem?_eq_none (by rw [List.length_range]; omega)]; rfl
end
end Go.Proofs.Ytfokjpmcifkoeaa.Scc
