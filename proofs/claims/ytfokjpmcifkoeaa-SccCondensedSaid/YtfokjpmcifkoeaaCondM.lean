/- What the law SccCondensed asks, in plain words: the condensed graph has no loops and is its own; ways in it are ways between components. No condition. -/
import Derived.Test.YtfokjpmcifkoeaaPartM
import Derived.Test.YtfokjpmcifkoeaaComp4
namespace Go.Proofs.Ytfokjpmcifkoeaa.Scc
section
variable {N : G} (hN : GOk N)
set_option maxRecDepth 100000 in
theorem condN_len (N : G) : (condN N).length = (comps N).length := by simp [condN]
set_option maxRecDepth 100000 in
theorem condN_at {a : Nat} (h : a < (comps N).length) : (condN N).getD a [] = condRow N a := by
  unfold condN
  rw [List.getD_eq_getElem?_getD, List.getElem?_map, List.getElem?_range h]; rfl
set_option maxRecDepth 100000 in
/-- An edge of the condensed graph. -/
theorem cond_edge {a b : Nat} : edge (condN N) a b ↔ a < (comps N).length ∧ b < (comps N).length ∧ b ≠ a ∧ ∃ i k, i ∈ (comps N).getD a [] ∧ edge N i k ∧ ofN N k = b := by
  unfold edge
  by_cases ha : a < (comps N).length
  · rw [condN_at ha]
    unfold condRow
    rw [List.mem_filter, List.mem_range, Bool.and_eq_true, bne_iff_ne, List.any_eq_true]
    constructor
    · rintro ⟨hb, hne, i, hi, h⟩
      obtain ⟨k, hk, e⟩ := List.any_eq_true.1 h
      exact ⟨ha, hb, hne, i, k, hi, hk, beq_iff_eq.1 e⟩
    · rintro ⟨_, hb, hne, i, k, hi, hk, e⟩
      exact ⟨hb, hne, i, hi, List.any_eq_true.2 ⟨k, hk, beq_iff_eq.2 e⟩⟩
  · constructor
    · intro h
      rw [List.getD_eq_getElem?_getD, List.getElem?_eq_none (by rw [condN_len]; omega)] at h
      cases h
    · exact fun h => absurd h.1 ha
set_option maxRecDepth 100000 in
theorem cond_ok : GOk (condN N) := fun a b e => by rw [condN_len]; exact (cond_edge.1 e).2.1
include hN
set_option maxRecDepth 100000 in
theorem mem_comp {a i : Nat} (hi : i ∈ (comps N).getD a []) : i < N.length ∧ ofN N i = a := by
  rw [List.getD_eq_getElem?_getD] at hi
  cases hc : (comps N)[a]? with
  | none => rw [hc] at hi; cases hi
  | some c =>
    rw [hc] at hi
    exact ⟨comp_lt (List.mem_of_getElem? hc) hi, ofN_eq hN hc hi⟩
set_option maxRecDepth 100000 in
theorem comp_mem {i : Nat} (hi : i < N.length) : i ∈ (comps N).getD (ofN N i) [] := by
  obtain ⟨c, h1, h2⟩ := ofN_mem hN hi
  rw [List.getD_eq_getElem?_getD, h1]; exact h2
set_option maxRecDepth 100000 in
/-- Nodes of one component reach each other. -/
theorem reach_of {i k : Nat} (hi : i < N.length) (hk : k < N.length) (h : ofN N i = ofN N k) : Reach N i k ∧ Reach N k i := (same_iff hN i k).1 ((of_same hN hi hk).1 h)
set_option maxRecDepth 100000 in
theorem of_reach {i k : Nat} (hi : i < N.length) (h1 : Reach N i k) (h2 : Reach N k i) : ofN N i = ofN N k := (of_same hN hi (reach_lt hN h1 hi)).2 ((same_iff hN i k).2 ⟨h1, h2⟩)
set_option maxRecDepth 100000 in
/-- A way in the graph is one in the condensed graph. -/
theorem cond_reach {i k : Nat} (hi : i < N.length) (h : Reach N i k) : Reach (condN N) (ofN N i) (ofN N k) := by
  induction h with
  | refl => exact .refl _
  | @tail j k h e ih =>
    have hj := reach_lt hN h hi
    have hk := hN _ _ e
    by_cases he : ofN N k = ofN N j
    · rw [he]; exact ih
    · exact ih.tail (cond_edge.2 ⟨ofN_lt hN hj, ofN_lt hN hk, he, j, k, comp_mem hN hj, e, rfl⟩)
set_option maxRecDepth 100000 in
/-- And back. -/
theorem reach_cond {a b : Nat} (h : Reach (condN N) a b) : ∀ i, i < N.length → ofN N i = a → ∀ k, k < N.length → ofN N k = b → Reach N i k := by
  induction h with
  | refl => exact fun i hi e k hk e' => (reach_of hN hi hk (e.trans e'.symm)).1
  | @tail b c h e ih =>
    intro i hi ei k hk ek
    obtain ⟨_, _, _, x, y, hx, hxy, ey⟩ := cond_edge.1 e
    obtain ⟨x1, x2⟩ := mem_comp hN hx
    exact ((ih i hi ei x x1 x2).tail hxy).trans (reach_of hN (hN _ _ hxy) hk (ey.trans ek.symm)).1
set_option maxRecDepth 100000 in
theorem exists_node {a : Nat} (ha : a < (comps N).length) : ∃ i, i < N.length ∧ ofN N i = a := by
  have h1 : (comps N)[a]? = some (comps N)[a] := List.getElem?_eq_getElem ha
  have h2 := (comp_pw hN (List.mem_of_getElem? h1)).1
  obtain ⟨x, hx⟩ := List.exists_mem_of_ne_nil _ h2
  exact ⟨x, comp_lt (List.mem_of_getElem? h1) hx, ofN_eq hN h1 hx⟩
set_option maxRecDepth 100000 in
/-- Two nodes of the condensed graph that reach each other are one. -/
theorem cond_anti {a b : Nat} (ha : a < (comps N).length) (hb : b < (comps N).length) (h1 : Reach (condN N) a b) (h2 : Reach (condN N) b a) : a = b := by
  obtain ⟨i, hi, rfl⟩ := exists_node hN ha
  obtain ⟨k, hk, rfl⟩ := exists_node hN hb
  exact of_reach hN hi (reach_cond hN h1 i hi rfl k hk rfl) (reach_cond hN h2 k hk rfl i hi rfl)
set_option maxRecDepth 100000 in
theorem cond_R (a : Nat) : R (condN N) a a = false := by
  cases h : R (condN N) a a with
  | false => rfl
  | true =>
    obtain ⟨b, e, r⟩ := (R_iff cond_ok a a).1 h
    obtain ⟨h1, h2, h3, _⟩ := cond_edge.1 e
    exact absurd (cond_anti hN h2 h1 r (Reach.edge e)) h3
set_option maxRecDepth 100000 in
theorem cond_loops : loopsN (condN N) = [] := by
  unfold loopsN
  rw [List.filter_eq_nil_iff]
  intro a _
  rw [cond_R hN]; simp
set_option maxRecDepth 100000 in
theorem cond_same {a b : Nat} (ha : a < (comps N).length) : sameC (condN N) a b = (a == b) := by
  rw [Bool.eq_iff_iff, beq_iff_eq, same_iff cond_ok]
  constructor
  · rintro ⟨h1, h2⟩
    exact cond_anti hN ha (by have := reach_lt cond_ok h1 (by rw [condN_len]; exact ha); rwa [condN_len] at this) h1 h2
  · rintro rfl
    exact ⟨.refl _, .refl _⟩
set_option maxRecDepth 100000 in
/-- The components of the condensed graph are its nodes. -/
theorem cond_comps : comps (condN N) = (List.range (comps N).length).map fun a => [a] := by
  unfold comps
  have h1 : leads (condN N) = List.range (comps N).length := by
    unfold leads
    rw [condN_len, List.filter_eq_self]
    intro a ha
    have ha := List.mem_range.1 ha
    unfold isLead
    rw [List.all_eq_true]
    intro j hj
    have hj := List.mem_range.1 hj
    rw [cond_same hN (by omega : j < (comps N).length)]
    simp; omega
  have h2 : (comps N).length = ((leads N).map (classOf N)).length := rfl
  rw [h1]
  refine List.map_congr_left fun a ha => ?_
  have ha := List.mem_range.1 ha
  unfold classOf
  rw [condN_len]
  rw [show (List.range (comps N).length).filter (sameC (condN N) a) = (List.range (comps N).length).filter (fun b => a == b) from List.filter_congr fun b _ => cond_same hN ha]
  refine lt_ext ((range_lt _).filter _) (List.pairwise_singleton ..) fun x => ?_
  rw [List.mem_filter, List.mem_range, beq_iff_eq, List.mem_singleton]
  exact ⟨fun h => h.2.symm, fun h => ⟨by omega, h.symm⟩⟩
set_option maxRecDepth 100000 in
theorem cond_of {a : Nat} (ha : a < (comps N).length) : ofN (condN N) a = a := by
  refine ofN_eq cond_ok (c := [a]) ?_ (List.mem_singleton.2 rfl)
  rw [cond_comps hN, List.getElem?_map, List.getElem?_range ha]; rfl
set_option maxRecDepth 100000 in
theorem cond_cond : condN (condN N) = condN N := by
  have hl : (comps (condN N)).length = (comps N).length := by rw [cond_comps hN]; simp
  have : condN (condN N) = (List.range (comps N).length).map (condRow (condN N)) := by rw [condN, hl]
  rw [this]
  show _ = (List.range (comps N).length).map (condRow N)
  refine List.map_congr_left fun a ha => ?_
  have ha := List.mem_range.1 ha
  rw [← condN_at ha]
  have h1 : (comps (condN N)).getD a [] = [a] := by rw [cond_comps hN, List.getD_eq_getElem?_getD, List.getElem?_map, List.getElem?_range ha]; rfl
  unfold condRow
  rw [hl, h1]
  refine lt_ext ((range_lt _).filter _) (by rw [condN_at ha]; exact (range_lt _).filter _) fun b => ?_
  rw [List.mem_filter, List.mem_range, Bool.and_eq_true, bne_iff_ne]
  constructor
  · rintro ⟨hb, hne, h⟩
    simp only [List.any_cons, List.any_nil, Bool.or_false] at h
    obtain ⟨k, hk, e⟩ := List.any_eq_true.1 h
    have hk2 : k < (comps N).length := (cond_edge.1 hk).2.1
    have e := beq_iff_eq.1 e
    rw [cond_of hN hk2] at e
    exact e ▸ hk
  · intro h
    obtain ⟨_, hb, hne, _⟩ := cond_edge.1 h
    refine ⟨hb, hne, ?_⟩
    simp only [List.any_cons, List.any_nil, Bool.or_false]
    exact List.any_eq_true.2 ⟨b, h, beq_iff_eq.2 (cond_of hN hb)⟩
set_option maxRecDepth 100000 in
/-- Ways between components. -/
theorem cond_ways {i k : Nat} (hi : i < N.length) (hk : k < N.length) (hne : ofN N k ≠ ofN N i) : R (condN N) (ofN N i) (ofN N k) = R N i k := by
  rw [Bool.eq_iff_iff, R_iff cond_ok, R_iff hN]
  constructor
  · intro h
    have h := reach_cond hN (reach_iff.2 (.inr h)) i hi rfl k hk rfl
    exact (reach_iff.1 h).resolve_left fun e => hne (by rw [e])
  · intro h
    have h := cond_reach hN hi (reach_iff.2 (.inr h))
    exact (reach_iff.1 h).resolve_left fun e => hne e.symm
end
end Go.Proofs.Ytfokjpmcifkoeaa.Scc
