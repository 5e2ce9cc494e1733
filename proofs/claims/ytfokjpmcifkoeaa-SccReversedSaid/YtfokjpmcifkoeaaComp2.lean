/- What the program makes of the components. No condition. -/
import Derived.Test.YtfokjpmcifkoeaaComp
namespace Go.Proofs.Ytfokjpmcifkoeaa.Scc
section
variable {g : G} (hg : GOk g)
include hg
omit hg in
set_option maxRecDepth 100000 in
theorem comp_at {j : Nat} {c : List Nat} (h : (comps g)[j]? = some c) : ∃ i, i ∈ leads g ∧ c = classOf g i ∧ (leads g)[j]? = some i := by
  unfold comps at h
  rw [List.getElem?_map] at h
  cases hi : (leads g)[j]? with
  | none => rw [hi] at h; cases h
  | some i => rw [hi] at h; injection h with h; exact ⟨i, List.mem_of_getElem? hi, h.symm, rfl⟩
omit hg in
set_option maxRecDepth 100000 in
theorem comp_lt {c : List Nat} (h : c ∈ comps g) {x : Nat} (hx : x ∈ c) : x < g.length := by
  obtain ⟨i, hi, rfl⟩ := List.mem_map.1 h
  exact List.mem_range.1 (List.mem_filter.1 hx).1
set_option maxRecDepth 100000 in
theorem comp_same {c : List Nat} (h : c ∈ comps g) {x y : Nat} (hx : x ∈ c) : y ∈ c ↔ sameC g x y = true := by
  obtain ⟨i, hi, rfl⟩ := List.mem_map.1 h
  have hl := (mem_leads.1 hi).1
  rw [mem_class hg hl] at hx ⊢
  exact ⟨fun h => same_trans hg (same_symm hg hx) h, fun h => same_trans hg hx h⟩
omit hg in
set_option maxRecDepth 100000 in
theorem leads_nodup : (leads g).Nodup := ((range_lt g.length).filter _).imp fun h e => by subst e; exact Nat.lt_irrefl _ h
set_option maxRecDepth 100000 in
theorem lead_eq {i j : Nat} (hi : i ∈ leads g) (hj : j ∈ leads g) (h : sameC g i j = true) : i = j := by
  have h1 := (mem_leads.1 hi)
  have h2 := (mem_leads.1 hj)
  rcases Nat.lt_trichotomy i j with h' | h' | h'
  · rw [h2.2 i h'] at h; cases h
  · exact h'
  · have := same_symm hg h
    rw [h1.2 j h'] at this; cases this
set_option maxRecDepth 100000 in
theorem comp_inj {j k : Nat} {c d : List Nat} (hc : (comps g)[j]? = some c) (hd : (comps g)[k]? = some d) {x : Nat} (hx : x ∈ c) (hy : x ∈ d) : j = k := by
  obtain ⟨a, ha, rfl, ha'⟩ := comp_at hc
  obtain ⟨b, hb, rfl, hb'⟩ := comp_at hd
  have h1 := (mem_class hg (mem_leads.1 ha).1).1 hx
  have h2 := (mem_class hg (mem_leads.1 hb).1).1 hy
  have := lead_eq hg ha hb (same_trans hg h1 (same_symm hg h2))
  subst this
  exact (List.getElem?_inj (List.getElem?_eq_some_iff.1 ha').1 (leads_nodup)).1 (ha'.trans hb'.symm)
set_option maxRecDepth 100000 in
theorem ofN_mem {x : Nat} (hx : x < g.length) : ∃ c, (comps g)[ofN g x]? = some c ∧ x ∈ c := by
  obtain ⟨j, hj, hs⟩ := exists_lead hg x hx
  have hm : classOf g j ∈ comps g := List.mem_map_of_mem hj
  have hxc : x ∈ classOf g j := (mem_class hg (mem_leads.1 hj).1).2 hs
  have hlt : ofN g x < (comps g).length := List.findIdx_lt_length_of_exists ⟨_, hm, by simpa using hxc⟩
  refine ⟨(comps g)[ofN g x], List.getElem?_eq_getElem hlt, ?_⟩
  have := List.findIdx_getElem (xs := comps g) (p := fun c => decide (x ∈ c)) (w := hlt)
  exact of_decide_eq_true this
set_option maxRecDepth 100000 in
theorem ofN_eq {j x : Nat} {c : List Nat} (hc : (comps g)[j]? = some c) (hx : x ∈ c) : ofN g x = j := by
  obtain ⟨d, hd, hxd⟩ := ofN_mem hg (comp_lt (List.mem_of_getElem? hc) hx)
  exact comp_inj hg hd hc hxd hx
set_option maxRecDepth 100000 in
theorem ofN_lt {x : Nat} (hx : x < g.length) : ofN g x < (comps g).length := by
  obtain ⟨c, hc, _⟩ := ofN_mem hg hx
  exact (List.getElem?_eq_some_iff.1 hc).1
omit hg in
set_option maxRecDepth 100000 in
theorem comps_len : (comps g).length ≤ g.length := by
  unfold comps leads
  rw [List.length_map]
  exact Nat.le_trans (List.length_filter_le ..) (by simp)
omit hg in
set_option maxRecDepth 100000 in
theorem class_len (i : Nat) : (classOf g i).length ≤ g.length := Nat.le_trans (List.length_filter_le ..) (by simp)
omit hg in
set_option maxRecDepth 100000 in
theorem comp_len {c : List Nat} (h : c ∈ comps g) : c.length ≤ g.length := by
  obtain ⟨i, _, rfl⟩ := List.mem_map.1 h
  exact class_len i
/-- The targets of the first k nodes of a component, and of the first n edges of the next one. -/
def tgs (g : G) (c : List Nat) (k n : Nat) : List Nat := ((c.take k).flatMap fun x => (g.getD x []).map (ofN g)) ++ ((g.getD (c.getD k 0) []).take n).map (ofN g)
omit hg in
set_option maxRecDepth 100000 in
theorem tgs_snoc {c : List Nat} {k n x y : Nat} (hk : c[k]? = some x) (hn : (g.getD x [])[n]? = some y) : tgs g c k (n + 1) = tgs g c k n ++ [ofN g y] := by
  unfold tgs
  have e : c.getD k 0 = x := by rw [List.getD_eq_getElem?_getD, hk]; rfl
  rw [e, List.take_add_one, hn]
  simp
omit hg in
set_option maxRecDepth 100000 in
theorem tgs_next {c : List Nat} {k x : Nat} (hk : c[k]? = some x) : tgs g c (k + 1) 0 = tgs g c k (g.getD x []).length := by
  unfold tgs
  have e : c.getD k 0 = x := by rw [List.getD_eq_getElem?_getD, hk]; rfl
  rw [e, List.take_length, List.take_add_one, hk]
  simp
omit hg in
set_option maxRecDepth 100000 in
theorem tgs_all {c : List Nat} {b : Nat} : b ∈ tgs g c c.length 0 ↔ (c.any fun i => (g.getD i []).any fun k => ofN g k == b) = true := by
  unfold tgs
  simp
/-- The first b numbers of a condensed row. -/
def condUp (g : G) (a b : Nat) : List Nat := (List.range b).filter fun b => b != a && ((comps g).getD a []).any fun i => (g.getD i []).any fun k => ofN g k == b
omit hg in
set_option maxRecDepth 100000 in
theorem condUp_succ (a b : Nat) : condUp g a (b + 1) = if (b != a && ((comps g).getD a []).any fun i => (g.getD i []).any fun k => ofN g k == b) = true then condUp g a b ++ [b] else condUp g a b := by
  unfold condUp
  rw [List.range_succ, List.filter_append]
  rw [List.filter_cons, List.filter_nil]
  split
  · rfl
  · rw [List.append_nil]
end
end Go.Proofs.Ytfokjpmcifkoeaa.Scc
