/- The loops, from the components. No program in sight. No condition. -/
import Derived.Test.YtfokjpmcifkoeaaComp2
namespace Go.Proofs.Ytfokjpmcifkoeaa.Scc
variable {g : G} (hg : GOk g)
def loopP (g : G) (p : List Nat) : Bool := decide (1 < p.length) || decide (p.headD 0 ∈ g.getD (p.headD 0) [])
def upLoop (g : G) (k : Nat) : List Nat := (((comps g).take k).filter (loopP g)).flatten
set_option maxRecDepth 100000 in
theorem upLoop_succ {k : Nat} {p : List Nat} (h : (comps g)[k]? = some p) : upLoop g (k + 1) = if loopP g p = true then upLoop g k ++ p else upLoop g k := by
  unfold upLoop
  rw [List.take_add_one, h, List.filter_append, List.flatten_append]
  cases hp : loopP g p <;> simp [hp]
include hg
set_option maxRecDepth 100000 in
theorem comp_pw {p : List Nat} (h : p ∈ comps g) : p ≠ [] ∧ p.Pairwise (· < ·) := by
  obtain ⟨i, hi, rfl⟩ := List.mem_map.1 h
  obtain ⟨t, ht⟩ := class_head hg hi
  refine ⟨by rw [ht]; simp, ?_⟩
  exact (range_lt g.length).filter _
omit hg in
set_option maxRecDepth 100000 in
theorem two_of {p : List Nat} (hp : p.Pairwise (· < ·)) {x : Nat} (h : 1 < p.length) : ∃ y ∈ p, y ≠ x := by
  match p, hp, h with
  | a :: b :: l, hp, _ =>
    by_cases e : a = x
    · refine ⟨b, by simp, fun e2 => ?_⟩
      have := (List.pairwise_cons.1 hp).1 b (List.mem_cons_self ..)
      omega
    · exact ⟨a, by simp, e⟩
set_option maxRecDepth 100000 in
theorem loop_iff {p : List Nat} (hp : p ∈ comps g) {x : Nat} (hx : x ∈ p) : R g x x = loopP g p := by
  obtain ⟨hne, hpw⟩ := comp_pw hg hp
  have hs : ∀ y, y ∈ p ↔ (Reach g x y ∧ Reach g y x) := fun y => (comp_same hg hp hx).trans (same_iff hg x y)
  rw [Bool.eq_iff_iff, R_iff hg, loopP, Bool.or_eq_true, decide_eq_true_eq, decide_eq_true_eq]
  have one : ¬ 1 < p.length → p = [x] := fun h => by
    match p, hne, hx, h with
    | [a], _, hx, _ => rw [List.mem_singleton.1 hx]
    | a :: b :: l, _, _, h => simp at h
  constructor
  · rintro ⟨j, he, hr⟩
    by_cases h1 : 1 < p.length
    · exact .inl h1
    · right
      have hj : j ∈ p := (hs j).2 ⟨Reach.edge he, hr⟩
      have h2 := one h1
      rw [h2] at hj ⊢
      rw [List.mem_singleton.1 hj] at he
      exact he
  · intro h
    by_cases h1 : 1 < p.length
    · obtain ⟨y, hy, hyx⟩ := two_of hpw (x := x) h1
      have := (hs y).1 hy
      rcases (reach_iff (g := g)).1 this.1 with e | h3
      · exact absurd e.symm hyx
      · obtain ⟨j, e1, e2⟩ := h3
        exact ⟨j, e1, e2.trans this.2⟩
    · have h2 := one h1
      rw [h2] at h
      rcases h with h | h
      · simp at h
      · exact ⟨x, h, .refl _⟩
set_option maxRecDepth 100000 in
theorem comps_disj : (comps g).Pairwise fun p q => ∀ x ∈ p, ∀ y ∈ q, x ≠ y := by
  rw [List.pairwise_iff_getElem]
  intro i j hi hj hij x hx y hy e
  subst e
  have := comp_inj hg (List.getElem?_eq_getElem hi) (List.getElem?_eq_getElem hj) hx hy
  omega
set_option maxRecDepth 100000 in
theorem upLoop_nodup (k : Nat) : (upLoop g k).Nodup := by
  unfold upLoop List.Nodup
  rw [List.pairwise_flatten]
  refine ⟨fun l hl => ?_, ?_⟩
  · have := comp_pw hg (List.mem_of_mem_take (List.mem_filter.1 hl).1)
    exact this.2.imp fun h e => by omega
  · exact ((comps_disj hg).sublist (List.take_sublist ..)).sublist List.filter_sublist
set_option maxRecDepth 100000 in
theorem loops_eq : sortN (upLoop g (comps g).length) = loopsN g := by
  refine lt_ext (sortN_lt (upLoop_nodup hg _)) ((range_lt g.length).filter _) fun x => ?_
  rw [(sortN_perm _).mem_iff, upLoop, List.take_of_length_le (Nat.le_refl _), List.mem_flatten, loopsN, List.mem_filter, List.mem_range]
  constructor
  · rintro ⟨p, hp, hx⟩
    obtain ⟨hp1, hp2⟩ := List.mem_filter.1 hp
    exact ⟨comp_lt hp1 hx, by rw [loop_iff hg hp1 hx]; exact hp2⟩
  · rintro ⟨hx, hr⟩
    obtain ⟨c, hc, hxc⟩ := ofN_mem hg hx
    have hm := List.mem_of_getElem? hc
    exact ⟨c, List.mem_filter.2 ⟨hm, by rw [← loop_iff hg hm hxc]; exact hr⟩, hxc⟩
set_option maxRecDepth 100000 in
theorem upLoop_len (k : Nat) : (upLoop g k).length ≤ g.length := by
  have h1 := sortN_lt (upLoop_nodup hg k)
  have h2 := inc_len (fun x => x + 1) g.length (h1.imp fun h => Nat.succ_lt_succ h) (fun x hx => by
    obtain ⟨p, hp, hxp⟩ := List.mem_flatten.1 ((sortN_perm _).mem_iff.1 hx)
    have := comp_lt (List.mem_of_mem_take (List.mem_filter.1 hp).1) hxp
    omega)
  rwa [(sortN_perm _).length_eq] at h2
end Go.Proofs.Ytfokjpmcifkoeaa.Scc
