/- What the law SccReversed asks, in plain words: a graph with its edges reversed, one with its nodes renamed. No condition. -/
import Derived.Test.YtfokjpmcifkoeaaPartM
namespace Go.Proofs.Ytfokjpmcifkoeaa.Scc
/-! ### reversed -/
def cntRow (x i : Nat) (r : List Nat) : List Nat := (r.filter (· == x)).map fun _ => i
/-- The row of x when the rows below i and k places of the row i are done. -/
def backP (N : G) (i k x : Nat) : List Nat := ((List.range i).flatMap fun j => cntRow x j (N.getD j [])) ++ cntRow x i ((N.getD i []).take k)
def backG (N : G) : G := (List.range N.length).map fun x => backP N N.length 0 x
set_option maxRecDepth 100000 in
theorem cntRow_len (x i : Nat) (r : List Nat) : (cntRow x i r).length ≤ r.length := by unfold cntRow; rw [List.length_map]; exact List.length_filter_le ..
set_option maxRecDepth 100000 in
theorem backP_next {N : G} {i k y : Nat} (h : (N.getD i [])[k]? = some y) (x : Nat) : backP N i (k + 1) x = if x = y then backP N i k x ++ [i] else backP N i k x := by
  unfold backP cntRow
  rw [List.take_add_one, h]
  simp only [Option.toList_some, List.filter_append, List.map_append]
  by_cases e : x = y
  · subst e; simp
  · rw [if_neg e]; simp [show (y == x) = false by simp; exact fun e' => e e'.symm]
set_option maxRecDepth 100000 in
theorem backP_row (N : G) (i x : Nat) : backP N i (N.getD i []).length x = backP N (i + 1) 0 x := by
  unfold backP
  rw [List.take_length, List.range_succ, List.flatMap_append]
  simp [cntRow]
set_option maxRecDepth 100000 in
theorem backP_zero (N : G) (x : Nat) : backP N 0 0 x = [] := by simp [backP, cntRow]
set_option maxRecDepth 100000 in
theorem backP_len {N : G} {B : Nat} (hr : ∀ i, (N.getD i []).length ≤ B) (i k x : Nat) : (backP N i k x).length ≤ (i + 1) * B := by
  have h1 : ∀ i, ((List.range i).flatMap fun j => cntRow x j (N.getD j [])).length ≤ i * B := by
    intro i
    induction i with
    | zero => simp
    | succ i ih =>
      rw [List.range_succ, List.flatMap_append, List.length_append, Nat.succ_mul]
      have h2 := cntRow_len x i (N.getD i [])
      have h3 := hr i
      simp only [List.flatMap_cons, List.flatMap_nil, List.append_nil]
      omega
  have h2 := cntRow_len x i ((N.getD i []).take k)
  have h3 := hr i
  have h4 := h1 i
  rw [List.length_take] at h2
  unfold backP
  rw [List.length_append, Nat.succ_mul]
  omega
set_option maxRecDepth 100000 in
theorem mem_back {N : G} {z x : Nat} : z ∈ backP N N.length 0 x ↔ edge N z x := by
  unfold backP cntRow edge
  simp only [List.take_zero, List.filter_nil, List.map_nil, List.append_nil, List.mem_flatMap, List.mem_range, List.mem_map, List.mem_filter, beq_iff_eq]
  constructor
  · rintro ⟨j, _, y, ⟨hy, rfl⟩, rfl⟩; exact hy
  · intro h
    exact ⟨z, edge_lt h, x, ⟨h, rfl⟩, rfl⟩
set_option maxRecDepth 100000 in
theorem back_len (N : G) : (backG N).length = N.length := by simp [backG]
set_option maxRecDepth 100000 in
theorem back_at {N : G} {x : Nat} (h : x < N.length) : (backG N).getD x [] = backP N N.length 0 x := by
  unfold backG
  rw [List.getD_eq_getElem?_getD, List.getElem?_map, List.getElem?_range h]; rfl
set_option maxRecDepth 100000 in
theorem back_edge {N : G} {x z : Nat} : edge (backG N) x z ↔ x < N.length ∧ edge N z x := by
  unfold edge
  by_cases h : x < N.length
  · rw [back_at h]
    exact ⟨fun e => ⟨h, mem_back.1 e⟩, fun e => mem_back.2 e.2⟩
  · rw [List.getD_eq_getElem?_getD, List.getElem?_eq_none (by rw [back_len]; omega)]
    exact ⟨fun e => (by cases e), fun e => absurd e.1 h⟩
set_option maxRecDepth 100000 in
theorem back_ok {N : G} : GOk (backG N) := fun x z e => by rw [back_len]; exact edge_lt (back_edge.1 e).2
section
variable {N : G} (hN : GOk N)
set_option maxRecDepth 100000 in
theorem Reach.head {g : G} {i j k : Nat} (e : Scc.edge g i j) (h : Reach g j k) : Reach g i k := (Reach.edge e).trans h
set_option maxRecDepth 100000 in
theorem back_reach1 {x y : Nat} (h : Reach (backG N) x y) : Reach N y x := by
  induction h with
  | refl => exact .refl _
  | tail _ e ih => exact Reach.head (back_edge.1 e).2 ih
include hN
set_option maxRecDepth 100000 in
theorem back_reach2 {x y : Nat} (h : Reach N y x) : Reach (backG N) x y := by
  induction h with
  | refl => exact .refl _
  | tail _ e ih => exact Reach.head (back_edge.2 ⟨hN _ _ e, e⟩) ih
set_option maxRecDepth 100000 in
theorem back_iff {x y : Nat} : Reach (backG N) x y ↔ Reach N y x := ⟨back_reach1, back_reach2 hN⟩
set_option maxRecDepth 100000 in
theorem back_same (i k : Nat) : sameC (backG N) i k = sameC N i k := by
  rw [Bool.eq_iff_iff, same_iff back_ok, same_iff hN, back_iff hN, back_iff hN]
  exact And.comm
set_option maxRecDepth 100000 in
theorem back_comps : comps (backG N) = comps N := by
  have h1 : sameC (backG N) = sameC N := by funext i k; exact back_same hN i k
  have h2 : isLead (backG N) = isLead N := by funext i; unfold isLead; rw [h1]
  have h3 : leads (backG N) = leads N := by unfold leads; rw [h2, back_len]
  have h4 : classOf (backG N) = classOf N := by funext i; unfold classOf; rw [h1, back_len]
  unfold comps
  rw [h3, h4]
set_option maxRecDepth 100000 in
theorem back_R (i : Nat) : R (backG N) i i = R N i i := by
  rw [Bool.eq_iff_iff, R_iff back_ok, R_iff hN]
  constructor
  · rintro ⟨j, e, r⟩
    have e := (back_edge.1 e).2
    rcases reach_iff.1 (back_reach1 r) with q | q
    · subst q; exact ⟨i, e, .refl _⟩
    · exact q.trans ⟨i, e, .refl _⟩
  · rintro ⟨j, e, r⟩
    have h := back_reach2 hN r
    have e' : edge (backG N) j i := back_edge.2 ⟨hN _ _ e, e⟩
    rcases reach_iff.1 h with q | q
    · subst q; exact ⟨i, e', .refl _⟩
    · exact q.trans ⟨i, e', .refl _⟩
set_option maxRecDepth 100000 in
theorem back_loops : loopsN (backG N) = loopsN N := by
  unfold loopsN
  rw [back_len, show (fun i => R (backG N) i i) = fun i => R N i i from by funext i; exact back_R hN i]
end
/-! ### renamed -/
def ren (n b i : Nat) : Nat := (i + b) % n
def unren (n b y : Nat) : Nat := (y + n - b) % n
set_option maxRecDepth 100000 in
theorem ren_lt {n b i : Nat} (h : i < n) : ren n b i < n := Nat.mod_lt _ (by omega)
set_option maxRecDepth 100000 in
theorem unren_lt {n b y : Nat} (h : y < n) : unren n b y < n := Nat.mod_lt _ (by omega)
set_option maxRecDepth 100000 in
theorem mod_two {a n : Nat} (h : a < 2 * n) : a % n = if a < n then a else a - n := by
  split
  · rename_i h; exact Nat.mod_eq_of_lt h
  · rename_i h'
    rw [Nat.mod_eq_sub_mod (by omega), Nat.mod_eq_of_lt (by omega)]
set_option maxRecDepth 100000 in
theorem un_ren {n b i : Nat} (hb : b < n) (h : i < n) : unren n b (ren n b i) = i := by
  have h1 := ren_lt (b := b) h
  have h2 : ren n b i = if i + b < n then i + b else i + b - n := mod_two (by omega)
  unfold unren
  rw [mod_two (by omega)]
  by_cases hc : i + b < n
  · rw [h2, if_pos hc]; split <;> omega
  · rw [h2, if_neg hc]; split <;> omega
set_option maxRecDepth 100000 in
theorem ren_un {n b y : Nat} (hb : b < n) (h : y < n) : ren n b (unren n b y) = y := by
  have h1 := unren_lt (b := b) h
  have h2 : unren n b y = if y + n - b < n then y + n - b else y + n - b - n := mod_two (by omega)
  unfold ren
  rw [mod_two (by omega)]
  by_cases hc : y + n - b < n
  · rw [h2, if_pos hc]; split <;> omega
  · rw [h2, if_neg hc]; split <;> omega
set_option maxRecDepth 100000 in
theorem ren_inj {n b i k : Nat} (hb : b < n) (hi : i < n) (hk : k < n) (h : ren n b i = ren n b k) : i = k := by rw [← un_ren hb hi, h, un_ren hb hk]
/-- The row of y when the rows below i and k places of the row i are done. -/
def othP (N : G) (b i k y : Nat) : List Nat := (if unren N.length b y < i then N.getD (unren N.length b y) [] else if unren N.length b y = i then (N.getD i []).take k else []).map (ren N.length b)
def othG (N : G) (b : Nat) : G := (List.range N.length).map fun y => othP N b N.length 0 y
set_option maxRecDepth 100000 in
theorem othP_zero (N : G) (b y : Nat) : othP N b 0 0 y = [] := by
  unfold othP
  rw [if_neg (Nat.not_lt_zero _)]
  split <;> simp
set_option maxRecDepth 100000 in
theorem othP_next {N : G} {b i k z : Nat} (hb : b < N.length) (hi : i < N.length) (h : (N.getD i [])[k]? = some z) {y : Nat} (hy : y < N.length) : othP N b i (k + 1) y = if y = ren N.length b i then othP N b i k y ++ [ren N.length b z] else othP N b i k y := by
  unfold othP
  by_cases e : y = ren N.length b i
  · rw [if_pos e, e, un_ren hb hi, if_neg (Nat.lt_irrefl _), if_neg (Nat.lt_irrefl _), if_pos rfl, if_pos rfl, List.take_add_one, h]
    simp
  · rw [if_neg e]
    have hne : unren N.length b y ≠ i := fun e2 => e (by rw [← e2, ren_un hb hy])
    rw [if_neg hne, if_neg hne]
set_option maxRecDepth 100000 in
theorem othP_row (N : G) (b i y : Nat) : othP N b i (N.getD i []).length y = othP N b (i + 1) 0 y := by
  unfold othP
  rw [List.take_length]
  generalize unren N.length b y = j
  by_cases h : j < i
  · rw [if_pos h, if_pos (Nat.lt_succ_of_lt h)]
  · rw [if_neg h]
    by_cases h2 : j = i
    · subst h2; rw [if_pos rfl, if_pos (Nat.lt_succ_self _)]
    · rw [if_neg h2, if_neg (by omega : ¬j < i + 1)]
      split <;> simp
set_option maxRecDepth 100000 in
theorem othP_len {N : G} {B : Nat} (hr : ∀ i, (N.getD i []).length ≤ B) (b i k y : Nat) : (othP N b i k y).length ≤ B := by
  unfold othP
  rw [List.length_map]
  have h1 := hr (unren N.length b y)
  have h2 := hr i
  split
  · exact h1
  · split
    · rw [List.length_take]; omega
    · exact Nat.zero_le _
set_option maxRecDepth 100000 in
theorem oth_len (N : G) (b : Nat) : (othG N b).length = N.length := by simp [othG]
set_option maxRecDepth 100000 in
theorem oth_at {N : G} {b y : Nat} (h : y < N.length) : (othG N b).getD y [] = (N.getD (unren N.length b y) []).map (ren N.length b) := by
  unfold othG
  rw [List.getD_eq_getElem?_getD, List.getElem?_map, List.getElem?_range h]
  show othP N b N.length 0 y = _
  unfold othP
  rw [if_pos (unren_lt h)]
section
variable {N : G} (hN : GOk N) {b : Nat} (hb : b < N.length)
set_option maxRecDepth 100000 in
theorem oth_edge {y z : Nat} : edge (othG N b) y z ↔ y < N.length ∧ ∃ x, edge N (unren N.length b y) x ∧ ren N.length b x = z := by
  unfold edge
  by_cases h : y < N.length
  · rw [oth_at h, List.mem_map]
    exact ⟨fun e => ⟨h, e⟩, fun e => e.2⟩
  · rw [List.getD_eq_getElem?_getD, List.getElem?_eq_none (by rw [oth_len]; omega)]
    exact ⟨fun e => (by cases e), fun e => absurd e.1 h⟩
include hN
set_option maxRecDepth 100000 in
theorem oth_ok : GOk (othG N b) := fun y z e => by
  obtain ⟨_, x, e1, rfl⟩ := oth_edge.1 e
  rw [oth_len]; exact ren_lt (hN _ _ e1)
include hb
set_option maxRecDepth 100000 in
theorem oth_reach1 {y z : Nat} (h : Reach (othG N b) y z) : Reach N (unren N.length b y) (unren N.length b z) := by
  induction h with
  | refl => exact .refl _
  | tail _ e ih =>
    obtain ⟨_, x, e1, rfl⟩ := oth_edge.1 e
    rw [un_ren hb (hN _ _ e1)]
    exact ih.tail e1
set_option maxRecDepth 100000 in
theorem oth_reach2 {i k : Nat} (hi : i < N.length) (h : Reach N i k) : Reach (othG N b) (ren N.length b i) (ren N.length b k) := by
  induction h with
  | refl => exact .refl _
  | @tail j k h e ih =>
    have hj := reach_lt hN h hi
    exact ih.tail (oth_edge.2 ⟨ren_lt hj, k, by rw [un_ren hb hj]; exact e, rfl⟩)
set_option maxRecDepth 100000 in
theorem oth_iff {i k : Nat} (hi : i < N.length) (hk : k < N.length) : Reach (othG N b) (ren N.length b i) (ren N.length b k) ↔ Reach N i k := by
  constructor
  · intro h
    have := oth_reach1 hN hb h
    rwa [un_ren hb hi, un_ren hb hk] at this
  · exact oth_reach2 hN hb hi
set_option maxRecDepth 100000 in
theorem oth_comps : (comps (othG N b)).Perm ((comps N).map fun c => sortN (c.map (ren N.length b))) := by
  have hmem : ∀ {c : List Nat} {x : Nat}, x ∈ sortN (c.map (ren N.length b)) ↔ ∃ i ∈ c, ren N.length b i = x := fun {c x} => by
    rw [(sortN_perm _).mem_iff, List.mem_map]
  have hlt : ∀ {c : List Nat}, c ∈ comps N → ∀ {i}, i ∈ c → i < N.length := fun hc _ hi => comp_lt hc hi
  obtain ⟨l, hp, hs⟩ : ∃ l : List (List Nat), l.Perm ((comps N).map fun c => sortN (c.map (ren N.length b))) ∧ l.Pairwise fun a b => a.headD 0 ≤ b.headD 0 := by
    refine ⟨List.mergeSort ((comps N).map fun c => sortN (c.map (ren N.length b))) (fun a b => decide (a.headD 0 ≤ b.headD 0)), List.mergeSort_perm _ _, ?_⟩
    have := List.pairwise_mergeSort (le := fun x y : List Nat => decide (x.headD 0 ≤ y.headD 0)) (by intro a b c h1 h2; simp only [decide_eq_true_eq] at *; omega) (by intro a b; simp only [Bool.or_eq_true, decide_eq_true_eq]; omega) ((comps N).map fun c => sortN (c.map (ren N.length b)))
    exact this.imp fun h => of_decide_eq_true h
  have e : l = comps (othG N b) := by
    refine comps_of (oth_ok hN) hp hs (fun p hp => ?_) ?_ fun x => ?_
    · obtain ⟨c, hc, rfl⟩ := List.mem_map.1 hp
      obtain ⟨hne, hpw⟩ := comp_pw hN hc
      refine ⟨fun h => hne ?_, sortN_lt ?_, fun x hx y => ?_⟩
      · have := congrArg List.length h
        rw [(sortN_perm _).length_eq, List.length_map] at this
        exact List.eq_nil_of_length_eq_zero this
      · exact List.pairwise_map.2 (hpw.imp_of_mem fun {i k} hi hk h e => by
          have := ren_inj hb (hlt hc hi) (hlt hc hk) e; omega)
      · obtain ⟨i, hi, rfl⟩ := hmem.1 hx
        have hin := hlt hc hi
        rw [hmem]
        constructor
        · rintro ⟨k, hk, rfl⟩
          have hkn := hlt hc hk
          have := (same_iff hN i k).1 ((comp_same hN hc hi).1 hk)
          exact ⟨(oth_iff hN hb hin hkn).2 this.1, (oth_iff hN hb hkn hin).2 this.2⟩
        · rintro ⟨h1, h2⟩
          have hy := reach_lt (oth_ok hN) h1 (by rw [oth_len]; exact ren_lt hin)
          rw [oth_len] at hy
          have hun := unren_lt (b := b) hy
          rw [← ren_un hb hy] at h1 h2
          exact ⟨_, (comp_same hN hc hi).2 ((same_iff hN _ _).2 ⟨(oth_iff hN hb hin hun).1 h1, (oth_iff hN hb hun hin).1 h2⟩), ren_un hb hy⟩
    · refine List.pairwise_map.2 ((comps_disj hN).imp_of_mem fun {c d} hc hd h x hx hy => ?_)
      obtain ⟨i, hi, rfl⟩ := hmem.1 hx
      obtain ⟨k, hk, e⟩ := hmem.1 hy
      exact h i hi k hk (ren_inj hb (hlt hd hk) (hlt hc hi) e).symm
    · rw [oth_len]
      constructor
      · rintro ⟨p, hp, hx⟩
        obtain ⟨c, hc, rfl⟩ := List.mem_map.1 hp
        obtain ⟨i, hi, rfl⟩ := hmem.1 hx
        exact ren_lt (hlt hc hi)
      · intro hx
        obtain ⟨c, h1, h2⟩ := ofN_mem hN (unren_lt (b := b) hx)
        exact ⟨_, List.mem_map_of_mem (List.mem_of_getElem? h1), hmem.2 ⟨_, h2, ren_un hb hx⟩⟩
  rw [← e]; exact hp
set_option maxRecDepth 100000 in
theorem oth_comps_len : (comps (othG N b)).length = (comps N).length := by rw [(oth_comps hN hb).length_eq, List.length_map]
set_option maxRecDepth 100000 in
theorem oth_of {i k : Nat} (hi : i < N.length) (hk : k < N.length) (h : ofN N i = ofN N k) : ofN (othG N b) (ren N.length b i) = ofN (othG N b) (ren N.length b k) := by
  obtain ⟨h1, h2⟩ := (same_iff hN i k).1 ((of_same hN hi hk).1 h)
  exact (of_same (oth_ok hN) (by rw [oth_len]; exact ren_lt hi) (by rw [oth_len]; exact ren_lt hk)).2 ((same_iff (oth_ok hN) _ _).2 ⟨(oth_iff hN hb hi hk).2 h1, (oth_iff hN hb hk hi).2 h2⟩)
set_option maxRecDepth 100000 in
theorem oth_size {a i : Nat} {c : List Nat} (hc : (comps N)[a]? = some c) (hi : i ∈ c) : ∃ d, (comps (othG N b))[ofN (othG N b) (ren N.length b i)]? = some d ∧ d.length = c.length := by
  have hin := comp_lt (List.mem_of_getElem? hc) hi
  obtain ⟨d, h1, h2⟩ := ofN_mem (oth_ok (b := b) hN) (x := ren N.length b i) (by rw [oth_len]; exact ren_lt hin)
  refine ⟨d, h1, ?_⟩
  have h3 := (oth_comps hN hb).mem_iff.1 (List.mem_of_getElem? h1)
  obtain ⟨c', hc', rfl⟩ := List.mem_map.1 h3
  rw [(sortN_perm _).mem_iff, List.mem_map] at h2
  obtain ⟨k, hk, e⟩ := h2
  have := ren_inj hb (comp_lt hc' hk) hin e
  subst this
  obtain ⟨j, hj⟩ := List.mem_iff_getElem?.1 hc'
  have hja := comp_inj hN hj hc hk hi
  subst hja
  rw [hc] at hj
  injection hj with hj
  rw [(sortN_perm _).length_eq, List.length_map, hj]
end
end Go.Proofs.Ytfokjpmcifkoeaa.Scc
