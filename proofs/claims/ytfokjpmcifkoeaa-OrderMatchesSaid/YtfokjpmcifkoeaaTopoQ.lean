/- The order with a heap of the nodes that are ready, in plain words. No condition. -/
import Derived.Test.YtfokjpmcifkoeaaPlain
import Derived.Test.YtfokjpmcifkoeaaRevM
namespace Go.Proofs.Ytfokjpmcifkoeaa.Scc
open Heap
/-- To how many places of its row a node still leads. -/
def leftN (g : G) (T : List Nat) (x : Nat) : Nat := ((g.getD x []).filter fun k => !T.contains k).length
set_option maxRecDepth 100000 in
theorem left_nil (g : G) (x : Nat) : leftN g [] x = (g.getD x []).length := by
  unfold leftN
  rw [List.filter_eq_self.2 (by simp)]
set_option maxRecDepth 100000 in
theorem left_zero {g : G} {T : List Nat} {x : Nat} : leftN g T x = 0 ↔ ∀ k, edge g x k → k ∈ T := by
  unfold leftN edge
  rw [List.length_eq_zero_iff, List.filter_eq_nil_iff]
  simp
set_option maxRecDepth 100000 in
theorem left_le (g : G) (T : List Nat) (x : Nat) : leftN g T x ≤ (g.getD x []).length := List.length_filter_le ..
set_option maxRecDepth 100000 in
theorem may_left {g : G} {T : List Nat} {x : Nat} : mayB g T x = true ↔ x ∉ T ∧ leftN g T x = 0 := by rw [mayB_iff, left_zero]
/-- The nodes that lead to i, as often as they do. -/
def bk (g : G) (i : Nat) : List Nat := backP g g.length 0 i
set_option maxRecDepth 100000 in
theorem cnt_row (i j x : Nat) (r : List Nat) : (cntRow i j r).count x = if j = x then r.count i else 0 := by
  unfold cntRow
  by_cases e : j = x
  · subst e
    rw [if_pos rfl, List.count_eq_length.2 (fun b hb => by obtain ⟨_, _, rfl⟩ := List.mem_map.1 hb; rfl), List.length_map, List.count_eq_length_filter]
  · rw [if_neg e]
    exact List.count_eq_zero.2 fun h => by obtain ⟨_, _, h⟩ := List.mem_map.1 h; exact e h
set_option maxRecDepth 100000 in
theorem cnt_back (g : G) (i x : Nat) : ∀ n, ((List.range n).flatMap fun j => cntRow i j (g.getD j [])).count x = if x < n then (g.getD x []).count i else 0
  | 0 => by simp
  | n + 1 => by
    rw [List.range_succ, List.flatMap_append, List.count_append, cnt_back g i x n]
    have : ([n].flatMap fun j => cntRow i j (g.getD j [])).count x = if n = x then (g.getD n []).count i else 0 := by
      rw [List.flatMap_cons, List.flatMap_nil, List.append_nil]; exact cnt_row ..
    rw [this]
    by_cases h1 : x < n
    · rw [if_pos h1, if_neg (by omega), if_pos (by omega)]; rfl
    · by_cases h2 : n = x
      · subst h2; rw [if_neg h1, if_pos rfl, if_pos (by omega), Nat.zero_add]
      · rw [if_neg h1, if_neg h2, if_neg (by omega)]
set_option maxRecDepth 100000 in
theorem bk_count {g : G} {i x : Nat} (h : x < g.length) : (bk g i).count x = (g.getD x []).count i := by
  unfold bk backP
  have e : cntRow i g.length ((g.getD g.length []).take 0) = [] := by simp [cntRow]
  rw [e, List.append_nil, cnt_back, if_pos h]
set_option maxRecDepth 100000 in
theorem mem_bk {g : G} {i x : Nat} : x ∈ bk g i ↔ edge g x i := mem_back
set_option maxRecDepth 100000 in
theorem left_snoc {g : G} {T : List Nat} {i : Nat} (x : Nat) (hi : i ∉ T) : leftN g (T ++ [i]) x + (g.getD x []).count i = leftN g T x := by
  unfold leftN
  generalize g.getD x [] = r
  induction r with
  | nil => rfl
  | cons y r ih =>
    by_cases e : y = i
    · subst e
      have h1 : ((T ++ [y]).contains y) = true := by simp
      have h2 : T.contains y = false := by simpa using hi
      rw [List.filter_cons_of_neg (by rw [h1]; decide), List.filter_cons_of_pos (by rw [h2]; rfl), List.count_cons_self, List.length_cons]
      omega
    · have h1 : ((T ++ [i]).contains y) = T.contains y := by
        rw [Bool.eq_iff_iff]
        simp only [List.contains_iff_mem, List.mem_append, List.mem_singleton]
        exact ⟨fun h => h.resolve_right e, .inl⟩
      rw [List.count_cons_of_ne e]
      cases h2 : T.contains y with
      | true =>
        rw [List.filter_cons_of_neg (by rw [h1, h2]; decide), List.filter_cons_of_neg (by rw [h2]; decide)]
        exact ih
      | false =>
        rw [List.filter_cons_of_pos (by rw [h1, h2]; rfl), List.filter_cons_of_pos (by rw [h2]; rfl), List.length_cons, List.length_cons]
        omega
/-- What is missing when j of those that lead to the next are done. -/
def missJ (g : G) (T : List Nat) (i j x : Nat) : Nat := leftN g T x - ((bk g i).take j).count x
set_option maxRecDepth 100000 in
theorem miss_zero (g : G) (T : List Nat) (i x : Nat) : missJ g T i 0 x = leftN g T x := by simp [missJ]
set_option maxRecDepth 100000 in
theorem miss_end {g : G} {T : List Nat} {i x : Nat} (hi : i ∉ T) (hx : x < g.length) : missJ g T i (bk g i).length x = leftN g (T ++ [i]) x := by
  unfold missJ
  rw [List.take_length, bk_count hx]
  have := left_snoc (g := g) x hi
  omega
set_option maxRecDepth 100000 in
theorem miss_next {g : G} {T : List Nat} {i j k : Nat} (hi : i ∉ T) (h : (bk g i)[j]? = some k) : missJ g T i j k = missJ g T i (j + 1) k + 1 := by
  have hk : edge g k i := mem_bk.1 (List.mem_of_getElem? h)
  have hkn := edge_lt hk
  have h1 : ((bk g i).take (j + 1)).count k ≤ (bk g i).count k := (List.take_sublist ..).count_le k
  have h2 : ((bk g i).take (j + 1)).count k = ((bk g i).take j).count k + 1 := by rw [List.take_add_one, h]; simp
  rw [bk_count hkn] at h1
  have h3 := left_snoc (g := g) k hi
  unfold missJ
  omega
set_option maxRecDepth 100000 in
theorem miss_other {g : G} {T : List Nat} {i j k x : Nat} (h : (bk g i)[j]? = some k) (hx : x ≠ k) : missJ g T i (j + 1) x = missJ g T i j x := by
  unfold missJ
  rw [List.take_add_one, h]
  have : [k].count x = 0 := by rw [List.count_eq_zero]; simpa using hx
  simp [List.count_append, this]
/-- The heap holds the nodes that are not in the order and to which nothing is missing. -/
structure Rdy (g : G) (T : List Nat) (M : Nat → Nat) (L : List Nat) : Prop where
  nodup : L.Nodup
  mem : ∀ x, x ∈ L ↔ x < g.length ∧ x ∉ T ∧ M x = 0
set_option maxRecDepth 100000 in
theorem Rdy.len {g : G} {T : List Nat} {M : Nat → Nat} {L : List Nat} (h : Rdy g T M L) : L.length ≤ g.length := by
  have := nodup_len (m := List.range g.length) h.nodup fun x hx => List.mem_range.2 ((h.mem x).1 hx).1
  rwa [List.length_range] at this
/-- While the first i nodes are looked at. -/
structure Rdy0 (g : G) (i : Nat) (L : List Nat) : Prop where
  nodup : L.Nodup
  mem : ∀ x, x ∈ L ↔ x < i ∧ (g.getD x []).length = 0
set_option maxRecDepth 100000 in
theorem Rdy0.len {g : G} {i : Nat} {L : List Nat} (h : Rdy0 g i L) : L.length ≤ i := by
  have := nodup_len (m := List.range i) h.nodup fun x hx => List.mem_range.2 ((h.mem x).1 hx).1
  rwa [List.length_range] at this
set_option maxRecDepth 100000 in
theorem rdy0_nil (g : G) : Rdy0 g 0 [] := ⟨.nil, fun x => ⟨fun h => (by cases h), fun h => absurd h.1 (Nat.not_lt_zero _)⟩⟩
set_option maxRecDepth 100000 in
theorem rdy0_skip {g : G} {i : Nat} {L : List Nat} (h : Rdy0 g i L) (hr : (g.getD i []).length ≠ 0) : Rdy0 g (i + 1) L :=
  ⟨h.nodup, fun x => (h.mem x).trans ⟨fun q => ⟨by omega, q.2⟩, fun q => ⟨by
    have := q.1
    by_cases e : x = i
    · subst e; exact absurd q.2 hr
    · omega, q.2⟩⟩⟩
set_option maxRecDepth 100000 in
theorem rdy0_push {g : G} {i : Nat} {L L' : List Nat} (h : Rdy0 g i L) (hr : (g.getD i []).length = 0) (hp : L'.Perm (i :: L)) : Rdy0 g (i + 1) L' :=
  ⟨hp.nodup_iff.2 (List.nodup_cons.2 ⟨fun hm => Nat.lt_irrefl _ ((h.mem i).1 hm).1, h.nodup⟩), fun x => by
    rw [hp.mem_iff, List.mem_cons, h.mem x]
    constructor
    · rintro (rfl | q)
      · exact ⟨by omega, hr⟩
      · exact ⟨by omega, q.2⟩
    · rintro ⟨q1, q2⟩
      by_cases e : x = i
      · exact .inl e
      · exact .inr ⟨by omega, q2⟩⟩
set_option maxRecDepth 100000 in
theorem rdy_start {g : G} {L : List Nat} (h : Rdy0 g g.length L) : Rdy g [] (leftN g []) L :=
  ⟨h.nodup, fun x => by rw [h.mem x, left_nil]; simp⟩
set_option maxRecDepth 100000 in
theorem Rdy.congr {g : G} {T L : List Nat} {M M' : Nat → Nat} (h : Rdy g T M L) (e : ∀ x, x < g.length → M' x = M x) : Rdy g T M' L :=
  ⟨h.nodup, fun x => (h.mem x).trans ⟨fun q => ⟨q.1, q.2.1, (e x q.1).trans q.2.2⟩, fun q => ⟨q.1, q.2.1, (e x q.1).symm.trans q.2.2⟩⟩⟩
set_option maxRecDepth 100000 in
theorem at0_mem {L : List Nat} (h : 0 < L.length) : at0 L 0 ∈ L := by cases L with
  | nil => exact absurd h (Nat.lt_irrefl _)
  | cons x l => exact List.mem_cons_self ..
set_option maxRecDepth 100000 in
theorem mem_at0 {L : List Nat} {x : Nat} (h : x ∈ L) : ∃ k, k < L.length ∧ at0 L k = x := by
  obtain ⟨k, hk, e⟩ := List.mem_iff_getElem.1 h
  exact ⟨k, hk, by simp [at0, hk, e]⟩
section
variable {g : G} (hg : GOk g) (ha : Acyc g)
include hg ha
set_option maxRecDepth 100000 in
/-- While the heap has nodes there is a next one: its first. -/
theorem rdy_pop {m : Nat} {L L' : List Nat} (hm : m ≤ g.length) (h : Rdy g (topoN g m) (leftN g (topoN g m)) L) (h0 : 0 < L.length) (hH : Hp L L.length) (hp : (at0 L 0 :: L').Perm L) :
    m < g.length ∧ at0 L 0 < g.length ∧ at0 L 0 ∉ topoN g m ∧ leftN g (topoN g m) (at0 L 0) = 0 ∧ topoN g (m + 1) = topoN g m ++ [at0 L 0] ∧ Rdy g (topoN g (m + 1)) (leftN g (topoN g m)) L' := by
  obtain ⟨ho, hol⟩ := topo_ord hg ha m hm
  have h1 := at0_mem h0
  obtain ⟨h2, h3, h4⟩ := (h.mem _).1 h1
  have hlt : m < g.length := by
    have h5 : (at0 L 0 :: topoN g m).Nodup := List.nodup_cons.2 ⟨h3, ho.nodup⟩
    have := nodup_len (m := List.range g.length) h5 fun x hx => by
      rcases List.mem_cons.1 hx with rfl | hx
      · exact List.mem_range.2 h2
      · exact List.mem_range.2 (ho.lt x hx)
    rw [List.length_cons, List.length_range] at this
    omega
  obtain ⟨i, e, hi, hb, hl⟩ := topo_next hg ha hlt
  obtain ⟨k1, k2⟩ := may_left.1 hb
  have hiL : i ∈ L := (h.mem i).2 ⟨hi, k1, k2⟩
  obtain ⟨k, hk, ek⟩ := mem_at0 hiL
  have h6 := hp_min hH k hk
  rw [ek] at h6
  have h7 : at0 L 0 = i := by
    refine Nat.le_antisymm h6 (Nat.le_of_not_lt fun hlt2 => ?_)
    have := hl _ hlt2
    rw [may_left.2 ⟨h3, h4⟩] at this
    cases this
  have hnd : (at0 L 0 :: L').Nodup := hp.nodup_iff.2 h.nodup
  obtain ⟨n1, n2⟩ := List.nodup_cons.1 hnd
  refine ⟨hlt, h2, h3, h4, by rw [h7]; exact e, ⟨n2, fun x => ?_⟩⟩
  rw [e, ← h7]
  have hx : x ∈ at0 L 0 :: L' ↔ x ∈ L := hp.mem_iff
  rw [h.mem x, List.mem_cons] at hx
  rw [List.mem_append, List.mem_singleton]
  constructor
  · intro q
    obtain ⟨q1, q2, q3⟩ := hx.1 (.inr q)
    exact ⟨q1, fun q4 => q4.elim q2 fun e => n1 (e ▸ q), q3⟩
  · rintro ⟨q1, q2, q3⟩
    rcases hx.2 ⟨q1, fun q => q2 (.inl q), q3⟩ with q | q
    · exact absurd (.inr q) q2
    · exact q
set_option maxRecDepth 100000 in
/-- An empty heap: the order is done. -/
theorem rdy_nil {m : Nat} {L : List Nat} (hm : m ≤ g.length) (h : Rdy g (topoN g m) (leftN g (topoN g m)) L) (h0 : ¬0 < L.length) : m = g.length := by
  refine Nat.le_antisymm hm (Nat.le_of_not_lt fun hlt => ?_)
  obtain ⟨i, _, hi, hb, _⟩ := topo_next hg ha hlt
  obtain ⟨k1, k2⟩ := may_left.1 hb
  have hiL : i ∈ L := (h.mem i).2 ⟨hi, k1, k2⟩
  exact h0 (List.length_pos_of_mem hiL)
set_option maxRecDepth 100000 in
theorem bk_notin {m i j k : Nat} (hm : m < g.length) (hi : i ∉ topoN g m) (hz : leftN g (topoN g m) i = 0) (e : topoN g (m + 1) = topoN g m ++ [i]) (h : (bk g i)[j]? = some k) : k < g.length ∧ k ∉ topoN g (m + 1) := by
  have hk : edge g k i := mem_bk.1 (List.mem_of_getElem? h)
  refine ⟨edge_lt hk, fun hm' => ?_⟩
  obtain ⟨ho, _⟩ := topo_ord hg ha m (by omega)
  rw [e] at hm'
  rcases List.mem_append.1 hm' with q | q
  · exact hi (ho.closed k q i hk)
  · rw [List.mem_singleton] at q
    subst q
    exact hi (left_zero.1 hz k hk)
omit hg ha in
set_option maxRecDepth 100000 in
theorem rdy_push {T : List Nat} {T0 : List Nat} {i j k : Nat} {L L' : List Nat} (h : Rdy g T (missJ g T0 i j) L) (hi : i ∉ T0) (hb : (bk g i)[j]? = some k) (hk : k < g.length ∧ k ∉ T) (hv : missJ g T0 i (j + 1) k = 0) (hp : L'.Perm (k :: L)) : Rdy g T (missJ g T0 i (j + 1)) L' := by
  have h1 := miss_next hi hb
  refine ⟨hp.nodup_iff.2 (List.nodup_cons.2 ⟨fun hm => ?_, h.nodup⟩), fun x => ?_⟩
  · have := ((h.mem k).1 hm).2.2; omega
  · rw [hp.mem_iff, List.mem_cons, h.mem x]
    by_cases e : x = k
    · subst e
      exact ⟨fun _ => ⟨hk.1, hk.2, hv⟩, fun _ => .inl rfl⟩
    · rw [miss_other hb e]
      exact ⟨fun q => q.resolve_left e, .inr⟩
omit hg ha in
set_option maxRecDepth 100000 in
theorem rdy_keep {T : List Nat} {T0 : List Nat} {i j k : Nat} {L : List Nat} (h : Rdy g T (missJ g T0 i j) L) (hi : i ∉ T0) (hb : (bk g i)[j]? = some k) (hv : missJ g T0 i (j + 1) k ≠ 0) : Rdy g T (missJ g T0 i (j + 1)) L := by
  have h1 := miss_next hi hb
  refine ⟨h.nodup, fun x => ?_⟩
  rw [h.mem x]
  by_cases e : x = k
  · subst e
    exact ⟨fun q => absurd q.2.2 (by omega), fun q => absurd q.2.2 hv⟩
  · rw [miss_other hb e]
end
/-- A row of numbers for the nodes. -/
def mrow (n : Nat) (f : Nat → Nat) : List Nat := (List.range n).map f
set_option maxRecDepth 100000 in
theorem mrow_len (n : Nat) (f : Nat → Nat) : (mrow n f).length = n := by simp [mrow]
set_option maxRecDepth 100000 in
theorem mrow_at {n : Nat} (f : Nat → Nat) {k : Nat} (h : k < n) : at0 (mrow n f) k = f k := by simp [mrow, at0, h]
set_option maxRecDepth 100000 in
theorem mrow_set {n : Nat} {f f' : Nat → Nat} {k v : Nat} (h1 : f' k = v) (h2 : ∀ x, x < n → x ≠ k → f' x = f x) : (mrow n f).set k v = mrow n f' := by
  unfold mrow
  refine List.ext_getElem? fun y => ?_
  rw [List.getElem?_set]
  by_cases hy : y < n
  · rw [List.getElem?_map, List.getElem?_map, List.getElem?_range hy]
    split
    · rename_i e; subst e; rw [if_pos (by simpa using hy), ← h1]; rfl
    · rename_i e; show some (f y) = some (f' y); rw [h2 y hy fun e' => e e'.symm]
  · rw [List.getElem?_eq_none (l := (List.range n).map f') (by simp; omega)]
    split
    · rw [if_neg (by simp; omega)]
    · exact List.getElem?_eq_none (by simp; omega)
set_option maxRecDepth 100000 in
theorem mrow_congr {n : Nat} {f f' : Nat → Nat} (h : ∀ x, x < n → f x = f' x) : mrow n f = mrow n f' := List.map_congr_left fun x hx => h x (List.mem_range.1 hx)
end Go.Proofs.Ytfokjpmcifkoeaa.Scc
