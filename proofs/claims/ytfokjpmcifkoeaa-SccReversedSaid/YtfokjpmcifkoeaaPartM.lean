/- What the law SccParts asks, in plain words: arrays over the nodes, components, loops. No condition. -/
import Derived.Test.YtfokjpmcifkoeaaCD
import Derived.Test.YtfokjpmcifkoeaaCE0
import Derived.Test.YtfokjpmcifkoeaaComp3
namespace Go.Proofs.Ytfokjpmcifkoeaa
open Pv Go.RowKit Scc
set_option maxRecDepth 100000 in
theorem eqInB {P : Program} (w : World) (n : Nat) (t : TypeId) (a b : Bool) (hu : P.underlying t = some .bool) : (Op.equalIn (n + 1) t (.bool a) (.bool b)).run P w = .ok (a == b) w := by
  simp [Op.equalIn, run_underlying hu]
set_option maxRecDepth 100000 in
theorem eqB {P : Program} (w : World) (t : TypeId) (a b : Bool) (hu : P.underlying t = some .bool) : (Op.equal t (.bool a) (.bool b)).run P w = .ok (a == b) w := eqInB w 9999 t a b hu
set_option maxRecDepth 100000 in
theorem eqlB {P : Program} {t : TypeId} {x y : Operand} {a b : Bool} (hu : P.underlying t = some .bool) : BinRun P .eql t x y (.bool a) (.bool b) (.bool (a == b)) := fun w => by
  have hb : binOp .eql t (.bool a) (.bool b) = (do pure (.bool (← Op.equal t (.bool a) (.bool b)))) := rfl
  have hg : (eqGuard .eql t x y (.bool a) (.bool b)).run P w = .ok () w := rfl
  rw [Sem.run_bind, hg, hb, Result.andThen_ok, Sem.run_bind, eqB w t a b hu, Result.andThen_ok, Sem.run_pure]
set_option maxRecDepth 100000 in
theorem neqB {P : Program} {t : TypeId} {x y : Operand} {a b : Bool} (hu : P.underlying t = some .bool) : BinRun P .neq t x y (.bool a) (.bool b) (.bool (!(a == b))) := fun w => by
  have hb : binOp .neq t (.bool a) (.bool b) = (do pure (.bool (!(← Op.equal t (.bool a) (.bool b))))) := rfl
  have hg : (eqGuard .neq t x y (.bool a) (.bool b)).run P w = .ok () w := rfl
  rw [Sem.run_bind, hg, hb, Result.andThen_ok, Sem.run_bind, eqB w t a b hu, Result.andThen_ok, Sem.run_pure]
/-- The numbers f 0 .. f (n - 1), as cells. -/
def arr (n : Nat) (f : Nat → Int) : List (List Value) := (List.range n).map fun x => [Value.int .i64 (f x)]
set_option maxRecDepth 100000 in
theorem arr_len (n : Nat) (f : Nat → Int) : (arr n f).length = n := by simp [arr]
set_option maxRecDepth 100000 in
theorem arr_wid (n : Nat) (f : Nat → Int) : ∀ e ∈ arr n f, e.length = 1 := map_len fun _ => rfl
set_option maxRecDepth 100000 in
theorem arr_at {n x : Nat} (f : Nat → Int) (h : x < n) : (arr n f)[x]? = some [.int .i64 (f x)] := by unfold arr; rw [List.getElem?_map, List.getElem?_range h]; rfl
set_option maxRecDepth 100000 in
theorem arr_ext {n : Nat} {f f' : Nat → Int} (h : ∀ x, x < n → f x = f' x) : arr n f = arr n f' := List.map_congr_left fun x hx => by rw [h x (List.mem_range.1 hx)]
set_option maxRecDepth 100000 in
theorem arr_set {n x : Nat} {f f' : Nat → Int} {v : Int} (h : ∀ y, y < n → y ≠ x → f' y = f y) (hx : f' x = v) : (arr n f).set x [.int .i64 v] = arr n f' := by
  refine List.ext_getElem? fun y => ?_
  rw [List.getElem?_set]
  by_cases hy : y < n
  · rw [arr_at f' hy]
    split
    · rename_i e; subst e; rw [if_pos (by rw [arr_len]; exact hy), hx]
    · rename_i e; rw [arr_at f hy, h y hy (fun e' => e e'.symm)]
  · rw [List.getElem?_eq_none (l := arr n f') (by rw [arr_len]; omega)]
    split
    · rw [if_neg (by rw [arr_len]; omega)]
    · exact List.getElem?_eq_none (by rw [arr_len]; omega)
set_option maxRecDepth 100000 in
theorem arr_rep (n : Nat) : List.replicate n [Value.int .i64 0] = arr n fun _ => 0 := by
  symm
  refine List.eq_replicate_iff.2 ⟨arr_len _ _, fun b hb => ?_⟩
  obtain ⟨x, _, rfl⟩ := List.mem_map.1 hb
  rfl
set_option maxRecDepth 100000 in
theorem arr_int (L : List Nat) : (intR L).map ival = arr L.length fun x => ((L.getD x 0 : Nat) : Int) := by
  refine List.ext_getElem? fun y => ?_
  by_cases hy : y < L.length
  · rw [arr_at _ hy]
    simp [intR, ival, hy, List.getD_eq_getElem?_getD]
  · rw [List.getElem?_eq_none (by simp [intR]; omega), List.getElem?_eq_none (by rw [arr_len]; omega)]
set_option maxRecDepth 100000 in
theorem fit_valid (g : List (List Int)) : ∃ N : G, GOk N ∧ fitG g = intG N ∧ N.length ≤ 24 ∧ ∀ r ∈ N, r.length ≤ 30 := by
  have hv : validG (fitG g) = true := by
    have hl : (fitG g).length = (cutG g).length := by simp [fitG]
    refine List.all_eq_true.2 fun r hr => List.all_eq_true.2 fun y hy => ?_
    obtain ⟨q, hq, rfl⟩ := List.mem_map.1 hr
    obtain ⟨z, _, rfl⟩ := List.mem_map.1 hy
    have := fitV_ok (cutG g).length (List.length_pos_of_mem hq) z
    exact decide_eq_true (by rw [hl]; exact this)
  obtain ⟨N, hN, e⟩ := valid_nat hv
  refine ⟨N, hN, e, ?_, fun r hr => ?_⟩
  · have := congrArg List.length e
    have h2 := cutG_len g
    simp [fitG] at this
    omega
  · have : intR r ∈ fitG g := by rw [e]; exact List.mem_map_of_mem hr
    obtain ⟨q, hq, e2⟩ := List.mem_map.1 this
    have h2 := cutG_row hq
    have := congrArg List.length e2
    simp [intR] at this
    omega
section
variable {N : G} (hN : GOk N)
/-- The numbers of the components: those below i are known. -/
def ofI (N : G) (i : Nat) (x : Nat) : Int := if ofN N x < i then (ofN N x : Int) else -1
def ofK (N : G) (i : Nat) (c : List Nat) (k : Nat) (x : Nat) : Int := if ofN N x < i ∨ x ∈ c.take k then (ofN N x : Int) else -1
set_option maxRecDepth 100000 in
theorem ofK_zero (i : Nat) (c : List Nat) : ofK N i c 0 = ofI N i := by funext x; simp [ofK, ofI]
include hN
set_option maxRecDepth 100000 in
theorem comp_sorted {i : Nat} {c : List Nat} (hc : (comps N)[i]? = some c) {k : Nat} {x y : Nat} (hx : c[k]? = some x) (hy : c[k + 1]? = some y) : x < y := by
  have h := (comp_pw hN (List.mem_of_getElem? hc)).2
  obtain ⟨h1, rfl⟩ := List.getElem?_eq_some_iff.1 hx
  obtain ⟨h2, rfl⟩ := List.getElem?_eq_some_iff.1 hy
  exact List.pairwise_iff_getElem.1 h _ _ h1 h2 (Nat.lt_succ_self _)
set_option maxRecDepth 100000 in
theorem ofK_here {i : Nat} {c : List Nat} (hc : (comps N)[i]? = some c) {k x : Nat} (hx : c[k]? = some x) : ofK N i c k x = -1 := by
  unfold ofK
  rw [if_neg]
  rw [ofN_eq hN hc (List.mem_of_getElem? hx)]
  rintro (h | h)
  · omega
  · obtain ⟨j, hj, e⟩ := List.mem_iff_getElem.1 h
    have hjk : j < k := by rw [List.length_take] at hj; omega
    have h' := (comp_pw hN (List.mem_of_getElem? hc)).2
    obtain ⟨h2, e2⟩ := List.getElem?_eq_some_iff.1 hx
    have := List.pairwise_iff_getElem.1 h' j k (by omega) h2 hjk
    rw [List.getElem_take] at e
    omega
set_option maxRecDepth 100000 in
theorem ofK_next {i : Nat} {c : List Nat} (hc : (comps N)[i]? = some c) {k x : Nat} (hx : c[k]? = some x) : (∀ y, y ≠ x → ofK N i c (k + 1) y = ofK N i c k y) ∧ ofK N i c (k + 1) x = (i : Int) := by
  have e : ∀ y, y ∈ c.take (k + 1) ↔ y ∈ c.take k ∨ y = x := fun y => by rw [List.take_add_one, hx]; simp
  refine ⟨fun y hy => ?_, ?_⟩
  · unfold ofK
    simp only [e, hy, or_false]
  · unfold ofK
    rw [if_pos (.inr ((e x).2 (.inr rfl))), ofN_eq hN hc (List.mem_of_getElem? hx)]
set_option maxRecDepth 100000 in
theorem ofK_all {i : Nat} {c : List Nat} (hc : (comps N)[i]? = some c) {x : Nat} (hx : x < N.length) : ofK N i c c.length x = ofI N (i + 1) x := by
  have e : x ∈ c ↔ ofN N x = i := ⟨fun h => ofN_eq hN hc h, fun h => by
    obtain ⟨d, h1, h2⟩ := ofN_mem hN hx
    rw [h, hc] at h1
    injection h1 with h1
    subst h1; exact h2⟩
  unfold ofK ofI
  rw [List.take_length]
  by_cases h : ofN N x < i + 1
  · rw [if_pos h, if_pos]
    rcases Nat.lt_or_eq_of_le (Nat.le_of_lt_succ h) with h | h
    · exact .inl h
    · exact .inr (e.2 h)
  · rw [if_neg h, if_neg]
    rintro (h' | h')
    · omega
    · have := e.1 h'; omega
set_option maxRecDepth 100000 in
theorem ofI_all {x : Nat} (hx : x < N.length) : ofI N (comps N).length x = (ofN N x : Int) := if_pos (ofN_lt hN hx)
set_option maxRecDepth 100000 in
theorem heads_lt {i : Nat} {c d : List Nat} (hc : (comps N)[i]? = some c) (hd : (comps N)[i + 1]? = some d) : ∃ x y, c[0]? = some x ∧ d[0]? = some y ∧ x < y := by
  obtain ⟨h1, e1⟩ := List.getElem?_eq_some_iff.1 hc
  obtain ⟨h2, e2⟩ := List.getElem?_eq_some_iff.1 hd
  have h := List.pairwise_iff_getElem.1 (comps_heads hN) i (i + 1) h1 h2 (Nat.lt_succ_self _)
  rw [e1, e2] at h
  have q1 := (comp_pw hN (List.mem_of_getElem? hc)).1
  have q2 := (comp_pw hN (List.mem_of_getElem? hd)).1
  cases c with
  | nil => exact absurd rfl q1
  | cons x c =>
    cases d with
    | nil => exact absurd rfl q2
    | cons y d => exact ⟨x, y, rfl, rfl, h⟩
set_option maxRecDepth 100000 in
theorem of_same {i k : Nat} (hi : i < N.length) (hk : k < N.length) : ofN N i = ofN N k ↔ sameC N i k = true := by
  obtain ⟨c, h1, h2⟩ := ofN_mem hN hi
  obtain ⟨d, h3, h4⟩ := ofN_mem hN hk
  constructor
  · intro e
    rw [e, h3] at h1
    injection h1 with h1
    subst h1
    exact (comp_same hN (List.mem_of_getElem? h3) h2).1 h4
  · intro e
    have := (comp_same hN (List.mem_of_getElem? h1) h2).2 e
    exact (ofN_eq hN h1 this).symm
end
set_option maxRecDepth 100000 in
theorem same_bool {p q i k : Nat} {b1 b2 : Bool} (hs : p = q ↔ i = k ∨ b1 = true ∧ b2 = true) : decide ((p : Int) = (q : Int)) = (decide ((i : Int) = (k : Int)) || (b1 && b2)) := by
  have e1 : ((p : Int) = q) ↔ p = q := by omega
  have e2 : ((i : Int) = k) ↔ i = k := by omega
  rw [Bool.eq_iff_iff, decide_eq_true_iff, Bool.or_eq_true, Bool.and_eq_true, decide_eq_true_iff, e1, e2]
  exact hs
/-- How many loops lie below i. -/
def cnt (N : G) (i : Nat) : Nat := ((List.range i).filter fun x => R N x x).length
set_option maxRecDepth 100000 in
theorem cnt_succ (N : G) (i : Nat) : cnt N (i + 1) = if R N i i = true then cnt N i + 1 else cnt N i := by
  unfold cnt
  rw [List.range_succ, List.filter_append]
  cases h : R N i i <;> simp [h]
set_option maxRecDepth 100000 in
theorem loops_at {N : G} {i : Nat} (hi : i < N.length) (h : R N i i = true) : (loopsN N)[cnt N i]? = some i := by
  unfold loopsN cnt
  obtain ⟨m, hm⟩ : ∃ m, N.length = i + (m + 1) := ⟨N.length - i - 1, by omega⟩
  rw [hm, List.range_add, List.filter_append, List.getElem?_append_right (Nat.le_refl _), Nat.sub_self, List.range_succ_eq_map, List.map_cons, Nat.add_zero, List.filter_cons_of_pos (p := fun x => R N x x) h]
  rfl
def rowB (N : G) (i : Nat) : List Bool := (List.range N.length).map (R N i)
set_option maxRecDepth 100000 in
theorem rowB_at {N : G} {i k : Nat} (h : k < N.length) : ((rowB N i).map bval)[k]? = some [.bool (R N i k)] := by
  unfold rowB
  rw [List.getElem?_map, List.getElem?_map, List.getElem?_range h]; rfl
def reachR (N : G) (m : Nat) : List (List (List Value)) := (List.range m).map fun i => (rowB N i).map bval
set_option maxRecDepth 100000 in
theorem reachR_succ (N : G) (m : Nat) : reachR N (m + 1) = reachR N m ++ [(rowB N m).map bval] := by simp [reachR, List.range_succ]
set_option maxRecDepth 100000 in
theorem reachR_at {N : G} {m i : Nat} (h : i < m) : ((reachR N m).map fun e => [EV.sl 1 e])[i]? = some [EV.sl 1 ((rowB N i).map bval)] := by
  unfold reachR
  rw [List.getElem?_map, List.getElem?_map, List.getElem?_range h]; rfl
end Go.Proofs.Ytfokjpmcifkoeaa
