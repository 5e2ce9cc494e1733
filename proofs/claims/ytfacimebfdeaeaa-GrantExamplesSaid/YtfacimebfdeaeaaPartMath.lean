/- Plain laws of the parts of a range: definitions. No program in sight. -/
import Derived.Test.YtfacimebfdeaeaaStable
namespace Go.Proofs.Ytfacimebfdeaeaa
def noteC (r : Rect) (l : List Rule) : List (Int × Int) := l.filterMap fun x => if meets x.rect r then some ((meetR x.rect r).c1, (meetR x.rect r).c2) else none
def noteR (r : Rect) (l : List Rule) : List (Int × Int) := l.filterMap fun x => if meets x.rect r then some ((meetR x.rect r).r1, (meetR x.rect r).r2) else none
def colsP (r : Rect) (a b : List Rule) : List (Int × Int) := bandsL r.c1 r.c2 (noteC r a ++ noteC r b)
def rowsP (r : Rect) (a b : List Rule) : List (Int × Int) := bandsL r.r1 r.r2 (noteR r a ++ noteR r b)
def mkP (a b : List Rule) (y x : Int × Int) : Part := ⟨⟨x.1, y.1, x.2, y.2⟩, ((whichN ⟨x.1, y.1, x.2, y.2⟩ a a.length : Nat), (whichN ⟨x.1, y.1, x.2, y.2⟩ b b.length : Nat))⟩
def wider (q p : Part) : Part := ⟨⟨q.r.c1, q.r.r1, p.r.c2, q.r.r2⟩, q.which⟩
def stepP (Q : List Part) (p : Part) : List Part := match Q.getLast? with
  | none => [p]
  | some q => if q.which = p.which then Q.dropLast ++ [wider q p] else Q ++ [p]
def rowP (a b : List Rule) (C : List (Int × Int)) (y : Int × Int) : List Part := (C.map (mkP a b y)).foldl stepP []
def partsL (r : Rect) (a b : List Rule) : List Part := (rowsP r a b).flatMap (rowP a b (colsP r a b))
set_option maxRecDepth 100000 in
theorem stepP_nil (p : Part) : stepP [] p = [p] := rfl
set_option maxRecDepth 100000 in
theorem stepP_same {Q : List Part} {q p : Part} (h : q.which = p.which) : stepP (Q ++ [q]) p = Q ++ [wider q p] := by simp [stepP, h]
set_option maxRecDepth 100000 in
theorem stepP_new {Q : List Part} {q p : Part} (h : q.which ≠ p.which) : stepP (Q ++ [q]) p = Q ++ [q] ++ [p] := by simp [stepP, h]
set_option maxRecDepth 100000 in
theorem filterMap_succ {α β : Type} {f : α → Option β} {l : List α} {k : Nat} {x : α} (h : l[k]? = some x) : (l.take (k + 1)).filterMap f = (l.take k).filterMap f ++ (f x).toList := by
  rw [List.take_add_one, h, Option.toList_some, List.filterMap_append]
  cases hf : f x <;> simp [hf]
set_option maxRecDepth 100000 in
theorem noteC_succ {r : Rect} {l : List Rule} {k : Nat} {x : Rule} (h : l[k]? = some x) : noteC r (l.take (k + 1)) = noteC r (l.take k) ++ if meets x.rect r then [((meetR x.rect r).c1, (meetR x.rect r).c2)] else [] := by
  unfold noteC; rw [filterMap_succ h]; cases meets x.rect r <;> rfl
set_option maxRecDepth 100000 in
theorem noteR_succ {r : Rect} {l : List Rule} {k : Nat} {x : Rule} (h : l[k]? = some x) : noteR r (l.take (k + 1)) = noteR r (l.take k) ++ if meets x.rect r then [((meetR x.rect r).r1, (meetR x.rect r).r2)] else [] := by
  unfold noteR; rw [filterMap_succ h]; cases meets x.rect r <;> rfl
set_option maxRecDepth 100000 in
theorem noteC_len (r : Rect) (l : List Rule) : (noteC r l).length ≤ l.length := List.length_filterMap_le _ _
set_option maxRecDepth 100000 in
theorem noteR_len (r : Rect) (l : List Rule) : (noteR r l).length ≤ l.length := List.length_filterMap_le _ _
set_option maxRecDepth 100000 in
theorem noteC_small {r : Rect} {l : List Rule} {p : Int × Int} (h : p ∈ noteC r l) : 1 ≤ p.1 ∧ p.1 ≤ 1024 ∧ 1 ≤ p.2 ∧ p.2 ≤ 1024 := by
  obtain ⟨x, _, hx⟩ := List.mem_filterMap.1 h
  split at hx
  · rename_i hm
    injection hx with hx
    subst hx
    simp only [meets, Bool.and_eq_true] at hm
    have := ok_iff.1 hm.2.2
    simp only; omega
  · cases hx
set_option maxRecDepth 100000 in
theorem noteR_small {r : Rect} {l : List Rule} {p : Int × Int} (h : p ∈ noteR r l) : 1 ≤ p.1 ∧ p.1 ≤ 1024 ∧ 1 ≤ p.2 ∧ p.2 ≤ 1024 := by
  obtain ⟨x, _, hx⟩ := List.mem_filterMap.1 h
  split at hx
  · rename_i hm
    injection hx with hx
    subst hx
    simp only [meets, Bool.and_eq_true] at hm
    have := ok_iff.1 hm.2.2
    simp only; omega
  · cases hx
set_option maxRecDepth 100000 in
theorem bandsL_len (lo hi : Int) (ps : List (Int × Int)) : (bandsL lo hi ps).length ≤ 2 * ps.length + 1 := by unfold bandsL; rw [bandsOf_len]; exact cutsB_len lo hi ps
set_option maxRecDepth 100000 in
theorem rowP_len (Q : List Part) (p : Part) : (stepP Q p).length ≤ Q.length + 1 := by
  rcases list_snoc Q with rfl | ⟨Q', q, rfl⟩
  · exact Nat.le_refl _
  · by_cases h : q.which = p.which
    · rw [stepP_same h]; simp
    · rw [stepP_new h]; simp
set_option maxRecDepth 100000 in
theorem fold_len (l : List Part) : ∀ (Q : List Part), (l.foldl stepP Q).length ≤ Q.length + l.length := by
  induction l with
  | nil => intro Q; exact Nat.le_refl _
  | cons p l ih => intro Q; have h1 := ih (stepP Q p); have h2 := rowP_len Q p; rw [List.foldl_cons, List.length_cons]; omega
end Go.Proofs.Ytfacimebfdeaeaa
