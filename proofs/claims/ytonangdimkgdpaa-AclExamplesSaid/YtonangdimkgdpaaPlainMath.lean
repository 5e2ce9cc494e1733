/- Plain laws of rules spent: which rules stay. No program in sight. -/
import Derived.Test.YtonangdimkgdpaaAreaMath
import Derived.Test.YtonangdimkgdpaaAclMath
namespace Go.Proofs.Ytonangdimkgdpaa

/-- Whether the k-th rule stays: the first one does, and each that later ones do not cover. -/
def keepAt (l : List Rule) (k : Nat) (r : Rule) : Bool := decide (k = 0) || !(leftL r.rect ((l.drop (k + 1)).map Rule.rect)).isEmpty
def plainK (l : List Rule) : Nat → List Rule
  | 0 => []
  | k + 1 => match l[k]? with
    | some r => if keepAt l k r then plainK l k ++ [r] else plainK l k
    | none => plainK l k
def plainL (l : List Rule) : List Rule := plainK l l.length
def plainS (l : List Rule) : List Rule × Int := if chkE l = 0 then (plainL l, 0) else ([], chkE l)
set_option maxRecDepth 100000 in
theorem plainK_yes {l : List Rule} {k : Nat} {r : Rule} (h : l[k]? = some r) (hk : keepAt l k r = true) : plainK l (k + 1) = plainK l k ++ [r] := by simp [plainK, h, hk]
set_option maxRecDepth 100000 in
theorem plainK_no {l : List Rule} {k : Nat} {r : Rule} (h : l[k]? = some r) (hk : keepAt l k r = false) : plainK l (k + 1) = plainK l k := by simp [plainK, h, hk]
set_option maxRecDepth 100000 in
theorem plainK_len (l : List Rule) : ∀ k, (plainK l k).length ≤ k := by
  intro k
  induction k with
  | zero => exact Nat.le_refl _
  | succ k ih =>
    rw [plainK]
    split
    · split
      · rw [List.length_append]; simp; exact ih
      · omega
    · omega
set_option maxRecDepth 100000 in
theorem plainK_more (l : List Rule) (i : Nat) : ∀ d, ∃ S, plainK l (i + d) = plainK l i ++ S ∧ ∀ q ∈ S, ∃ j, i ≤ j ∧ l[j]? = some q := by
  intro d
  induction d with
  | zero => exact ⟨[], by simp, by simp⟩
  | succ d ih =>
    obtain ⟨S, h1, h2⟩ := ih
    rw [← Nat.add_assoc, plainK]
    split
    · rename_i r hr
      split
      · refine ⟨S ++ [r], by rw [h1, List.append_assoc], fun q hq => ?_⟩
        rcases List.mem_append.1 hq with hq | hq
        · exact h2 q hq
        · rw [List.mem_singleton] at hq; subst hq; exact ⟨i + d, by omega, hr⟩
      · exact ⟨S, h1, h2⟩
    · exact ⟨S, h1, h2⟩
set_option maxRecDepth 100000 in
/-- A rule that stays divides what stays: what stays of the rules ahead of it, it, some of the rules behind it. -/
theorem plain_split {l : List Rule} {i : Nat} {r : Rule} (h : l[i]? = some r) (hk : keepAt l i r = true) : ∃ S, plainL l = plainK l i ++ r :: S ∧ ∀ q ∈ S, ∃ j, i + 1 ≤ j ∧ l[j]? = some q := by
  have hi : i < l.length := (List.getElem?_eq_some_iff.1 h).1
  obtain ⟨S, h1, h2⟩ := plainK_more l (i + 1) (l.length - (i + 1))
  rw [show i + 1 + (l.length - (i + 1)) = l.length by omega, plainK_yes h hk] at h1
  exact ⟨S, by rw [plainL, h1]; simp, h2⟩
set_option maxRecDepth 100000 in
theorem plain_at {l : List Rule} : ∀ {n k : Nat} {r : Rule}, (plainK l n)[k]? = some r → ∃ i, i < n ∧ l[i]? = some r ∧ keepAt l i r = true ∧ (plainK l i).length = k := by
  intro n
  induction n with
  | zero => intro k r h; simp [plainK] at h
  | succ n ih =>
    intro k r h
    rw [plainK] at h
    split at h
    · rename_i q hq
      split at h
      · rename_i hk
        by_cases hlt : k < (plainK l n).length
        · rw [List.getElem?_append_left hlt] at h
          obtain ⟨i, h1, h2⟩ := ih h
          exact ⟨i, by omega, h2⟩
        · rw [List.getElem?_append_right (by omega)] at h
          have hk0 : k - (plainK l n).length = 0 := by
            have := (List.getElem?_eq_some_iff.1 h).1; simp at this; omega
          rw [hk0] at h
          simp at h
          subst h
          exact ⟨n, by omega, hq, hk, by omega⟩
      · obtain ⟨i, h1, h2⟩ := ih h
        exact ⟨i, by omega, h2⟩
    · obtain ⟨i, h1, h2⟩ := ih h
      exact ⟨i, by omega, h2⟩
set_option maxRecDepth 100000 in
theorem plain_mem {l : List Rule} {r : Rule} (h : r ∈ plainL l) : r ∈ l := by
  obtain ⟨k, hk⟩ := List.mem_iff_getElem?.1 h
  obtain ⟨i, _, hi, _⟩ := plain_at hk
  exact List.mem_of_getElem? hi
set_option maxRecDepth 100000 in
theorem plain_zero {l : List Rule} {r : Rule} (h : l[0]? = some r) : (plainL l)[0]? = some r := by
  obtain ⟨S, h1, _⟩ := plain_split h (by simp [keepAt])
  rw [h1]; rfl
set_option maxRecDepth 100000 in
theorem plain_chk {l : List Rule} (h : chkE l = 0) : chkE (plainL l) = 0 := by
  rw [chkE_iff] at *
  obtain ⟨⟨r0, h0, h1⟩, h2, h3⟩ := h
  exact ⟨⟨r0, plain_zero h0, h1⟩, Nat.le_trans (plainK_len l _) h2, fun r hr => h3 r (plain_mem hr)⟩
set_option maxRecDepth 100000 in
theorem good_rectOk {n : Int} {r : Rule} (h : goodR n r = true) : rectOk r.rect = true := by
  simp only [goodR, Bool.and_eq_true] at h; exact h.1
set_option maxRecDepth 100000 in
/-- What covers a rule. -/
theorem keep_iff {l : List Rule} (hg : ∀ r ∈ l, goodR 64 r = true) {k : Nat} {r : Rule} (h : l[k]? = some r) : keepAt l k r = true ↔ k = 0 ∨ ∃ x, hasB r.rect x = true ∧ ∀ j q, k + 1 ≤ j → l[j]? = some q → hasB q.rect x = false := by
  have hr := good_rectOk (hg r (List.mem_of_getElem? h))
  have hl : ∀ y ∈ (l.drop (k + 1)).map Rule.rect, rectOk y = true := fun y hy => by
    obtain ⟨q, hq, rfl⟩ := List.mem_map.1 hy
    exact good_rectOk (hg q (List.mem_of_mem_drop hq))
  have hn := left_nil hr hl
  have hb : (leftL r.rect ((l.drop (k + 1)).map Rule.rect)).isEmpty = true ↔ leftL r.rect ((l.drop (k + 1)).map Rule.rect) = [] := List.isEmpty_iff
  constructor
  · intro hk
    by_cases h0 : k = 0
    · exact .inl h0
    · right
      simp only [keepAt, h0, decide_false, Bool.false_or, Bool.not_eq_true'] at hk
      have hne : ¬leftL r.rect ((l.drop (k + 1)).map Rule.rect) = [] := fun e => by rw [hb.2 e] at hk; cases hk
      rw [hn] at hne
      apply Classical.byContradiction
      intro hc
      apply hne
      intro x hx
      apply Classical.byContradiction
      intro hx2
      apply hc
      refine ⟨x, hx, fun j q hj hq => ?_⟩
      cases hb2 : hasB q.rect x with
      | false => rfl
      | true =>
        exfalso
        apply hx2
        refine ⟨q.rect, List.mem_map.2 ⟨q, List.mem_iff_getElem?.2 ⟨j - (k + 1), ?_⟩, rfl⟩, hb2⟩
        rw [List.getElem?_drop, show k + 1 + (j - (k + 1)) = j by omega, hq]
  · rintro (h0 | ⟨x, hx, hj⟩)
    · simp [keepAt, h0]
    · have hne : ¬leftL r.rect ((l.drop (k + 1)).map Rule.rect) = [] := fun e => by
        obtain ⟨y, hy, hyx⟩ := hn.1 e x hx
        obtain ⟨q, hq, rfl⟩ := List.mem_map.1 hy
        obtain ⟨j, hjq⟩ := List.mem_iff_getElem?.1 hq
        rw [List.getElem?_drop] at hjq
        rw [hj _ q (by omega) hjq] at hyx
        cases hyx
      have : (leftL r.rect ((l.drop (k + 1)).map Rule.rect)).isEmpty = false := by
        rw [← Bool.not_eq_true]; exact fun e => hne (hb.1 e)
      rw [keepAt, this]; simp
set_option maxRecDepth 100000 in
theorem plain_take {p : List Rule} (h : ∀ k r, p[k]? = some r → keepAt p k r = true) : ∀ k, plainK p k = p.take k := by
  intro k
  induction k with
  | zero => simp [plainK]
  | succ k ih =>
    rw [List.take_add_one]
    cases hr : p[k]? with
    | none => simp [plainK, hr, ih]
    | some r => rw [plainK_yes hr (h k r hr), ih]; rfl
set_option maxRecDepth 100000 in
/-- What stays, stays. -/
theorem plain_idem {l : List Rule} (hg : ∀ r ∈ l, goodR 64 r = true) : plainL (plainL l) = plainL l := by
  rw [plainL, plain_take, List.take_length]
  intro k r hkr
  obtain ⟨i, hi, hir, hkeep, hlen⟩ := plain_at hkr
  obtain ⟨S, hS, hSm⟩ := plain_split hir hkeep
  rw [keep_iff (fun q hq => hg q (plain_mem hq)) hkr]
  rcases (keep_iff hg hir).1 hkeep with h0 | ⟨x, hx, hno⟩
  · left; subst h0; rw [← hlen]; rfl
  · right
    refine ⟨x, hx, fun j q hj hq => ?_⟩
    rw [hS, List.getElem?_append_right (by omega), hlen, show j - k = (j - (k + 1)) + 1 by omega, List.getElem?_cons_succ] at hq
    obtain ⟨j2, h1, h2⟩ := hSm q (List.mem_of_getElem? hq)
    exact hno j2 q h1 h2
set_option maxRecDepth 100000 in
theorem lastN_skip {x : Ref} {l : List Rule} {a : Nat} : ∀ {d : Nat}, (∀ j q, a ≤ j → l[j]? = some q → hasB q.rect x = false) → lastN x l (a + d) = lastN x l a := by
  intro d
  induction d with
  | zero => intro _; rfl
  | succ d ih =>
    intro h
    rw [← Nat.add_assoc, lastN]
    split
    · rename_i q hq
      rw [h _ q (by omega) hq]
      exact ih h
    · exact ih h
set_option maxRecDepth 100000 in
theorem lastN_split {x : Ref} {A B : List Rule} {r : Rule} (hr : hasB r.rect x = true) (hB : ∀ q ∈ B, hasB q.rect x = false) : (A ++ r :: B)[lastN x (A ++ r :: B) (A ++ r :: B).length]? = some r := by
  have h1 : (A ++ r :: B)[A.length]? = some r := by simp
  have h2 : lastN x (A ++ r :: B) (A.length + 1 + B.length) = lastN x (A ++ r :: B) (A.length + 1) := lastN_skip fun j q hj hq => by
    rw [List.getElem?_append_right (by omega), show j - A.length = (j - A.length - 1) + 1 by omega, List.getElem?_cons_succ] at hq
    exact hB q (List.mem_of_getElem? hq)
  rw [show (A ++ r :: B).length = A.length + 1 + B.length by simp; omega, h2, lastN_yes h1 hr, h1]
set_option maxRecDepth 100000 in
/-- The last of the first k rules that has x, if one has. -/
theorem last_hit {x : Ref} {l : List Rule} : ∀ {k : Nat}, (∃ j q, j < k ∧ l[j]? = some q ∧ hasB q.rect x = true) → ∃ i r, i < k ∧ l[i]? = some r ∧ hasB r.rect x = true ∧ ∀ j q, i + 1 ≤ j → j < k → l[j]? = some q → hasB q.rect x = false := by
  intro k
  induction k with
  | zero => rintro ⟨j, _, h, _⟩; omega
  | succ k ih =>
    rintro ⟨j, q, hj, hq, hb⟩
    cases hr : l[k]? with
    | none =>
      have : j ≠ k := fun e => by subst e; rw [hr] at hq; cases hq
      obtain ⟨i, r, h1, h2, h3, h4⟩ := ih ⟨j, q, by omega, hq, hb⟩
      refine ⟨i, r, by omega, h2, h3, fun j2 q2 a b c => ?_⟩
      by_cases e : j2 = k
      · subst e; rw [hr] at c; cases c
      · exact h4 j2 q2 a (by omega) c
    | some r =>
      cases hbr : hasB r.rect x with
      | true => exact ⟨k, r, by omega, hr, hbr, fun j2 q2 a b c => by omega⟩
      | false =>
        have : j ≠ k := fun e => by subst e; rw [hr] at hq; injection hq with hq; subst hq; rw [hbr] at hb; cases hb
        obtain ⟨i, r', h1, h2, h3, h4⟩ := ih ⟨j, q, by omega, hq, hb⟩
        refine ⟨i, r', by omega, h2, h3, fun j2 q2 a b c => ?_⟩
        by_cases e : j2 = k
        · subst e; rw [hr] at c; injection c with c; subst c; exact hbr
        · exact h4 j2 q2 a (by omega) c
set_option maxRecDepth 100000 in
theorem sheet_has {x : Ref} (h : refOk x = true) : hasB sheetR x = true := by
  simp only [refOk, decide_eq_true_eq] at h
  show decide ((1 : Int) ≤ x.col ∧ x.col ≤ 1024 ∧ (1 : Int) ≤ x.row ∧ x.row ≤ 1024) = true
  exact decide_eq_true ⟨h.1, h.2.1, h.2.2⟩
set_option maxRecDepth 100000 in
/-- The spent rules are never the last that has an address. -/
theorem plain_last {l : List Rule} (hc : chkE l = 0) {x : Ref} (hx : refOk x = true) : ∃ r, l[lastN x l l.length]? = some r ∧ (plainL l)[lastN x (plainL l) (plainL l).length]? = some r := by
  obtain ⟨⟨r0, h0, hs⟩, _, hg⟩ := (chkE_iff l).1 hc
  obtain ⟨i, r, hi, hir, hrx, hno⟩ := last_hit (x := x) (l := l) (k := l.length) ⟨0, r0, (List.getElem?_eq_some_iff.1 h0).1, h0, by rw [hs]; exact sheet_has hx⟩
  have hno' : ∀ j q, i + 1 ≤ j → l[j]? = some q → hasB q.rect x = false := fun j q a b => hno j q a (List.getElem?_eq_some_iff.1 b).1 b
  obtain ⟨S, hS, hSm⟩ := plain_split hir ((keep_iff hg hir).2 (.inr ⟨x, hrx, hno'⟩))
  refine ⟨r, ?_, ?_⟩
  · have e := lastN_skip (x := x) (l := l) (a := i + 1) (d := l.length - (i + 1)) hno'
    rw [show i + 1 + (l.length - (i + 1)) = l.length by omega] at e
    rw [e, lastN_yes hir hrx, hir]
  · rw [hS]
    exact lastN_split hrx fun q hq => by
      obtain ⟨j, h1, h2⟩ := hSm q hq
      exact hno' j q h1 h2
set_option maxRecDepth 100000 in
theorem plain_atS {l : List Rule} (hc : chkE l = 0) {x : Ref} (hx : refOk x = true) : atS x (plainL l) = atS x l ∧ (atS x l).2 = 0 := by
  obtain ⟨r, h1, h2⟩ := plain_last hc hx
  have w1 : whichS x l = ((lastN x l l.length : Int), 0) := by simp [whichS, hx, hc]
  have w2 : whichS x (plainL l) = ((lastN x (plainL l) (plainL l).length : Int), 0) := by simp [whichS, hx, plain_chk hc]
  have e1 : atS x l = (r.rights, 0) := by simp [atS, w1, h1]
  have e2 : atS x (plainL l) = (r.rights, 0) := by simp [atS, w2, h2]
  exact ⟨by rw [e1, e2], by rw [e1]⟩
end Go.Proofs.Ytonangdimkgdpaa
