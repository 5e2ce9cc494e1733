/- Plain laws of sets of users, of the check of rules, of the last rule. No program in sight. -/
import Derived.Test.YtfacimebfdeaeaaD
namespace Go.Proofs.Ytfacimebfdeaeaa
open Go.RowKit

/-- The set of the users from 0 to n - 1. -/
def allN (n : Int) : Nat := 2 ^ n.toNat - 1
set_option maxRecDepth 100000 in
theorem allN_lt {n : Int} (h : n ≤ 64) : allN n < 18446744073709551616 := by
  unfold allN
  have : 2 ^ n.toNat ≤ 2 ^ 64 := Nat.pow_le_pow_right (by omega) (by omega)
  omega
/-- Whether a set has only users from 0 to n - 1. -/
def withinB (s : Nat) (n : Int) : Bool := decide (s < 2 ^ n.toNat)
set_option maxRecDepth 100000 in
theorem andNot_all {s : Nat} (hs : s < 18446744073709551616) {n : Int} (h : n ≤ 64) : bits .andNot .u64 (s : Int) (allN n : Int) = ((s / 2 ^ n.toNat * 2 ^ n.toNat : Nat) : Int) := by
  rw [u64_andNot_nat _ _ hs (allN_lt h)]
  congr 1
  apply Nat.eq_of_testBit_eq
  intro i
  rw [Nat.testBit_and, Nat.testBit_mul_two_pow, Nat.testBit_div_two_pow]
  have hm : (18446744073709551615 - allN n).testBit i = (decide (i < 64) && !(allN n).testBit i) := by
    have e : (18446744073709551615 - allN n) = 2 ^ 64 - (allN n + 1) := by omega
    rw [e, Nat.testBit_two_pow_sub_succ (allN_lt h)]
  rw [hm]
  unfold allN
  rw [Nat.testBit_two_pow_sub_one]
  by_cases h1 : i < n.toNat
  · simp [h1]; intro _; omega
  · by_cases h2 : i < 64
    · have : i - n.toNat + n.toNat = i := by omega
      simp [h1, h2, show n.toNat ≤ i by omega]
    · have : s.testBit i = false := Nat.testBit_lt_two_pow (Nat.lt_of_lt_of_le hs (Nat.le_trans (by decide : 18446744073709551616 ≤ 2 ^ 64) (Nat.pow_le_pow_right (by omega) (by omega))))
      have h3 : i - n.toNat + n.toNat = i := by omega
      simp [h1, h2, show n.toNat ≤ i by omega, this]
set_option maxRecDepth 100000 in
theorem andNot_zero {s : Nat} (hs : s < 18446744073709551616) {n : Int} (h : n ≤ 64) : (bits .andNot .u64 (s : Int) (allN n : Int) == 0) = withinB s n := by
  rw [andNot_all hs h, withinB, Bool.eq_iff_iff]
  simp only [beq_iff_eq, decide_eq_true_eq]
  constructor
  · intro h
    have h1 : s / 2 ^ n.toNat * 2 ^ n.toNat = 0 := by omega
    have hp : 0 < 2 ^ n.toNat := Nat.two_pow_pos _
    rcases Nat.mul_eq_zero.1 h1 with h2 | h2
    · rwa [Nat.div_eq_zero_iff_lt hp] at h2
    · omega
  · intro h
    rw [Nat.div_eq_of_lt h]
    simp

def rightsIn (x : Rights) (n : Int) : Bool := withinB x.read n && (withinB x.write n && withinB x.own n)
/-- The first rule that is not valid, from the i-th on. -/
def scanR (n : Int) : Nat → List Rule → Int × Int
  | _, [] => (0, 0)
  | i, r :: l => if rectOk r.rect then (if rightsIn r.rights n then scanR n (i + 1) l else (i, 2)) else (i, 3)
def goodR (n : Int) (r : Rule) : Bool := rectOk r.rect && rightsIn r.rights n
def users1 (n : Int) : Bool := decide (1 ≤ n ∧ n ≤ 64)
def checkS (n : Int) (l : List Rule) : Int × Int :=
  if users1 n && !l.isEmpty then (if l.length ≤ 64 then (if (l.map Rule.rect).head? = some sheetR then scanR n 0 l else (0, 2)) else (64, 5)) else (0, 2)
set_option maxRecDepth 100000 in
theorem scan_drop (n : Int) : ∀ (l : List Rule) (k i : Nat), (∀ j r, j < k → l[j]? = some r → goodR n r = true) → scanR n i l = scanR n (i + k) (l.drop k) := by
  intro l
  induction l with
  | nil => intro k i _; simp [scanR]
  | cons r l ih =>
    intro k i h
    cases k with
    | zero => rfl
    | succ k =>
      have h0 := h 0 r (by omega) rfl
      simp only [goodR, Bool.and_eq_true] at h0
      rw [scanR, if_pos h0.1, if_pos h0.2, ih k (i + 1) (fun j x hj hx => h (j + 1) x (by omega) (by simpa using hx)), List.drop_succ_cons, Nat.add_right_comm, Nat.add_assoc]
set_option maxRecDepth 100000 in
theorem scan_end (n : Int) (l : List Rule) (h : ∀ j r, j < l.length → l[j]? = some r → goodR n r = true) : scanR n 0 l = (0, 0) := by
  rw [scan_drop n l l.length 0 h]; simp [scanR]
set_option maxRecDepth 100000 in
theorem scan_hit {n : Int} {l : List Rule} {k : Nat} {r : Rule} (h : ∀ j r, j < k → l[j]? = some r → goodR n r = true) (hr : l[k]? = some r) : scanR n 0 l = if rectOk r.rect then (if rightsIn r.rights n then scanR n (k + 1) (l.drop (k + 1)) else ((k : Int), 2)) else ((k : Int), 3) := by
  have hk : k < l.length := (List.getElem?_eq_some_iff.1 hr).1
  have e : l.drop k = r :: l.drop (k + 1) := by
    rw [List.drop_eq_getElem_cons hk]
    have := (List.getElem?_eq_some_iff.1 hr).2
    rw [this]
  rw [scan_drop n l k 0 h, e, scanR, Nat.zero_add]
set_option maxRecDepth 100000 in
theorem good_step {n : Int} {l : List Rule} {k : Nat} {r : Rule} (h : ∀ j r, j < k → l[j]? = some r → goodR n r = true) (hr : l[k]? = some r) (hg : goodR n r = true) : ∀ j r, j < k + 1 → l[j]? = some r → goodR n r = true := by
  intro j x hj hx
  by_cases e : j = k
  · subst e
    rw [hr] at hx
    injection hx with hx
    subst hx
    exact hg
  · exact h j x (by omega) hx
set_option maxRecDepth 100000 in
theorem head_rect {l : List Rule} {r : Rule} (h : l[0]? = some r) : (l.map Rule.rect).head? = some r.rect := by
  cases l with
  | nil => simp at h
  | cons a l => simp at h; simp [h]

set_option maxRecDepth 100000 in
theorem or_within {a b c : Nat} {n : Int} (ha : a < 18446744073709551616) (hb : b < 18446744073709551616) (hc : c < 18446744073709551616) (h : n ≤ 64) :
    ∃ z : Int, bits .andNot .u64 (bits .or .u64 (bits .or .u64 (a : Int) (b : Int)) (c : Int)) (allN n : Int) = z ∧ (z = 0 ↔ rightsIn ⟨a, b, c⟩ n = true) := by
  refine ⟨_, rfl, ?_⟩
  have e1 : (18446744073709551616 : Nat) = 2 ^ 64 := by decide
  have hab : a ||| b < 18446744073709551616 := by rw [e1] at *; exact Nat.or_lt_two_pow ha hb
  have habc : a ||| b ||| c < 18446744073709551616 := by rw [e1] at *; exact Nat.or_lt_two_pow hab hc
  rw [u64_or_nat _ _ ha hb, u64_or_nat _ _ hab hc]
  have hz := andNot_zero habc h
  rw [← beq_iff_eq, hz]
  simp only [withinB, rightsIn, Bool.and_eq_true, decide_eq_true_eq]
  constructor
  · intro h
    exact ⟨Nat.lt_of_le_of_lt (Nat.le_trans Nat.left_le_or Nat.left_le_or) h, Nat.lt_of_le_of_lt (Nat.le_trans Nat.right_le_or Nat.left_le_or) h, Nat.lt_of_le_of_lt Nat.right_le_or h⟩
  · rintro ⟨h1, h2, h3⟩
    exact Nat.or_lt_two_pow (Nat.or_lt_two_pow h1 h2) h3

/-- The index of the last of the first k rules whose range has x; 0 if there is none. -/
def lastN (x : Ref) (l : List Rule) : Nat → Nat
  | 0 => 0
  | k + 1 => match l[k]? with | some r => if hasB r.rect x then k else lastN x l k | none => lastN x l k
set_option maxRecDepth 100000 in
theorem lastN_one {x : Ref} {l : List Rule} : lastN x l 1 = 0 := by
  rw [lastN]; split
  · split <;> rfl
  · rfl

def chkE (l : List Rule) : Int := (checkS 64 l).2
def noRights : Rights := ⟨0, 0, 0⟩
set_option maxRecDepth 100000 in
theorem check_nil (n : Int) : checkS n [] = (0, 2) := by simp [checkS]
set_option maxRecDepth 100000 in
theorem chkE_ne {l : List Rule} (h : chkE l = 0) : l ≠ [] := by
  rintro rfl
  rw [chkE, check_nil] at h
  omega
set_option maxRecDepth 100000 in
theorem lastN_lt {x : Ref} {l : List Rule} : ∀ {k : Nat}, 0 < k → lastN x l k < k := by
  intro k
  induction k with
  | zero => intro h; omega
  | succ k ih =>
    intro _
    rw [lastN]
    split
    · split
      · omega
      · rcases Nat.eq_zero_or_pos k with h | h
        · subst h; simp [lastN]
        · have := ih h; omega
    · rcases Nat.eq_zero_or_pos k with h | h
      · subst h; simp [lastN]
      · have := ih h; omega
set_option maxRecDepth 100000 in
theorem scan_zero {n : Int} : ∀ {l : List Rule} {i : Nat}, (scanR n i l).2 = 0 → ∀ r ∈ l, goodR n r = true := by
  intro l
  induction l with
  | nil => intro i _ r hr; simp at hr
  | cons x l ih =>
    intro i h r hr
    rw [scanR] at h
    split at h
    · rename_i h1
      split at h
      · rename_i h2
        rcases List.mem_cons.1 hr with rfl | hr
        · simp [goodR, h1, h2]
        · exact ih h r hr
      · simp at h
    · simp at h
set_option maxRecDepth 100000 in
theorem scan_good {n : Int} : ∀ {l : List Rule} {i : Nat}, (∀ r ∈ l, goodR n r = true) → scanR n i l = (0, 0) := by
  intro l
  induction l with
  | nil => intro i _; rfl
  | cons x l ih =>
    intro i h
    have h0 := h x (by simp)
    simp only [goodR, Bool.and_eq_true] at h0
    rw [scanR, if_pos h0.1, if_pos h0.2, ih (fun r hr => h r (by simp [hr]))]
set_option maxRecDepth 100000 in
theorem chkE_iff (l : List Rule) : chkE l = 0 ↔ (∃ r0, l[0]? = some r0 ∧ r0.rect = sheetR) ∧ l.length ≤ 64 ∧ ∀ r ∈ l, goodR 64 r = true := by
  unfold chkE checkS
  cases l with
  | nil => simp
  | cons x l =>
    simp only [List.isEmpty_cons, Bool.not_false, Bool.and_true, show users1 64 = true by decide, if_true]
    by_cases hl : (x :: l).length ≤ 64
    · rw [if_pos hl]
      simp only [List.map_cons, List.head?_cons, Option.some.injEq]
      by_cases hx : x.rect = sheetR
      · rw [if_pos hx]
        constructor
        · intro h; exact ⟨⟨x, rfl, hx⟩, hl, scan_zero h⟩
        · rintro ⟨_, _, h⟩; rw [scan_good h]
      · rw [if_neg hx]
        constructor
        · intro h; simp at h
        · rintro ⟨⟨r0, h0, h1⟩, _⟩
          simp at h0
          exact absurd (h0 ▸ h1) hx
    · rw [if_neg hl]
      constructor
      · intro h; simp at h
      · rintro ⟨_, h, _⟩; exact absurd h hl
end Go.Proofs.Ytfacimebfdeaeaa
