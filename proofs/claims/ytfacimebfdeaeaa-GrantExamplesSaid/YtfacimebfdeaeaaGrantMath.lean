/- Plain laws of grants. No program in sight. -/
import Derived.Test.YtfacimebfdeaeaaD2
import Derived.Test.YtfacimebfdeaeaaF14
namespace Go.Proofs.Ytfacimebfdeaeaa
open Go.RowKit

/-- Functions that may be released. -/
def relB (fn : Nat) : Bool := decide (46 ≤ fn ∧ fn ≤ 50)
def namesB (fns fn : Nat) : Bool := relB fn && fns.testBit (fn - 46)
def argB (n : Int) (g : Grant) : Bool := decide (1 ≤ g.fns ∧ g.fns ≤ 31) && (withinB g.to n && decide (0 ≤ g.by_ ∧ g.by_ < n))
def goodG (n : Int) (g : Grant) : Bool := rectOk g.rect && argB n g
/-- The first grant that is not valid, from the i-th on. -/
def scanG (n : Int) : Nat → List Grant → Int × Int
  | _, [] => (0, 0)
  | i, g :: l => if rectOk g.rect then (if argB n g then scanG n (i + 1) l else (i, 2)) else (i, 3)
def checkG (n : Int) (l : List Grant) : Int × Int := if users1 n then (if l.length ≤ 64 then scanG n 0 l else (64, 5)) else (0, 2)
def chkG (l : List Grant) : Int := (checkG 64 l).2
set_option maxRecDepth 100000 in
theorem scanG_drop (n : Int) : ∀ (l : List Grant) (k i : Nat), (∀ j r, j < k → l[j]? = some r → goodG n r = true) → scanG n i l = scanG n (i + k) (l.drop k) := by
  intro l
  induction l with
  | nil => intro k i _; simp [scanG]
  | cons r l ih =>
    intro k i h
    cases k with
    | zero => rfl
    | succ k =>
      have h0 := h 0 r (by omega) rfl
      simp only [goodG, Bool.and_eq_true] at h0
      rw [scanG, if_pos h0.1, if_pos h0.2, ih k (i + 1) (fun j x hj hx => h (j + 1) x (by omega) (by simpa using hx)), List.drop_succ_cons, Nat.add_right_comm, Nat.add_assoc]
set_option maxRecDepth 100000 in
theorem scanG_end (n : Int) (l : List Grant) (h : ∀ j r, j < l.length → l[j]? = some r → goodG n r = true) : scanG n 0 l = (0, 0) := by
  rw [scanG_drop n l l.length 0 h]; simp [scanG]
set_option maxRecDepth 100000 in
theorem scanG_hit {n : Int} {l : List Grant} {k : Nat} {r : Grant} (h : ∀ j r, j < k → l[j]? = some r → goodG n r = true) (hr : l[k]? = some r) : scanG n 0 l = if rectOk r.rect then (if argB n r then scanG n (k + 1) (l.drop (k + 1)) else ((k : Int), 2)) else ((k : Int), 3) := by
  have hk : k < l.length := (List.getElem?_eq_some_iff.1 hr).1
  have e : l.drop k = r :: l.drop (k + 1) := by
    rw [List.drop_eq_getElem_cons hk]
    have := (List.getElem?_eq_some_iff.1 hr).2
    rw [this]
  rw [scanG_drop n l k 0 h, e, scanG, Nat.zero_add]
set_option maxRecDepth 100000 in
theorem scanG_rect {n : Int} {l : List Grant} {k : Nat} {r : Grant} (h : ∀ j r, j < k → l[j]? = some r → goodG n r = true) (hr : l[k]? = some r) (hb : rectOk r.rect = false) : scanG n 0 l = ((k : Int), 3) := by
  rw [scanG_hit h hr, hb]; rfl
set_option maxRecDepth 100000 in
theorem scanG_arg {n : Int} {l : List Grant} {k : Nat} {r : Grant} (h : ∀ j r, j < k → l[j]? = some r → goodG n r = true) (hr : l[k]? = some r) (ha : rectOk r.rect = true) (hb : argB n r = false) : scanG n 0 l = ((k : Int), 2) := by
  rw [scanG_hit h hr, ha, hb]; rfl
set_option maxRecDepth 100000 in
theorem checkG_users {n : Int} (l : List Grant) (h : ¬(1 ≤ n ∧ n ≤ 64)) : checkG n l = (0, 2) := by
  have : users1 n = false := decide_eq_false h
  simp [checkG, this]
set_option maxRecDepth 100000 in
theorem checkG_long {n : Int} {l : List Grant} (h : 1 ≤ n ∧ n ≤ 64) (hl : 64 < l.length) : checkG n l = (64, 5) := by
  have h1 : users1 n = true := decide_eq_true h
  rw [checkG, h1]
  simp; omega
set_option maxRecDepth 100000 in
theorem checkG_scan {n : Int} {l : List Grant} (h : 1 ≤ n ∧ n ≤ 64) (hl : l.length ≤ 64) : checkG n l = scanG n 0 l := by
  have h1 : users1 n = true := decide_eq_true h
  rw [checkG, h1]
  simp [hl]
set_option maxRecDepth 100000 in
theorem scanG_good {n : Int} : ∀ {l : List Grant} {i : Nat}, (scanG n i l).2 = 0 → ∀ g ∈ l, goodG n g = true
  | [], _, _, g, hg => by cases hg
  | x :: l, i, h, g, hg => by
    rw [scanG] at h
    by_cases h1 : rectOk x.rect = true
    · by_cases h2 : argB n x = true
      · rw [if_pos h1, if_pos h2] at h
        rcases List.mem_cons.1 hg with rfl | hg
        · simp [goodG, h1, h2]
        · exact scanG_good h g hg
      · rw [if_pos h1, if_neg h2] at h; cases h
    · rw [if_neg h1] at h; cases h
set_option maxRecDepth 100000 in
theorem chkG_good {l : List Grant} (h : chkG l = 0) : ∀ g ∈ l, goodG 64 g = true := by
  unfold chkG checkG at h
  rw [show users1 64 = true from rfl, if_pos rfl] at h
  by_cases hl : l.length ≤ 64
  · rw [if_pos hl] at h; exact scanG_good h
  · rw [if_neg hl] at h; cases h
set_option maxRecDepth 100000 in
theorem hasS_all {n u : Int} (h : 1 ≤ n ∧ n ≤ 64) : hasS (allN n) u = decide (0 ≤ u ∧ u < n) := by
  unfold hasS userB allN
  rw [Nat.testBit_two_pow_sub_one, Bool.eq_iff_iff]
  simp only [Bool.and_eq_true, decide_eq_true_eq]
  omega

/-- Is a grant live? -/
def liveB (rules : List Rule) (g : Grant) : Bool := !g.revoked && hasS (overS g.rect rules).1.own g.by_
def liveS (g : Grant) (rules : List Rule) : Bool × Int := if chkG [g] = 0 then (if chkE rules = 0 then (liveB rules g, 0) else (false, chkE rules)) else (false, chkG [g])
def selB (fn : Nat) (r : Rect) (rules : List Rule) (g : Grant) : Bool := decide (g.rect = r) && (namesB g.fns fn && liveB rules g)
/-- Of the first k grants: to whom, and which. -/
def toN (p : Grant → Bool) (l : List Grant) : Nat → Nat
  | 0 => 0
  | k + 1 => match l[k]? with | some g => if p g then toN p l k ||| g.to else toN p l k | none => toN p l k
def byN (p : Grant → Bool) (l : List Grant) : Nat → List Int
  | 0 => []
  | k + 1 => match l[k]? with | some g => if p g then byN p l k ++ [(k : Int)] else byN p l k | none => byN p l k
set_option maxRecDepth 100000 in
theorem toN_yes {p : Grant → Bool} {l : List Grant} {k : Nat} {g : Grant} (h : l[k]? = some g) (hp : p g = true) : toN p l (k + 1) = toN p l k ||| g.to := by simp [toN, h, hp]
set_option maxRecDepth 100000 in
theorem toN_no {p : Grant → Bool} {l : List Grant} {k : Nat} {g : Grant} (h : l[k]? = some g) (hp : p g = false) : toN p l (k + 1) = toN p l k := by simp [toN, h, hp]
set_option maxRecDepth 100000 in
theorem byN_yes {p : Grant → Bool} {l : List Grant} {k : Nat} {g : Grant} (h : l[k]? = some g) (hp : p g = true) : byN p l (k + 1) = byN p l k ++ [(k : Int)] := by simp [byN, h, hp]
set_option maxRecDepth 100000 in
theorem byN_no {p : Grant → Bool} {l : List Grant} {k : Nat} {g : Grant} (h : l[k]? = some g) (hp : p g = false) : byN p l (k + 1) = byN p l k := by simp [byN, h, hp]
set_option maxRecDepth 100000 in
theorem byN_len {p : Grant → Bool} {l : List Grant} : ∀ (k : Nat), (byN p l k).length ≤ k
  | 0 => Nat.le_refl _
  | k + 1 => by
    have := byN_len (p := p) (l := l) k
    rw [byN]
    split
    · split
      · simp; omega
      · omega
    · omega
set_option maxRecDepth 100000 in
theorem toN_lt {p : Grant → Bool} {l : List Grant} (h : ∀ g ∈ l, g.to < 18446744073709551616) : ∀ (k : Nat), toN p l k < 18446744073709551616
  | 0 => (by decide : 0 < 18446744073709551616)
  | k + 1 => by
    have ih := toN_lt (p := p) h k
    rw [toN]
    split
    · rename_i g hg
      split
      · have := h g (List.mem_of_getElem? hg)
        rw [show (18446744073709551616 : Nat) = 2 ^ 64 by decide] at *
        exact Nat.or_lt_two_pow ih this
      · exact ih
    · exact ih
def forS (fn : Nat) (r : Rect) (rules : List Rule) (l : List Grant) : Nat × List Int × Int :=
  if relB fn then (if rectOk r then (if chkE rules = 0 then (if chkG l = 0 then (toN (selB fn r rules) l l.length, byN (selB fn r rules) l l.length, 0) else (0, [], chkG l)) else (0, [], chkE rules)) else (0, [], 3)) else (0, [], 2)

set_option maxRecDepth 100000 in
/-- A bit of a small number. -/
theorem u8_bits : ∀ a < 256, ∀ d < 5, bits .and .u8 (((a / 2 ^ d : Nat)) : Int) 1 = (((a.testBit d).toNat : Nat) : Int) := by decide +kernel
set_option maxRecDepth 100000 in
theorem u8_sub {fn : Nat} (h : 46 ≤ fn ∧ fn ≤ 50) : IntKind.u8.wrap ((fn : Int) - 46) = ((fn - 46 : Nat) : Int) := by
  obtain ⟨h1, h2⟩ := h
  have : fn = 46 ∨ fn = 47 ∨ fn = 48 ∨ fn = 49 ∨ fn = 50 := by omega
  rcases this with rfl | rfl | rfl | rfl | rfl <;> rfl
set_option maxRecDepth 100000 in
theorem u8_shr {a d : Nat} (h : d < 5) : (a : Int).fdiv (2 ^ (min ((d : Int)).toNat IntKind.u8.bits)) = ((a / 2 ^ d : Nat) : Int) := by
  rw [show min ((d : Int)).toNat IntKind.u8.bits = d from Nat.min_eq_left (by show ((d : Int)).toNat ≤ 8; omega)]
  have hc : (2 : Int) ^ d = ((2 ^ d : Nat) : Int) := by simp
  rw [hc, Int.fdiv_eq_ediv_of_nonneg _ (Int.natCast_nonneg _)]
  rfl
end Go.Proofs.Ytfacimebfdeaeaa
