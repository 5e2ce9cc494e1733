/- The data: ranges, addresses, rights, rules, as the machine of values holds them; what the small functions say. No condition. -/
import Derived.Test.YtfacimebfdeaeaaTypes
namespace Go.Proofs.Ytfacimebfdeaeaa
open Pv
structure Rect where
  c1 : Int
  r1 : Int
  c2 : Int
  r2 : Int
deriving DecidableEq
structure Ref where
  col : Int
  row : Int
deriving DecidableEq
structure Rights where
  read : Nat
  write : Nat
  own : Nat
deriving DecidableEq
structure Rule where
  rect : Rect
  rights : Rights
deriving DecidableEq
def Rect.vals (r : Rect) : List Value := [.int .i64 r.c1, .int .i64 r.r1, .int .i64 r.c2, .int .i64 r.r2]
def Ref.vals (r : Ref) : List Value := [.int .i64 r.col, .int .i64 r.row]
def Rights.vals (r : Rights) : List Value := [.int .u64 r.read, .int .u64 r.write, .int .u64 r.own]
def Rule.vals (r : Rule) : List Value := [.int .i64 r.rect.c1, .int .i64 r.rect.r1, .int .i64 r.rect.c2, .int .i64 r.rect.r2, .int .u64 r.rights.read, .int .u64 r.rights.write, .int .u64 r.rights.own]
def ival (n : Int) : List Value := [.int .i64 n]
abbrev Rect.v (r : Rect) : Value := .agg r.vals.toArray
abbrev Ref.v (r : Ref) : Value := .agg r.vals.toArray
abbrev Rights.v (r : Rights) : Value := .agg r.vals.toArray
abbrev Rule.v (r : Rule) : Value := .agg r.vals.toArray
/-- Slices as arguments and as results. -/
abbrev rects (l : List Rect) : SV := .sl none .no 4 (l.map Rect.vals)
abbrev rules (l : List Rule) : SV := .sl none .no 7 (l.map Rule.vals)
abbrev ints (l : List Int) : SV := .sl none .no 1 (l.map ival)
abbrev rulesR (l : List Rule) : SV := .sl (some 0) (.front 63) 7 (l.map Rule.vals)
abbrev intsR (l : List Int) : SV := .sl (some 0) (.front 3) 1 (l.map ival)

/-- Numbers that fit their kinds. -/
def i64 (n : Int) : Prop := -9223372036854775808 ≤ n ∧ n ≤ 9223372036854775807
structure Rect.ok (r : Rect) : Prop where
  c1 : i64 r.c1
  r1 : i64 r.r1
  c2 : i64 r.c2
  r2 : i64 r.r2
structure Ref.ok (r : Ref) : Prop where
  col : i64 r.col
  row : i64 r.row
structure Rights.ok (r : Rights) : Prop where
  read : r.read < 18446744073709551616
  write : r.write < 18446744073709551616
  own : r.own < 18446744073709551616
structure Rule.ok (r : Rule) : Prop where
  rect : r.rect.ok
  rights : r.rights.ok

/-! ### what the small functions say -/
def hasB (r : Rect) (x : Ref) : Bool := decide (r.c1 ≤ x.col ∧ x.col ≤ r.c2 ∧ r.r1 ≤ x.row ∧ x.row ≤ r.r2)
def refOk (x : Ref) : Bool := decide (1 ≤ x.col ∧ x.col ≤ 1024 ∧ 1 ≤ x.row ∧ x.row ≤ 1024)
def rectOk (r : Rect) : Bool := decide (1 ≤ r.c1 ∧ r.c1 ≤ r.c2 ∧ r.c2 ≤ 1024 ∧ 1 ≤ r.r1 ∧ r.r1 ≤ r.r2 ∧ r.r2 ≤ 1024)
def sheetR : Rect := ⟨1, 1, 1024, 1024⟩
set_option maxRecDepth 100000 in
theorem lt_of_get {α : Type} {l : List α} {k : Nat} {x : α} (h : l[k]? = some x) : k < l.length := (List.getElem?_eq_some_iff.1 h).1
set_option maxRecDepth 100000 in
/-- What a guard says. -/
theorem not_t {b : Bool} (h : (!b) = true) : b = false := by cases b; rfl; cases h
set_option maxRecDepth 100000 in
theorem not_f {b : Bool} (h : (!b) = false) : b = true := by cases b; cases h; rfl
set_option maxRecDepth 100000 in
theorem dec_t {p : Prop} {d : Decidable p} (h : @decide p d = true) : p := of_decide_eq_true h
set_option maxRecDepth 100000 in
theorem dec_f {p : Prop} {d : Decidable p} (h : @decide p d = false) : ¬p := of_decide_eq_false h
set_option maxRecDepth 100000 in
/-- Room for what is appended. -/
theorem app_b1 {α : Type} {f : α → List Value} {l : List α} {x : List Value} {b n : Nat} (h : (l.length + 1) * b ≤ n) : ((l.map f).length + [x].length) * b ≤ n := by rw [List.length_map]; exact h
set_option maxRecDepth 100000 in
theorem app_b2 {α β : Type} {f : α → List Value} {g : β → List Value} {l : List α} {m : List β} {b n : Nat} (h : (l.length + m.length) * b ≤ n) : ((l.map f).length + (m.map g).length) * b ≤ n := by rw [List.length_map, List.length_map]; exact h
set_option maxRecDepth 100000 in
theorem app_b3 {β : Type} {g : β → List Value} {x : List Value} {m : List β} {b n : Nat} (h : (1 + m.length) * b ≤ n) : ([x].length + (m.map g).length) * b ≤ n := by rw [List.length_map]; exact h
set_option maxRecDepth 100000 in
theorem app_b4 {β : Type} {g : β → List Value} {m : List β} {b n : Nat} (h : m.length * b ≤ n) : (m.map g).length * b ≤ n := by rw [List.length_map]; exact h
set_option maxRecDepth 100000 in
theorem app_b5 {x : List Value} {b n : Nat} (h : 1 * b ≤ n) : [x].length * b ≤ n := h
set_option maxRecDepth 100000 in
/-- Rows whose cells each fill one cell. -/
theorem one_rows {l : List (List Value)} (h : l.all (fun r => r.all (·.oneCell')) = true) : ∀ r ∈ l, ∀ u ∈ r, u.oneCell' = true := fun r hr u hu => List.all_eq_true.1 (List.all_eq_true.1 h r hr) u hu
set_option maxRecDepth 100000 in
theorem one_map {α : Type} {f : α → List Value} (h : ∀ x, (f x).all (·.oneCell') = true) (l : List α) : ∀ r ∈ l.map f, ∀ u ∈ r, u.oneCell' = true := fun r hr u hu => by
  obtain ⟨x, _, rfl⟩ := List.mem_map.1 hr
  exact List.all_eq_true.1 (h x) u hu
set_option maxRecDepth 100000 in
theorem bool_v {a b : Bool} (h : a = b) : Value.bool a = .bool b := by rw [h]
set_option maxRecDepth 100000 in
theorem int_v {k : IntKind} {a b : Int} (h : a = b) : Value.int k a = .int k b := by rw [h]
set_option maxRecDepth 100000 in
theorem exists_at {α : Type} {l : List α} {k : Nat} (h : k < l.length) : ∃ x, l[k]? = some x := ⟨l[k], List.getElem?_eq_getElem h⟩
set_option maxRecDepth 100000 in
/-- What held of the first k holds of the first k + 1. -/
theorem upto_succ {α : Type} {l : List α} {k : Nat} {p : α → Prop} {x : α} (h : ∀ (j : Nat) (y : α), j < k → l[j]? = some y → p y) (hx : l[k]? = some x) (hp : p x) : ∀ (j : Nat) (y : α), j < k + 1 → l[j]? = some y → p y := by
  intro j y hj hy
  by_cases e : j = k
  · subst e; rw [hx] at hy; injection hy with hy; subst hy; exact hp
  · exact h j y (by omega) hy
set_option maxRecDepth 100000 in
theorem upto_mem {α : Type} {l : List α} {p : α → Prop} (h : ∀ (j : Nat) (y : α), j < l.length → l[j]? = some y → p y) : ∀ y ∈ l, p y := fun y hy => by
  obtain ⟨j, hj⟩ := List.mem_iff_getElem?.1 hy
  exact h j y (List.getElem?_eq_some_iff.1 hj).1 hj
end Go.Proofs.Ytfacimebfdeaeaa
