/- From a walk that returns true and keeps old memory to the row's post; what the arguments read as, in leaves. -/
import Derived.Test.YtfacimebfdeaeaaD
import Derived.WalkKit
import Derived.Below
import Derived.Deep.DeepCutAuto
import Derived.ProofKit
import Derived.OpenShut
import Derived.ShutString
import Derived.ChangeOld
import Derived.Deep.Slices
namespace Go.Proofs.Ytfacimebfdeaeaa
open Go.ChangeShapes Go.WideShapes Go.ChangeAt Go.RowKit Go.Deep

set_option maxRecDepth 100000 in
theorem own : ownKnob Try.prog.godebug = none := by kernel_rfl
/-- A slice that reads as the list l; each element lies in k cells, 'vals' of it. -/
def SlAt {α : Type} (vals : α → List Value) (k : Nat) (w : World) (A : Option Addr) (l : List α) : Prop :=
  l ≠ [] → ∃ b o, A = some ⟨b, o, none⟩ ∧ b < w.heap.size ∧ ∀ (i : Nat) (x : α) (j : Nat) (u : Value), l[i]? = some x → (vals x)[j]? = some u → w.cell? ⟨b, o + i * k + j, none⟩ = some u
set_option maxRecDepth 100000 in
theorem SlAt.nil {α : Type} {vals : α → List Value} {k : Nat} {w : World} {A : Option Addr} : SlAt vals k w A ([] : List α) := fun h => absurd rfl h
/-! ### leaves: the cells of a type that holds no pointer, slice or map -/
inductive Leaf where
  | int (k : IntKind)
  | bool
  | str
def Leaf.ok : Leaf → Value → Prop
  | .int k, v => ∃ n, v = .int k n ∧ (Lit.int k n).wf = true
  | .bool, v => ∃ b, v = .bool b
  | .str, v => ∃ s, v = .string s ∧ s.size ≤ maxLen
inductive AllOk : List Leaf → List Value → Prop
  | nil : AllOk [] []
  | cons {l : Leaf} {v : Value} {ls : List Leaf} {vs : List Value} : l.ok v → AllOk ls vs → AllOk (l :: ls) (v :: vs)
set_option maxRecDepth 100000 in
theorem AllOk.append {a c : List Leaf} {b d : List Value} (h : AllOk a b) (k : AllOk c d) : AllOk (a ++ c) (b ++ d) := by
  induction h with
  | nil => exact k
  | cons h1 _ ih => exact .cons h1 ih

set_option maxRecDepth 100000 in
theorem AllOk.len {a : List Leaf} {b : List Value} (h : AllOk a b) : b.length = a.length := by
  induction h with
  | nil => rfl
  | cons _ _ ih => simp [ih]
section
variable {H : Type} {enc : TypeId × Value → H} {P : Program} {w : World} {base : Nat} {spare : Nat → Bool} {held : Bool}
end

/-! ### from leaves to the data -/
end Go.Proofs.Ytfacimebfdeaeaa
