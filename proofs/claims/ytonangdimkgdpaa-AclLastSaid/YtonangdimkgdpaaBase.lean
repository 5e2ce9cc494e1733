/- Small words for worlds and slices, used by all walks of this seat: what a call that keeps old memory gives, a slice that reads as a list. No condition. -/
import Derived.Test.YtonangdimkgdpaaRows
import Derived.WalkKit
import Derived.WalkSpells
import Derived.WalkLawsBesides
import Derived.Below
import Derived.Deep.RegionHeld3
import Derived.Deep.QuietTactic
import Derived.BigQuiet
import Derived.RegionTactic
namespace Go.Proofs.Ytonangdimkgdpaa
open Go.RowKit

/-- Nothing that was there has turned. -/
def Kp (w w' : World) : Prop := Below w.heap.size w w'
theorem Kp.refl (w : World) : Kp w w := Below.refl _ _
theorem Kp.next {a b c : World} (h : Kp a b) (k : Kp b c) : Kp a c := Below.trans h (Below.mono k (Below.size h))
theorem Kp.alloc {a w : World} {o : Obj} (h : Kp a w) : Kp a (w.alloc o) := Below.alloc h (Below.size h) o
theorem Kp.drew {a w : World} (h : Kp a w) : Kp a w.drew := Below.drew h
theorem Kp.drewN {a w : World} {n : Nat} (h : Kp a w) : Kp a (w.drewN n) := ⟨h.os, h.tape, h.output, h.size, h.block⟩
theorem Kp.setCell {a w : World} {p : Addr} {u : Value} (hp : a.heap.size ≤ p.block) (h : Kp a w) : Kp a (w.setCell p u) := Below.setCell h hp u
theorem Kp.cell {w w' : World} (h : Kp w w') {b : Nat} (hb : b < w.heap.size) (o : Nat) : w'.cell? ⟨b, o, none⟩ = w.cell? ⟨b, o, none⟩ := Below.cell (p := ⟨b, o, none⟩) h hb
theorem Kp.le {w w' : World} (h : Kp w w') : w.heap.size ≤ w'.heap.size := Below.size h
theorem Kp.grown {a w w' : World} {row : Option Nat} (h : Kp a w) (hg : w.grownBy w' row) (hr : ∀ k, row = some k → a.heap.size ≤ k) : Kp a w' := Below.grown h hg (Below.size h) hr
theorem Kp.rule {w w' : World} (h : Kp w w') : ∀ b o, b < w.heap.size → w'.cell? ⟨b, o, none⟩ = w.cell? ⟨b, o, none⟩ := fun _ o hb => h.cell hb o
theorem Kp.frule {w w' : World} (h : Kp w w') : ∀ b o, b < w.heap.size → w'.frozen? ⟨b, o, none⟩ = w.frozen? ⟨b, o, none⟩ := fun b o hb => Below.frozen (p := ⟨b, o, none⟩) h hb
theorem Kp.later {w w' : World} (h : Kp w w') {a : Addr} {v : Value} (hc : w.cell? a = some v) : w'.cell? a = some v := by
  rw [Below.cell h (World.block_lt_of_cell? w a hc)]; exact hc

@[go_sem] theorem lt_step2 {a b : Nat} (h : a < b) : a < b + 1 + 1 := by omega
@[go_sem] theorem lt_step3 {a b : Nat} (h : a < b) : a < b + 1 + 1 + 1 := by omega
@[go_sem] theorem lt_step4 {a b : Nat} (h : a < b) : a < b + 1 + 1 + 1 + 1 := by omega
@[go_sem] theorem lt_step5 {a b : Nat} (h : a < b) : a < b + 1 + 1 + 1 + 1 + 1 := by omega
@[go_sem] theorem lt_step6 {a b : Nat} (h : a < b) : a < b + 1 + 1 + 1 + 1 + 1 + 1 := by omega
@[go_sem] theorem lt_step7 {a b : Nat} (h : a < b) : a < b + 1 + 1 + 1 + 1 + 1 + 1 + 1 := by omega
@[go_sem] theorem lt_step8 {a b : Nat} (h : a < b) : a < b + 1 + 1 + 1 + 1 + 1 + 1 + 1 + 1 := by omega

/-- The call returns v and turns nothing that was there. -/
def Gives (w : World) (v : Value) : Ending → World → Prop := fun e w' => e = .returned v ∧ Kp w w'
/-- The call returns v and leaves the world alone. -/
def Is (w : World) (v : Value) : Ending → World → Prop := fun e w' => e = .returned v ∧ w = w'
/-- The same, the value said by what holds of it. -/
def GivesX (w : World) (Φ : Value → World → Prop) : Ending → World → Prop := fun e w' => ∃ v, e = .returned v ∧ Φ v w' ∧ Kp w w'

theorem held_refl (w : World) : (∀ b o, b < w.heap.size → w.drew.cell? ⟨b, o, none⟩ = w.cell? ⟨b, o, none⟩) ∧ Kp w w.drew := ⟨fun _ _ _ => rfl, (Kp.refl w).drew⟩
theorem held_next {w w1 w2 : World} (h : (∀ b o, b < w.heap.size → w1.cell? ⟨b, o, none⟩ = w.cell? ⟨b, o, none⟩) ∧ Kp w w1) (hb : Kp w1 w2) :
    (∀ b o, b < w.heap.size → w2.cell? ⟨b, o, none⟩ = w.cell? ⟨b, o, none⟩) ∧ Kp w w2 :=
  ⟨fun _ o hlt => (h.2.next hb).cell hlt o, h.2.next hb⟩
theorem held_alloc {w w1 : World} {o : Obj} (h : (∀ b o, b < w.heap.size → w1.cell? ⟨b, o, none⟩ = w.cell? ⟨b, o, none⟩) ∧ Kp w w1) :
    (∀ b p, b < w.heap.size → (w1.alloc o).cell? ⟨b, p, none⟩ = w.cell? ⟨b, p, none⟩) ∧ Kp w (w1.alloc o) :=
  held_next h (Kp.refl w1).alloc

/-- A slice that reads as the list l; each element lies in k cells, 'vals' of it. -/
def SlAt {α : Type} (vals : α → List Value) (k : Nat) (w : World) (A : Option Addr) (l : List α) : Prop :=
  l ≠ [] → ∃ b o, A = some ⟨b, o, none⟩ ∧ b < w.heap.size ∧ ∀ (i : Nat) (x : α) (j : Nat) (u : Value), l[i]? = some x → (vals x)[j]? = some u → w.cell? ⟨b, o + i * k + j, none⟩ = some u
section
variable {α : Type} {vals : α → List Value} {k : Nat} {w w' : World} {A : Option Addr} {l : List α}
theorem SlAt.nil : SlAt vals k w A ([] : List α) := fun h => absurd rfl h
theorem SlAt.keep (h : SlAt vals k w A l) (hk : Kp w w') : SlAt vals k w' A l := fun hl => by
  obtain ⟨b, o, hA, hb, hc⟩ := h hl
  exact ⟨b, o, hA, Nat.lt_of_lt_of_le hb hk.le, fun i x j u hx hu => (hk.cell hb _).trans (hc i x j u hx hu)⟩
theorem SlAt.at_ (h : SlAt vals k w A l) {i : Nat} {x : α} (hx : l[i]? = some x) : ∃ b o, A = some ⟨b, o, none⟩ ∧ b < w.heap.size ∧ ∀ (j : Nat) (u : Value), (vals x)[j]? = some u → w.cell? ⟨b, o + i * k + j, none⟩ = some u := by
  obtain ⟨b, o, hA, hb, hc⟩ := h (by rintro rfl; simp at hx)
  exact ⟨b, o, hA, hb, fun j u hu => hc i x j u hx hu⟩
theorem flatMap_at (hv : ∀ x, (vals x).length = k) : ∀ (l : List α) (i : Nat) (x : α) (j : Nat) (u : Value), l[i]? = some x → (vals x)[j]? = some u → (l.flatMap vals)[i * k + j]? = some u := by
  intro l
  induction l with
  | nil => intro i x j u h; simp at h
  | cons y l ih =>
    intro i x j u hx hu
    have hjk : j < k := by rw [← hv x]; exact (List.getElem?_eq_some_iff.1 hu).1
    rw [List.flatMap_cons]
    cases i with
    | zero =>
      simp only [List.getElem?_cons_zero, Option.some.injEq] at hx
      subst hx
      rw [Nat.zero_mul, Nat.zero_add, List.getElem?_append_left (by rw [hv]; exact hjk)]
      exact hu
    | succ i =>
      rw [List.getElem?_cons_succ] at hx
      have e : (i + 1) * k + j = k + (i * k + j) := by rw [Nat.succ_mul]; omega
      rw [e, List.getElem?_append_right (by rw [hv]; omega), hv, Nat.add_sub_cancel_left]
      exact ih i x j u hx hu
theorem flatMap_len (hv : ∀ x, (vals x).length = k) (l : List α) : (l.flatMap vals).length = l.length * k := by
  induction l with
  | nil => simp
  | cons y l ih => rw [List.flatMap_cons, List.length_append, ih, hv, List.length_cons, Nat.succ_mul]; omega
/-- What the call owns reads. -/
theorem SlAt.of_own (hv : ∀ x, (vals x).length = k) {base : Nat} {e : TypeId} {c n : Nat} (h : w.ownsRow base e k (.slice A n c) n (l.flatMap vals)) (hn : n = l.length) : SlAt vals k w A l := fun hl => by
  rcases h.2 with ⟨_, h0⟩ | ⟨g, cap, cur, hv', hb, hg, hnc, hm, hs, ht⟩
  · exact absurd (List.eq_nil_of_length_eq_zero (by omega)) hl
  · injection hv' with hA _ _
    subst hA
    refine ⟨g, 0, rfl, (Array.getElem?_eq_some_iff.1 hg).1, fun i x j u hx hu => ?_⟩
    have hcell := h.cells (g := g) rfl (i * k + j) u (flatMap_at hv l i x j u hx hu)
    have e : ((⟨g, 0, none⟩ : Addr).add (i * k + j)) = ⟨g, 0 + i * k + j, none⟩ := by unfold Addr.add; split <;> simp_all
    rw [← e]; exact hcell
end

/-- A slice of the call's own that reads as l: in blocks from 'base' on. -/
def Own {α : Type} (vals : α → List Value) (k : Nat) (e : TypeId) (base : Nat) (w : World) (A : Option Addr) (c : Nat) (l : List α) : Prop :=
  w.ownsRow base e k (.slice A l.length c) l.length (l.flatMap vals)
theorem Own.sl {α : Type} {vals : α → List Value} {k : Nat} {e : TypeId} {base : Nat} {w : World} {A : Option Addr} {c : Nat} {l : List α} (hv : ∀ x, (vals x).length = k) (h : Own vals k e base w A c l) : SlAt vals k w A l := SlAt.of_own hv h rfl
/-- The result is a slice in new memory that reads as l. -/
def OutSl {α : Type} (vals : α → List Value) (k : Nat) (e : TypeId) (base : Nat) (l : List α) (v : Value) (w' : World) : Prop := ∃ A c, v = .slice A l.length c ∧ Own vals k e base w' A c l

theorem held_sl {w w1 : World} {α : Type} {vals : α → List Value} {k : Nat} {A : Option Addr} {l : List α} (h : (∀ b o, b < w.heap.size → w1.cell? ⟨b, o, none⟩ = w.cell? ⟨b, o, none⟩) ∧ Kp w w1) (hs : SlAt vals k w A l) : SlAt vals k w1 A l := hs.keep h.2
theorem held_kp {w w1 : World} (h : (∀ b o, b < w.heap.size → w1.cell? ⟨b, o, none⟩ = w.cell? ⟨b, o, none⟩) ∧ Kp w w1) : Kp w w1 := h.2

/-! ### the data -/
structure Rect where
  c1 : Int
  r1 : Int
  c2 : Int
  r2 : Int
deriving DecidableEq
structure Ref where
  col : Int
  row : Int
deriving DecidableEq
structure Rights where
  read : Nat
  write : Nat
  own : Nat
deriving DecidableEq
structure Rule where
  rect : Rect
  rights : Rights
deriving DecidableEq
def Rect.vals (r : Rect) : List Value := [.int .i64 r.c1, .int .i64 r.r1, .int .i64 r.c2, .int .i64 r.r2]
def Ref.vals (r : Ref) : List Value := [.int .i64 r.col, .int .i64 r.row]
def Rights.vals (r : Rights) : List Value := [.int .u64 r.read, .int .u64 r.write, .int .u64 r.own]
def Rule.vals (r : Rule) : List Value := [.int .i64 r.rect.c1, .int .i64 r.rect.r1, .int .i64 r.rect.c2, .int .i64 r.rect.r2, .int .u64 r.rights.read, .int .u64 r.rights.write, .int .u64 r.rights.own]
def ival (n : Int) : List Value := [.int .i64 n]
theorem SlAt.rule {w : World} {A : Option Addr} {l : List Rule} (h : SlAt Rule.vals 7 w A l) {i : Nat} {x : Rule} (hx : l[i]? = some x) :
    ∃ b o, A = some ⟨b, o, none⟩ ∧ b < w.heap.size ∧ w.cell? ⟨b, o + i * 7, none⟩ = some (.int .i64 x.rect.c1) ∧ w.cell? ⟨b, o + i * 7 + 1, none⟩ = some (.int .i64 x.rect.r1) ∧ w.cell? ⟨b, o + i * 7 + 2, none⟩ = some (.int .i64 x.rect.c2) ∧ w.cell? ⟨b, o + i * 7 + 3, none⟩ = some (.int .i64 x.rect.r2)
      ∧ w.cell? ⟨b, o + i * 7 + 4, none⟩ = some (.int .u64 x.rights.read) ∧ w.cell? ⟨b, o + i * 7 + 5, none⟩ = some (.int .u64 x.rights.write) ∧ w.cell? ⟨b, o + i * 7 + 6, none⟩ = some (.int .u64 x.rights.own) := by
  obtain ⟨b, o, hA, hb, hc⟩ := h.at_ hx
  exact ⟨b, o, hA, hb, hc 0 _ rfl, hc 1 _ rfl, hc 2 _ rfl, hc 3 _ rfl, hc 4 _ rfl, hc 5 _ rfl, hc 6 _ rfl⟩
theorem SlAt.rect {w : World} {A : Option Addr} {l : List Rect} (h : SlAt Rect.vals 4 w A l) {i : Nat} {x : Rect} (hx : l[i]? = some x) :
    ∃ b o, A = some ⟨b, o, none⟩ ∧ b < w.heap.size ∧ w.cell? ⟨b, o + i * 4, none⟩ = some (.int .i64 x.c1) ∧ w.cell? ⟨b, o + i * 4 + 1, none⟩ = some (.int .i64 x.r1) ∧ w.cell? ⟨b, o + i * 4 + 2, none⟩ = some (.int .i64 x.c2) ∧ w.cell? ⟨b, o + i * 4 + 3, none⟩ = some (.int .i64 x.r2) := by
  obtain ⟨b, o, hA, hb, hc⟩ := h.at_ hx
  exact ⟨b, o, hA, hb, hc 0 _ rfl, hc 1 _ rfl, hc 2 _ rfl, hc 3 _ rfl⟩
theorem SlAt.ref {w : World} {A : Option Addr} {l : List Ref} (h : SlAt Ref.vals 2 w A l) {i : Nat} {x : Ref} (hx : l[i]? = some x) :
    ∃ b o, A = some ⟨b, o, none⟩ ∧ b < w.heap.size ∧ w.cell? ⟨b, o + i * 2, none⟩ = some (.int .i64 x.col) ∧ w.cell? ⟨b, o + i * 2 + 1, none⟩ = some (.int .i64 x.row) := by
  obtain ⟨b, o, hA, hb, hc⟩ := h.at_ hx
  exact ⟨b, o, hA, hb, hc 0 _ rfl, hc 1 _ rfl⟩
theorem SlAt.int {w : World} {A : Option Addr} {l : List Int} (h : SlAt ival 1 w A l) {i : Nat} {x : Int} (hx : l[i]? = some x) :
    ∃ b o, A = some ⟨b, o, none⟩ ∧ b < w.heap.size ∧ w.cell? ⟨b, o + i, none⟩ = some (.int .i64 x) := by
  obtain ⟨b, o, hA, hb, hc⟩ := h.at_ hx
  refine ⟨b, o, hA, hb, ?_⟩
  have := hc 0 _ rfl
  rwa [Nat.mul_one, Nat.add_zero] at this

/-- Numbers that fit their kinds. -/
def i64 (n : Int) : Prop := -9223372036854775808 ≤ n ∧ n ≤ 9223372036854775807
def u64 (n : Nat) : Prop := n < 18446744073709551616
structure Rect.ok (r : Rect) : Prop where
  c1 : i64 r.c1
  r1 : i64 r.r1
  c2 : i64 r.c2
  r2 : i64 r.r2
structure Ref.ok (r : Ref) : Prop where
  col : i64 r.col
  row : i64 r.row
structure Rights.ok (r : Rights) : Prop where
  read : r.read < 18446744073709551616
  write : r.write < 18446744073709551616
  own : r.own < 18446744073709551616
structure Rule.ok (r : Rule) : Prop where
  rect : r.rect.ok
  rights : r.rights.ok

/-! ### what the small functions say -/
def hasB (r : Rect) (x : Ref) : Bool := decide (r.c1 ≤ x.col ∧ x.col ≤ r.c2 ∧ r.r1 ≤ x.row ∧ x.row ≤ r.r2)
def refOk (x : Ref) : Bool := decide (1 ≤ x.col ∧ x.col ≤ 1024 ∧ 1 ≤ x.row ∧ x.row ≤ 1024)
def rectOk (r : Rect) : Bool := decide (1 ≤ r.c1 ∧ r.c1 ≤ r.c2 ∧ r.c2 ≤ 1024 ∧ 1 ≤ r.r1 ∧ r.r1 ≤ r.r2 ∧ r.r2 ≤ 1024)
def sheetR : Rect := ⟨1, 1, 1024, 1024⟩
theorem bool_ret {a b : Bool} (h : a = b) : Ending.returned (.bool a) = .returned (.bool b) := by rw [h]
theorem int_ret {k : IntKind} {a b : Int} (h : a = b) : Ending.returned (.int k a) = .returned (.int k b) := by rw [h]

end Go.Proofs.Ytonangdimkgdpaa
