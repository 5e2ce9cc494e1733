/- More data: operations, as the machine of values holds them; what the functions on them say. No condition. -/
import Derived.Test.YtfacimebfdeaeaaD2
namespace Go.Proofs.Ytfacimebfdeaeaa
open Pv
structure Opn where
  kind : Nat
  user : Int
  rect : Rect
  input : ByteArray
  rights : Rights
  fns : Nat
  to : Nat
  index : Int
deriving DecidableEq
def Opn.vals (x : Opn) : List Value := [.int .u8 x.kind, .int .i64 x.user, .int .i64 x.rect.c1, .int .i64 x.rect.r1, .int .i64 x.rect.c2, .int .i64 x.rect.r2, .string x.input, .int .u64 x.rights.read, .int .u64 x.rights.write, .int .u64 x.rights.own, .int .u8 x.fns, .int .u64 x.to, .int .i64 x.index]
abbrev Opn.v (x : Opn) : Value := .agg x.vals.toArray
structure Opn.ok (x : Opn) : Prop where
  kind : x.kind < 256
  user : i64 x.user
  rect : x.rect.ok
  rights : x.rights.ok
  fns : x.fns < 256
  to : x.to < 18446744073709551616
  index : i64 x.index
set_option maxRecDepth 100000 in
theorem kinds (k : Nat) : k = 1 ∨ k = 2 ∨ k = 3 ∨ k = 4 ∨ k = 5 ∨ k = 6 ∨ k = 7 ∨ k = 8 ∨ k = 9 ∨ k = 10 ∨ (k = 0 ∨ 10 < k) := by omega
def zeroO (k : Nat) (u : Int) (r : Rect) : Opn := ⟨k, u, r, ⟨#[]⟩, ⟨0, 0, 0⟩, 0, 0, 0⟩
def rect0 : Rect := ⟨0, 0, 0, 0⟩
def tgtO (x : Opn) : Rect × Bool := if 3 ≤ x.kind ∧ x.kind ≤ 8 then (x.rect, true) else (rect0, false)
set_option maxRecDepth 100000 in
theorem tgtO_t {x : Opn} (h : 3 ≤ x.kind ∧ x.kind ≤ 8) : tgtO x = (x.rect, true) := if_pos h
set_option maxRecDepth 100000 in
theorem tgtO_f {x : Opn} (h : ¬(3 ≤ x.kind ∧ x.kind ≤ 8)) : tgtO x = (rect0, false) := if_neg h
def plainO (x : Opn) : Opn :=
  if x.kind = 3 then { zeroO x.kind x.user x.rect with input := x.input }
  else if x.kind = 4 ∨ x.kind = 5 ∨ x.kind = 6 then zeroO x.kind x.user x.rect
  else if x.kind = 7 then { zeroO x.kind x.user x.rect with rights := x.rights }
  else if x.kind = 8 then { zeroO x.kind x.user x.rect with fns := x.fns, to := x.to }
  else if x.kind = 9 then { zeroO x.kind x.user rect0 with index := x.index }
  else if x.kind = 1 ∨ x.kind = 2 ∨ x.kind = 10 then zeroO x.kind x.user rect0
  else zeroO x.kind 0 rect0
set_option maxRecDepth 100000 in
theorem plainO_3 {x : Opn} (h : x.kind = 3) : plainO x = { zeroO x.kind x.user x.rect with input := x.input } := if_pos h
set_option maxRecDepth 100000 in
theorem plainO_4 {x : Opn} (h : x.kind = 4 ∨ x.kind = 5 ∨ x.kind = 6) : plainO x = zeroO x.kind x.user x.rect := by
  unfold plainO
  rw [if_neg (by omega), if_pos h]
set_option maxRecDepth 100000 in
theorem plainO_7 {x : Opn} (h : x.kind = 7) : plainO x = { zeroO x.kind x.user x.rect with rights := x.rights } := by
  unfold plainO
  rw [if_neg (by omega), if_neg (by omega), if_pos h]
set_option maxRecDepth 100000 in
theorem plainO_8 {x : Opn} (h : x.kind = 8) : plainO x = { zeroO x.kind x.user x.rect with fns := x.fns, to := x.to } := by
  unfold plainO
  rw [if_neg (by omega), if_neg (by omega), if_neg (by omega), if_pos h]
set_option maxRecDepth 100000 in
theorem plainO_9 {x : Opn} (h : x.kind = 9) : plainO x = { zeroO x.kind x.user rect0 with index := x.index } := by
  unfold plainO
  rw [if_neg (by omega), if_neg (by omega), if_neg (by omega), if_neg (by omega), if_pos h]
set_option maxRecDepth 100000 in
theorem plainO_1 {x : Opn} (h : x.kind = 1 ∨ x.kind = 2 ∨ x.kind = 10) : plainO x = zeroO x.kind x.user rect0 := by
  unfold plainO
  rw [if_neg (by omega), if_neg (by omega), if_neg (by omega), if_neg (by omega), if_neg (by omega), if_pos h]
set_option maxRecDepth 100000 in
theorem plainO_x {x : Opn} (h : x.kind = 0 ∨ 10 < x.kind) : plainO x = zeroO x.kind 0 rect0 := by
  unfold plainO
  rw [if_neg (by omega), if_neg (by omega), if_neg (by omega), if_neg (by omega), if_neg (by omega), if_neg (by omega)]
def usesN (k : Nat) : Nat := match k with
  | 1 => 1 | 2 => 1 | 3 => 7 | 4 => 3 | 5 => 3 | 6 => 3 | 7 => 11 | 8 => 51 | 9 => 65 | 10 => 1 | _ => 0
set_option maxRecDepth 100000 in
theorem usesN_x {k : Nat} (h : k = 0 ∨ 10 < k) : usesN k = 0 := by
  unfold usesN
  split <;> first | omega | rfl
def mutB (k : Nat) : Bool := if k = 3 ∨ k = 4 ∨ k = 7 ∨ k = 8 ∨ k = 9 then true else false
set_option maxRecDepth 100000 in
theorem mutB_t {k : Nat} (h : k = 3 ∨ k = 4 ∨ k = 7 ∨ k = 8 ∨ k = 9) : mutB k = true := if_pos h
set_option maxRecDepth 100000 in
theorem mutB_f {k : Nat} (h : ¬(k = 3 ∨ k = 4 ∨ k = 7 ∨ k = 8 ∨ k = 9)) : mutB k = false := if_neg h
def oneB (r : Rect) : Bool := decide (r.c1 = r.c2) && decide (r.r1 = r.r2)
end Go.Proofs.Ytfacimebfdeaeaa
