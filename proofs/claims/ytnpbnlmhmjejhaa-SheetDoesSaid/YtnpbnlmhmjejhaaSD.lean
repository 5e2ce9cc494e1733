/- The data of a sheet: values, cells, as the machine of values holds them; '==' on them; what the small functions say. No condition. -/
import Derived.Test.YtnpbnlmhmjejhaaSG
namespace Go.Proofs.Ytnpbnlmhmjejhaa
open Pv Go.RowKit
structure Val where
  kind : Nat
  num : Int
  text : ByteArray
deriving DecidableEq
structure Cell where
  at_ : Ref
  v : Val
deriving DecidableEq
structure Put where
  at_ : Ref
  n : Int
deriving DecidableEq
structure Deed where
  look : Bool
  cell : Cell
  rect : Rect
deriving DecidableEq
def Val.vals (x : Val) : List Value := [.int .u8 x.kind, .int .i64 x.num, .string x.text]
def Cell.vals (x : Cell) : List Value := [.int .i64 x.at_.col, .int .i64 x.at_.row, .int .u8 x.v.kind, .int .i64 x.v.num, .string x.v.text]
def Put.vals (x : Put) : List Value := [.int .i64 x.at_.col, .int .i64 x.at_.row, .int .i64 x.n]
def Deed.vals (x : Deed) : List Value := [.bool x.look, .int .i64 x.cell.at_.col, .int .i64 x.cell.at_.row, .int .u8 x.cell.v.kind, .int .i64 x.cell.v.num, .string x.cell.v.text, .int .i64 x.rect.c1, .int .i64 x.rect.r1, .int .i64 x.rect.c2, .int .i64 x.rect.r2]
abbrev Val.w (x : Val) : Value := .agg x.vals.toArray
abbrev Cell.w (x : Cell) : Value := .agg x.vals.toArray
abbrev Put.w (x : Put) : Value := .agg x.vals.toArray
abbrev cells (l : List Cell) : SV := .sl none .no 5 (l.map Cell.vals)
abbrev puts (l : List Put) : SV := .sl none .no 3 (l.map Put.vals)
abbrev deeds (l : List Deed) : SV := .sl none .no 10 (l.map Deed.vals)
abbrev cellsR (l : List Cell) : SV := .sl (some 0) (.front 38) 5 (l.map Cell.vals)
structure Val.ok (x : Val) : Prop where
  kind : x.kind < 256
  num : i64 x.num
structure Cell.ok (x : Cell) : Prop where
  at_ : x.at_.ok
  v : x.v.ok
def Put.ok (x : Put) : Prop := x.at_.ok ∧ i64 x.n
def Deed.ok (x : Deed) : Prop := x.cell.ok ∧ x.rect.ok
def noText : ByteArray := ⟨#[]⟩
def blankV : Val := ⟨0, 0, noText⟩
def goodV (x : Val) : Prop := (x.kind = 0 ∧ x.num = 0 ∧ x.text = noText) ∨ (x.kind = 1 ∧ x.num ≠ -9223372036854775808 ∧ x.text = noText) ∨ (x.kind = 2 ∧ (x.num = 0 ∨ x.num = 1) ∧ x.text = noText) ∨ (x.kind = 3 ∧ x.num = 0 ∧ chkT x.text = 0) ∨ (x.kind = 4 ∧ (1 ≤ x.num ∧ x.num ≤ 6) ∧ x.text = noText)
instance (x : Val) : Decidable (goodV x) := by unfold goodV; infer_instance
def chkV (x : Val) : Int := if goodV x then 0 else 2
def lessR (a b : Ref) : Bool := decide (a.row < b.row ∨ (a.row = b.row ∧ a.col < b.col))
/-! ### '==' -/
set_option maxRecDepth 100000 in
theorem str_ne {s1 s2 : ByteArray} (h : ¬s1 = s2) : ¬s1.toList = s2.toList := fun h4 => h (by rw [ByteArray.toList_eq, ByteArray.toList_eq] at h4; exact ByteArray.ext (Array.toList_inj.mp h4))
set_option maxRecDepth 100000 in
theorem eqlStr {t : TypeId} {x y : Operand} (a b : ByteArray) : BinRun Try.prog .eql t x y (.string a) (.string b) (.bool (decide (a = b))) := fun w => by
  rw [Sem.run_bind, show (eqGuard .eql t x y (.string a) (.string b)).run Try.prog w = .ok () w from rfl, Result.andThen_ok]
  show (Op.stringOp .eql a b).run Try.prog w = _
  simp only [Op.stringOp, Sem.run_pure]
  by_cases h : a = b
  · subst h; simp
  · simp [h, str_ne h]
set_option maxRecDepth 100000 in
theorem shr1 {t : TypeId} {x y : Operand} (a : Int) : BinRun Try.prog .shr t x y (.int .i64 a) (.int .u64 1) (.int .i64 (a / 2)) := fun w => by
  rw [Sem.run_bind, eqGuard_int, Result.andThen_ok, binOp_shr, shift_shr .i64 .u64 a 1 (by decide) (by decide)]
  rfl
set_option maxRecDepth 100000 in
theorem eqGuard_agg {P : Program} {op : BinOp} {t : TypeId} {x y : Operand} {cs ds : Array Value} (h : P.eqGuardType P.depth t = false) (w : World) : (eqGuard op t x y (.agg cs) (.agg ds)).run P w = .ok () w := by
  unfold eqGuard
  cases op <;> first | rfl | simp [h, go_sem]
set_option maxRecDepth 100000 in
theorem eqRun {op : BinOp} {t : TypeId} {x y : Operand} {cs ds : Array Value} {v : Value} (h : Try.prog.eqGuardType Try.prog.depth t = false) (hr : ∀ w, (binOp op t (.agg cs) (.agg ds)).run Try.prog w = .ok v w) : BinRun Try.prog op t x y (.agg cs) (.agg ds) v := fun w => by
  rw [Sem.run_bind, eqGuard_agg h]; exact hr w
set_option maxRecDepth 100000 in
theorem eqlRef {x y : Operand} (a b : Ref) : BinRun Try.prog .eql 34 x y a.v b.v (.bool (decide (a = b))) := by
  refine eqRun (by kernel_rfl) fun w => ?_
  rcases a with ⟨⟩; rcases b with ⟨⟩
  simp only [Ref.vals]
  go_simp
  (repeat' split) <;> simp_all
set_option maxRecDepth 100000 in
theorem neqRef {x y : Operand} (a b : Ref) : BinRun Try.prog .neq 34 x y a.v b.v (.bool (!decide (a = b))) := by
  refine eqRun (by kernel_rfl) fun w => ?_
  rcases a with ⟨⟩; rcases b with ⟨⟩
  simp only [Ref.vals]
  go_simp
  (repeat' split) <;> simp_all
set_option maxRecDepth 100000 in
theorem eqlVal {x y : Operand} (a b : Val) : BinRun Try.prog .eql 36 x y a.w b.w (.bool (decide (a = b))) := by
  refine eqRun (by kernel_rfl) fun w => ?_
  rcases a with ⟨k1, u1, s1⟩; rcases b with ⟨k2, u2, s2⟩
  simp only [Val.vals]
  go_simp
  rcases Decidable.em (k1 = k2) with rfl | h; rotate_left; · (simp [h]; try omega)
  rcases Decidable.em (u1 = u2) with rfl | h; rotate_left; · (simp [h]; try omega)
  rcases Decidable.em (s1 = s2) with rfl | h; rotate_left; · (simp [h, str_ne h])
  simp
set_option maxRecDepth 100000 in
theorem neqVal {x y : Operand} (a b : Val) : BinRun Try.prog .neq 36 x y a.w b.w (.bool (!decide (a = b))) := by
  refine eqRun (by kernel_rfl) fun w => ?_
  rcases a with ⟨k1, u1, s1⟩; rcases b with ⟨k2, u2, s2⟩
  simp only [Val.vals]
  go_simp
  rcases Decidable.em (k1 = k2) with rfl | h; rotate_left; · (simp [h]; try omega)
  rcases Decidable.em (u1 = u2) with rfl | h; rotate_left; · (simp [h]; try omega)
  rcases Decidable.em (s1 = s2) with rfl | h; rotate_left; · (simp [h, str_ne h])
  simp
set_option maxRecDepth 100000 in
theorem neqCell {x y : Operand} (a b : Cell) : BinRun Try.prog .neq 38 x y a.w b.w (.bool (!decide (a = b))) := by
  refine eqRun (by kernel_rfl) fun w => ?_
  rcases a with ⟨⟨c1, r1⟩, ⟨k1, u1, s1⟩⟩; rcases b with ⟨⟨c2, r2⟩, ⟨k2, u2, s2⟩⟩
  simp only [Cell.vals]
  go_simp
  rcases Decidable.em (c1 = c2) with rfl | h; rotate_left; · (simp [h]; try omega)
  rcases Decidable.em (r1 = r2) with rfl | h; rotate_left; · (simp [h]; try omega)
  rcases Decidable.em (k1 = k2) with rfl | h; rotate_left; · (simp [h]; try omega)
  rcases Decidable.em (u1 = u2) with rfl | h; rotate_left; · (simp [h]; try omega)
  rcases Decidable.em (s1 = s2) with rfl | h; rotate_left; · (simp [h, str_ne h])
  simp
end Go.Proofs.Ytnpbnlmhmjejhaa
