/- The keys of a sheet's map; the order of its cells; the library's SortFunc at cells. -/
import Derived.Test.YtnpbnlmhmjejhaaSL
import Derived.Test.YtnpbnlmhmjejhaaPvI
import Derived.Test.YtnpbnlmhmjejhaaLay2
namespace Go.Proofs.Ytnpbnlmhmjejhaa
open Pv Go.RowKit Go.Shelf
def Kref (v : Value) : Prop := ∃ x : Ref, v = x.v
set_option maxRecDepth 100000 in
theorem checkRef (n : Nat) (em : Bool) (x : Ref) (w : World) : (Instr.checkKey em (n + 2) 34 x.v).run Try.prog w = .ok () w := by
  rcases x with ⟨⟩
  simp only [Ref.v, Ref.vals, Instr.checkKey]
  go_simp
set_option maxRecDepth 100000 in
theorem eqRef (a b : Ref) (w : World) : (Op.equal 34 a.v b.v).run Try.prog w = .ok (decide (a = b)) w := by
  rcases a with ⟨⟩; rcases b with ⟨⟩
  simp only [Ref.v, Ref.vals, Op.equal, Op.maxDepth]
  go_simp
  (repeat' split) <;> simp_all
set_option maxRecDepth 100000 in
theorem sameRef (n : Nat) (x : Ref) : Instr.sameBits (n + 2) x.v x.v = true := by
  rcases x with ⟨⟩
  simp [Ref.vals, Instr.sameBits]
set_option maxRecDepth 100000 in
theorem keyRef : KeyOk Try.prog 34 Kref where
  check em w v := by rintro ⟨x, rfl⟩; exact checkRef 9998 em x w
  eq w x v := by
    rintro ⟨a, rfl⟩ ⟨b, rfl⟩
    refine ⟨_, eqRef a b w, ?_⟩
    rw [decide_eq_true_eq]
    constructor
    · rintro rfl; rfl
    · intro h; rcases a with ⟨a1, a2⟩; rcases b with ⟨b1, b2⟩; simpa [Ref.vals] using h
  wide := ⟨_, Try.underlying34⟩
  stays v := by rintro ⟨x, rfl⟩; exact sameRef 9998 x
def cmpC (a b : Cell) : Int := if lessR a.at_ b.at_ = true then -1 else if a.at_ = b.at_ then 0 else 1
def ltC (a b : Cell) : Bool := lessR a.at_ b.at_
instance : Inhabited Cell := ⟨⟨⟨0, 0⟩, blankV⟩⟩
set_option maxRecDepth 100000 in
theorem ltOf_cmp (a b : Cell) : ltOf cmpC a b = ltC a b := by
  unfold ltOf cmpC ltC
  cases lessR a.at_ b.at_ with
  | true => rfl
  | false => by_cases h : a.at_ = b.at_ <;> simp [h]
set_option maxRecDepth 100000 in
theorem lessR_iff (a b : Ref) : lessR a b = true ↔ a.row < b.row ∨ (a.row = b.row ∧ a.col < b.col) := by simp [lessR]
set_option maxRecDepth 100000 in
theorem lessR_f (a b : Ref) : lessR a b = false ↔ ¬(a.row < b.row ∨ (a.row = b.row ∧ a.col < b.col)) := by simp [lessR]
set_option maxRecDepth 100000 in
theorem swoC : Go.Sort.SWO (ltOf cmpC) where
  irrefl x := by rw [ltOf_cmp]; unfold ltC; rw [lessR_f]; omega
  trans x y z := by simp only [ltOf_cmp, ltC, lessR_iff]; omega
  ntrans x y z := by simp only [ltOf_cmp, ltC, lessR_f]; omega
set_option maxRecDepth 100000 in
theorem lessK (a b : Ref) (W : World) : Calls Try.prog 48 #[a.v, b.v] W fun e w' => e = .returned (.bool (lessR a b)) ∧ ∃ q os', w' = Go.Sort.grow (W.drewN q) os' := by
  rcases a with ⟨a1, a2⟩; rcases b with ⟨b1, b2⟩
  simp only [Ref.v, Ref.vals, lessR]
  go_enter Try.func48, Try.ntmps48
  go_wp2
  all_goals go_ret
  all_goals refine ⟨congrArg (fun b : Bool => Ending.returned (Value.bool b)) ?_, 0, _, by rw [Go.Sort.alloc_eq_grow, Go.Sort.alloc_eq_grow, Go.Sort.grow_grow]; rfl⟩
  all_goals first | rfl | (rw [Bool.eq_iff_iff]; simp; done) | (rw [Bool.eq_iff_iff]; simp; omega)
set_option maxRecDepth 100000 in
theorem grow_two (W : World) (o1 o2 : Obj) (q : Nat) (os : Array Obj) : Go.Sort.grow (((W.alloc o1).alloc o2).drewN q) os = Go.Sort.grow (W.drewN q) (#[o1, o2] ++ os) := by
  rw [Go.Sort.alloc_eq_grow, Go.Sort.alloc_eq_grow, Go.Sort.grow_grow]
  exact Go.Sort.grow_grow (W.drewN q) _ os
set_option maxRecDepth 100000 in
theorem Hid.mk' {p : Prop} (h : p) : Hid p := h
set_option maxRecDepth 100000 in
theorem grow_two' {W w' : World} {o1 o2 : Obj} {q : Nat} {os : Array Obj} (h : w' = Go.Sort.grow (((W.alloc o1).alloc o2).drewN q) os) : ∃ q os', w' = Go.Sort.grow (W.drewN q) os' := ⟨q, _, h.trans (grow_two W o1 o2 q os)⟩
set_option maxRecDepth 100000 in
theorem two_cell1 {W w' : World} {o1 o2 : Obj} {q : Nat} {os : Array Obj} (h : w' = Go.Sort.grow (((W.alloc o1).alloc o2).drewN q) os) (j : Nat) : w'.cell? ⟨W.heap.size, j, none⟩ = ((W.alloc o1).alloc o2).cell? ⟨W.heap.size, j, none⟩ := by
  rw [h]
  exact World.cell?_of_block (Go.Sort.heap_grow_old _ _ (by show W.heap.size < ((W.heap.push o1).push o2).size; simp; omega))
set_option maxRecDepth 100000 in
theorem two_cell2 {W w' : World} {o1 o2 : Obj} {q : Nat} {os : Array Obj} (h : w' = Go.Sort.grow (((W.alloc o1).alloc o2).drewN q) os) (j : Nat) : w'.cell? ⟨W.heap.size + 1, j, none⟩ = ((W.alloc o1).alloc o2).cell? ⟨W.heap.size + 1, j, none⟩ := by
  rw [h]
  exact World.cell?_of_block (Go.Sort.heap_grow_old _ _ (by show W.heap.size + 1 < ((W.heap.push o1).push o2).size; simp))
set_option maxHeartbeats 1000000 in
set_option maxRecDepth 100000 in
theorem cmpK (a b : Cell) (W : World) : Calls Try.prog 47 #[a.w, b.w] W fun e w' => e = .returned (.int .i64 (cmpC a b)) ∧ ∃ q os', w' = Go.Sort.grow (W.drewN q) os' := by
  have hcon := fun W' => lessK a.at_ b.at_ W'
  have hd : cmpC a b = if lessR a.at_ b.at_ = true then -1 else if a.at_ = b.at_ then 0 else 1 := rfl
  rw [hd]
  clear hd
  generalize lessR a.at_ b.at_ = r at hcon ⊢
  rcases a with ⟨⟨a1, a2⟩, ⟨ak, an, at_⟩⟩; rcases b with ⟨⟨b1, b2⟩, ⟨bk, bn, bt⟩⟩
  simp only [Cell.w, Cell.vals, Ref.v, Ref.vals, Ref.mk.injEq] at *
  go_enter Try.func47, Try.ntmps47
  go_wp2_with (go_at_call 48; refine (hcon _).mono ?_; rintro e w' ⟨rfl, q, os, hw⟩; have c1 := two_cell1 hw 0; have c2 := two_cell1 hw 1; have c3 := two_cell2 hw 0; have c4 := two_cell2 hw 1; have HW := Hid.mk' (grow_two' hw); clear hw; simp [go_sem] at c1 c2 c3 c4)
  all_goals go_ret
  all_goals refine ⟨?_, HW.out⟩
  all_goals first | rfl | (simp [*]; done)
set_option maxRecDepth 100000 in
theorem sortsC : SortsK Try.prog 46 (.func (.func 47) #[] #[]) Cell.vals 5 (ltOf cmpC) := fun blk off cap d w hH hblk hsz =>
  Go.Proofs.AnyQ.slices_SortFunc Try.laySort 5 Try.isAgg38 Try.sizeOf38 Cell.vals (fun _ => rfl) (fun x v hv => by simp [Cell.vals] at hv; rcases hv with rfl | rfl | rfl | rfl | rfl <;> rfl) cmpC swoC 47 #[] blk off cap d w (enters_of Try.func47 (by kernel_rfl) rfl) (fun _ _ _ _ x y => cmpK x y _) hH hblk hsz
set_option maxRecDepth 100000 in
theorem sortCall : Callable Try.prog 46 := ⟨_, Try.func46, by decide, rfl⟩
set_option maxRecDepth 100000 in
theorem lenK : Pure Try.prog 56 [.v (.int .u64 0)] (.s (.v (.int .i64 0))) := by
  refine ⟨⟨_, Try.func56, by decide, rfl⟩, fun vs w hvs => ?_⟩
  have hl := Go.Proofs.Any.bits_Len (Go.Proofs.SlLaysF0.n15.bits (P := Try.prog) (ρ := Try.laySort_ren) { Try.laySort with }) (0 : Int) w (by omega) (by omega)
  match vs, hvs with
  | [v], ⟨hv, _⟩ =>
    have hv' : v = .int .u64 0 := hv
    subst hv'
    refine hl.mono ?_
    rintro e w' ⟨rfl, rfl⟩
    exact ⟨_, fun _ => .ext, fun _ => 0, rfl, Below.refl _ _, fun _ _ => rfl, rfl⟩
end Go.Proofs.Ytnpbnlmhmjejhaa
