/- The law SheetDoes returns true, whatever the input, and leaves each argument as it was. No condition. -/
import Derived.Test.YtnpbnlmhmjejhaaSDo
import Derived.Test.YtnpbnlmhmjejhaaRow6
import Derived.Test.YtnpbnlmhmjejhaaRows
namespace Go.Proofs.Ytnpbnlmhmjejhaa
open Go.ChangeShapes Go.WideShapes Go.ChangeAt Go.RowKit Go.Deep
open Go.ChangeMaps (open_string shut_string)

set_option maxRecDepth 100000 in
theorem sheetDoes_lifted (os : Os) (started : os.Started) (H : Type) (enc : TypeId × Value → H) :
    ReturnsInHanded {} Try.checked os 5 .any (Rows.sheetDoesSpec.pre6 enc Try.prog Try.f5 Rows.sheetDoesRow.domain false) (Rows.sheetDoesSpec.post enc Try.prog Try.f5 false true false false) := by
  refine returnsInHanded_of_change_sized (C := Try.checked) own started (by kernel_rfl) Try.func5
    (ChangeSpec.witness6 (enc := enc) (C := Try.checked) false ⟨#[], #[.slice none 0 0, .slice none 0 0], []⟩ 8 (by kernel_rfl) (by kernel_rfl) (by kernel_rfl) (by kernel_rfl)) ?_
  intro W base args ds gs before hval0 hW _ hsz _
  have hval : ∀ (j : Nat) t v, Try.f5.params[j]? = some t → args[j]? = some v → Value.okWide Try.prog W .any base t v := hval0
  have hW' := hW
  obtain ⟨p, q, hA0, hV, rfl, hfz, hnd⟩ := hW
  have hA : DataW.TrodAll enc Try.prog W 0 (fun _ => true) true Try.f5.params.toList args.toList ds p := hA0
  rw [Try.params5] at hA hval
  obtain ⟨v0, vs0, d0, ds0, p0, q0, hargs, rfl, rfl, h0, r0⟩ := trodAll_cons hA
  obtain ⟨v1, vs1, d1, ds1, p1, q1, rfl, rfl, rfl, h1, r1⟩ := trodAll_cons r0
  obtain ⟨rfl, rfl, rfl⟩ := trodAll_nil r1
  obtain rfl : args = #[v0, v1] := by cases args; simp_all
  obtain ⟨rfl, rfl⟩ := trodVars_none hV
  have k0 := h0
  have lt0 : ∀ x ∈ p0, x.block < W.heap.size := by obtain ⟨m, hm⟩ := k0; exact DataW.trod_lt m _ _ _ hm
  obtain ⟨cap0, l0, hlc0, ok0, rp0, dd0⟩ : ∃ (cap : Nat) (l : List Cell), l.length ≤ cap ∧ (∀ y ∈ l, Cell.ok y) ∧ Pv.RepS (fun _ => .ext) (fun _ => 0) W (.sl none .no 5 (l.map Cell.vals)) v0 ∧ (d0 = .nil ∧ cap = 0 ∨ ∃ el sp, d0 = .slice el sp ∧ el.length + sp.length = cap) := by
    obtain ⟨m, hm⟩ := h0
    exact open_arg Cell.vals 5 Cell.ok (fun _ => rfl) Try.underlying22 (by kernel_rfl) (f := 5) (by kernel_rfl) conv_cell (fun _ => rfl) (by decide) (hval 0 22 v0 rfl rfl) hm
  have hb0 : l0.length * 48 ≤ 140737488351232 := by
    rcases dd0 with ⟨_, h0⟩ | ⟨el, sp, hd, hes⟩
    · have : l0.length = 0 := by omega
      rw [this]; decide
    · have hz := sized_slice hsz (j := 0) (elems := el) (spare := sp) rfl (by simp [hd]) Try.underlying22
      rw [hes, show Try.checked.prog.bytesOf 38 = 48 by kernel_rfl] at hz
      exact Nat.le_trans (Nat.mul_le_mul_right _ hlc0) hz
  have k1 := h1
  have lt1 : ∀ x ∈ p1, x.block < W.heap.size := by obtain ⟨m, hm⟩ := k1; exact DataW.trod_lt m _ _ _ hm
  obtain ⟨cap1, l1, hlc1, ok1, rp1, dd1⟩ : ∃ (cap : Nat) (l : List Deed), l.length ≤ cap ∧ (∀ y ∈ l, Deed.ok y) ∧ Pv.RepS (fun _ => .ext) (fun _ => 0) W (.sl none .no 10 (l.map Deed.vals)) v1 ∧ (d1 = .nil ∧ cap = 0 ∨ ∃ el sp, d1 = .slice el sp ∧ el.length + sp.length = cap) := by
    obtain ⟨m, hm⟩ := h1
    exact open_arg Deed.vals 10 Deed.ok (fun _ => rfl) Try.underlying51 (by kernel_rfl) (f := 5) (by kernel_rfl) conv_deed (fun _ => rfl) (by decide) (hval 1 51 v1 rfl rfl) hm
  have hb1 : l1.length * 88 ≤ 140737488351232 := by
    rcases dd1 with ⟨_, h0⟩ | ⟨el, sp, hd, hes⟩
    · have : l1.length = 0 := by omega
      rw [this]; decide
    · have hz := sized_slice hsz (j := 1) (elems := el) (spare := sp) rfl (by simp [hd]) Try.underlying51
      rw [hes, show Try.checked.prog.bytesOf 55 = 88 by kernel_rfl] at hz
      exact Nat.le_trans (Nat.mul_le_mul_right _ hlc1) hz
  refine ((lawSDoes l0 hb0 ok0 l1 hb1 ok1).2 [v0, v1] W ⟨rp0, rp1, trivial⟩).mono fun e W' ⟨v, T', F', he, bel, _, hv⟩ => ?_
  obtain rfl : v = .bool true := hv
  subst he
  exact ⟨_, rfl, _, _, _, [], _, [], hW', trodAll_mk1 (shut_bool Try.underlying4 _), (trodAll_cons_mk (Below.trod laidOut (by kernel_rfl) (of_decide_eq_true (by kernel_rfl)) k0 bel lt0) (trodAll_cons_mk (Below.trod laidOut (by kernel_rfl) (of_decide_eq_true (by kernel_rfl)) k1 bel lt1) trodAll_mk0)), rfl, bel.frame _, fun h => by cases h⟩

set_option maxRecDepth 100000 in
theorem sheetDoes_over : Rows.sheetDoesRow.holds Try.pinned (OpenSpec.ofChange Rows.sheetDoesSpec) :=
  OpenClaim.holds_of_wide 5 Try.f5 rfl rfl rfl rfl rfl rfl rfl ⟨rfl, rfl, rfl, rfl, rfl⟩ rfl rfl rfl rfl rfl (by kernel_rfl) Try.func5 (by kernel_rfl)
    (of_decide_eq_true (by kernel_rfl)) (by unfold Func.isWrapper; first | (rw [if_pos (by decide +kernel)]; kernel_rfl) | (rw [if_neg (by decide +kernel)]; exact ⟨rfl, rfl⟩))
    (fun os started H enc _ => sheetDoes_lifted os started H enc)

set_option maxRecDepth 100000 in
/-- The statement. -/
theorem sheetDoes_proved : Rows.SheetDoesSaid := sheetDoes_over
#print axioms sheetDoes_proved
end Go.Proofs.Ytnpbnlmhmjejhaa
