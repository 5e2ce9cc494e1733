/- The law SheetKeeps returns true, whatever the input, and leaves each argument as it was. No condition. -/
import Derived.Test.YtnpbnlmhmjejhaaSKeeps
import Derived.Test.YtnpbnlmhmjejhaaRow6
import Derived.Test.YtnpbnlmhmjejhaaRows
namespace Go.Proofs.Ytnpbnlmhmjejhaa
open Go.ChangeShapes Go.WideShapes Go.ChangeAt Go.RowKit Go.Deep
open Go.ChangeMaps (open_string shut_string)

set_option maxRecDepth 100000 in
theorem sheetKeeps_lifted (os : Os) (started : os.Started) (H : Type) (enc : TypeId × Value → H) :
    ReturnsInHanded {} Try.checked os 4 .any (Rows.sheetKeepsSpec.pre6 enc Try.prog Try.f4 Rows.sheetKeepsRow.domain false) (Rows.sheetKeepsSpec.post enc Try.prog Try.f4 false true false false) := by
  refine returnsInHanded_of_change_sized (C := Try.checked) own started (by kernel_rfl) Try.func4
    (ChangeSpec.witness6 (enc := enc) (C := Try.checked) false ⟨#[], #[.slice none 0 0], []⟩ 8 (by kernel_rfl) (by kernel_rfl) (by kernel_rfl) (by kernel_rfl)) ?_
  intro W base args ds gs before hval0 hW _ hsz _
  have hval : ∀ (j : Nat) t v, Try.f4.params[j]? = some t → args[j]? = some v → Value.okWide Try.prog W .any base t v := hval0
  have hW' := hW
  obtain ⟨p, q, hA0, hV, rfl, hfz, hnd⟩ := hW
  have hA : DataW.TrodAll enc Try.prog W 0 (fun _ => true) true Try.f4.params.toList args.toList ds p := hA0
  rw [Try.params4] at hA hval
  obtain ⟨v0, vs0, d0, ds0, p0, q0, hargs, rfl, rfl, h0, r0⟩ := trodAll_cons hA
  obtain ⟨rfl, rfl, rfl⟩ := trodAll_nil r0
  obtain rfl : args = #[v0] := by cases args; simp_all
  obtain ⟨rfl, rfl⟩ := trodVars_none hV
  have k0 := h0
  have lt0 : ∀ x ∈ p0, x.block < W.heap.size := by obtain ⟨m, hm⟩ := k0; exact DataW.trod_lt m _ _ _ hm
  obtain ⟨cap0, l0, hlc0, ok0, rp0, dd0⟩ : ∃ (cap : Nat) (l : List Put), l.length ≤ cap ∧ (∀ y ∈ l, Put.ok y) ∧ Pv.RepS (fun _ => .ext) (fun _ => 0) W (.sl none .no 3 (l.map Put.vals)) v0 ∧ (d0 = .nil ∧ cap = 0 ∨ ∃ el sp, d0 = .slice el sp ∧ el.length + sp.length = cap) := by
    obtain ⟨m, hm⟩ := h0
    exact open_arg Put.vals 3 Put.ok (fun _ => rfl) Try.underlying41 (by kernel_rfl) (f := 5) (by kernel_rfl) conv_put (fun _ => rfl) (by decide) (hval 0 41 v0 rfl rfl) hm
  have hb0 : l0.length * 24 ≤ 140737488351232 := by
    rcases dd0 with ⟨_, h0⟩ | ⟨el, sp, hd, hes⟩
    · have : l0.length = 0 := by omega
      rw [this]; decide
    · have hz := sized_slice hsz (j := 0) (elems := el) (spare := sp) rfl (by simp [hd]) Try.underlying41
      rw [hes, show Try.checked.prog.bytesOf 44 = 24 by kernel_rfl] at hz
      exact Nat.le_trans (Nat.mul_le_mul_right _ hlc0) hz
  refine ((lawSKeeps l0 hb0 ok0).2 [v0] W ⟨rp0, trivial⟩).mono fun e W' ⟨v, T', F', he, bel, _, hv⟩ => ?_
  obtain rfl : v = .bool true := hv
  subst he
  exact ⟨_, rfl, _, _, _, [], _, [], hW', trodAll_mk1 (shut_bool Try.underlying4 _), (trodAll_cons_mk (Below.trod laidOut (by kernel_rfl) (of_decide_eq_true (by kernel_rfl)) k0 bel lt0) trodAll_mk0), rfl, bel.frame _, fun h => by cases h⟩

set_option maxRecDepth 100000 in
theorem sheetKeeps_over : Rows.sheetKeepsRow.holds Try.pinned (OpenSpec.ofChange Rows.sheetKeepsSpec) :=
  OpenClaim.holds_of_wide 4 Try.f4 rfl rfl rfl rfl rfl rfl rfl ⟨rfl, rfl, rfl, rfl, rfl⟩ rfl rfl rfl rfl rfl (by kernel_rfl) Try.func4 (by kernel_rfl)
    (of_decide_eq_true (by kernel_rfl)) (by unfold Func.isWrapper; first | (rw [if_pos (by decide +kernel)]; kernel_rfl) | (rw [if_neg (by decide +kernel)]; exact ⟨rfl, rfl⟩))
    (fun os started H enc _ => sheetKeeps_lifted os started H enc)

set_option maxRecDepth 100000 in
/-- The statement. -/
theorem sheetKeeps_proved : Rows.SheetKeepsSaid := sheetKeeps_over
#print axioms sheetKeeps_proved
end Go.Proofs.Ytnpbnlmhmjejhaa
