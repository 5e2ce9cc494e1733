/- The law SheetSame returns true, whatever the input, and leaves each argument as it was. No condition. -/
import Derived.Test.YtnpbnlmhmjejhaaSSame
import Derived.Test.YtnpbnlmhmjejhaaRow6
import Derived.Test.YtnpbnlmhmjejhaaRows
namespace Go.Proofs.Ytnpbnlmhmjejhaa
open Go.ChangeShapes Go.WideShapes Go.ChangeAt Go.RowKit Go.Deep
open Go.ChangeMaps (open_string shut_string)

set_option maxRecDepth 100000 in
theorem sheetSame_lifted (os : Os) (started : os.Started) (H : Type) (enc : TypeId × Value → H) :
    ReturnsInHanded {} Try.checked os 7 .any (Rows.sheetSameSpec.pre6 enc Try.prog Try.f7 Rows.sheetSameRow.domain false) (Rows.sheetSameSpec.post enc Try.prog Try.f7 false true false false) := by
  refine returnsInHanded_of_change_sized (C := Try.checked) own started (by kernel_rfl) Try.func7
    (ChangeSpec.witness6 (enc := enc) (C := Try.checked) false ⟨#[], #[.slice none 0 0, .agg #[.int .i64 0, .int .i64 0, .int .i64 0], .agg #[.int .i64 0, .int .i64 0, .int .i64 0]], []⟩ 8 (by kernel_rfl) (by kernel_rfl) (by kernel_rfl) (by kernel_rfl)) ?_
  intro W base args ds gs before hval0 hW _ hsz _
  have hval : ∀ (j : Nat) t v, Try.f7.params[j]? = some t → args[j]? = some v → Value.okWide Try.prog W .any base t v := hval0
  have hW' := hW
  obtain ⟨p, q, hA0, hV, rfl, hfz, hnd⟩ := hW
  have hA : DataW.TrodAll enc Try.prog W 0 (fun _ => true) true Try.f7.params.toList args.toList ds p := hA0
  rw [Try.params7] at hA hval
  obtain ⟨v0, vs0, d0, ds0, p0, q0, hargs, rfl, rfl, h0, r0⟩ := trodAll_cons hA
  obtain ⟨v1, vs1, d1, ds1, p1, q1, rfl, rfl, rfl, h1, r1⟩ := trodAll_cons r0
  obtain ⟨v2, vs2, d2, ds2, p2, q2, rfl, rfl, rfl, h2, r2⟩ := trodAll_cons r1
  obtain ⟨rfl, rfl, rfl⟩ := trodAll_nil r2
  obtain rfl : args = #[v0, v1, v2] := by cases args; simp_all
  obtain ⟨rfl, rfl⟩ := trodVars_none hV
  have k0 := h0
  have lt0 : ∀ x ∈ p0, x.block < W.heap.size := by obtain ⟨m, hm⟩ := k0; exact DataW.trod_lt m _ _ _ hm
  obtain ⟨cap0, l0, hlc0, ok0, rp0, dd0⟩ : ∃ (cap : Nat) (l : List Put), l.length ≤ cap ∧ (∀ y ∈ l, Put.ok y) ∧ Pv.RepS (fun _ => .ext) (fun _ => 0) W (.sl none .no 3 (l.map Put.vals)) v0 ∧ (d0 = .nil ∧ cap = 0 ∨ ∃ el sp, d0 = .slice el sp ∧ el.length + sp.length = cap) := by
    obtain ⟨m, hm⟩ := h0
    exact open_arg Put.vals 3 Put.ok (fun _ => rfl) Try.underlying41 (by kernel_rfl) (f := 5) (by kernel_rfl) conv_put (fun _ => rfl) (by decide) (hval 0 41 v0 rfl rfl) hm
  have hb0 : l0.length * 24 ≤ 140737488351232 := by
    rcases dd0 with ⟨_, h0⟩ | ⟨el, sp, hd, hes⟩
    · have : l0.length = 0 := by omega
      rw [this]; decide
    · have hz := sized_slice hsz (j := 0) (elems := el) (spare := sp) rfl (by simp [hd]) Try.underlying41
      rw [hes, show Try.checked.prog.bytesOf 44 = 24 by kernel_rfl] at hz
      exact Nat.le_trans (Nat.mul_le_mul_right _ hlc0) hz
  have k1 := h1
  have lt1 : ∀ x ∈ p1, x.block < W.heap.size := by obtain ⟨m, hm⟩ := k1; exact DataW.trod_lt m _ _ _ hm
  obtain ⟨y1, rfl, ok1⟩ : ∃ y : Put, v1 = .agg (Put.vals y).toArray ∧ y.ok := by obtain ⟨m, hm⟩ := h1; exact open_struct Put.vals _ Try.underlying44 (f := 5) (by kernel_rfl) conv_put (hval 1 44 v1 rfl rfl) hm
  have k2 := h2
  have lt2 : ∀ x ∈ p2, x.block < W.heap.size := by obtain ⟨m, hm⟩ := k2; exact DataW.trod_lt m _ _ _ hm
  obtain ⟨y2, rfl, ok2⟩ : ∃ y : Put, v2 = .agg (Put.vals y).toArray ∧ y.ok := by obtain ⟨m, hm⟩ := h2; exact open_struct Put.vals _ Try.underlying44 (f := 5) (by kernel_rfl) conv_put (hval 2 44 v2 rfl rfl) hm
  refine ((lawSSame l0 hb0 ok0 y1 ok1 y2 ok2).2 [v0, _, _] W ⟨rp0, rfl, rfl, trivial⟩).mono fun e W' ⟨v, T', F', he, bel, _, hv⟩ => ?_
  obtain rfl : v = .bool true := hv
  subst he
  exact ⟨_, rfl, _, _, _, [], _, [], hW', trodAll_mk1 (shut_bool Try.underlying4 _), (trodAll_cons_mk (Below.trod laidOut (by kernel_rfl) (of_decide_eq_true (by kernel_rfl)) k0 bel lt0) (trodAll_cons_mk (Below.trod laidOut (by kernel_rfl) (of_decide_eq_true (by kernel_rfl)) k1 bel lt1) (trodAll_cons_mk (Below.trod laidOut (by kernel_rfl) (of_decide_eq_true (by kernel_rfl)) k2 bel lt2) trodAll_mk0))), rfl, bel.frame _, fun h => by cases h⟩

set_option maxRecDepth 100000 in
theorem sheetSame_over : Rows.sheetSameRow.holds Try.pinned (OpenSpec.ofChange Rows.sheetSameSpec) :=
  OpenClaim.holds_of_wide 7 Try.f7 rfl rfl rfl rfl rfl rfl rfl ⟨rfl, rfl, rfl, rfl, rfl⟩ rfl rfl rfl rfl rfl (by kernel_rfl) Try.func7 (by kernel_rfl)
    (of_decide_eq_true (by kernel_rfl)) (by unfold Func.isWrapper; first | (rw [if_pos (by decide +kernel)]; kernel_rfl) | (rw [if_neg (by decide +kernel)]; exact ⟨rfl, rfl⟩))
    (fun os started H enc _ => sheetSame_lifted os started H enc)

set_option maxRecDepth 100000 in
/-- The statement. -/
theorem sheetSame_proved : Rows.SheetSameSaid := sheetSame_over
#print axioms sheetSame_proved
end Go.Proofs.Ytnpbnlmhmjejhaa
