/- The law RegionDiffers returns true, whatever the input, and leaves each argument as it was. No condition. -/
import Derived.Test.YtgljklggeopolaaDiffersLaw
import Derived.Test.YtgljklggeopolaaRow2
import Derived.Test.YtgljklggeopolaaRows
namespace Go.Proofs.Ytgljklggeopolaa
open Go.ChangeShapes Go.WideShapes Go.ChangeAt Go.RowKit Go.Deep
open Go.ChangeMaps (open_string shut_string)

set_option maxRecDepth 100000 in
theorem regionDiffers_lifted (os : Os) (started : os.Started) (H : Type) (enc : TypeId × Value → H) :
    ReturnsInHanded {} Try.checked os 7 .any (Rows.regionDiffersSpec.pre6 enc Try.prog Try.f7 Rows.regionDiffersRow.domain false) (Rows.regionDiffersSpec.post enc Try.prog Try.f7 false true false false) := by
  refine returnsInHanded_of_change_sized (C := Try.checked) own started (by kernel_rfl) Try.func7
    (ChangeSpec.witness6 (enc := enc) (C := Try.checked) false ⟨#[], #[.agg #[.int .i64 0, .int .i64 0, .int .i64 0, .int .i64 0], .slice none 0 0, .slice none 0 0], []⟩ 8 (by kernel_rfl) (by kernel_rfl) (by kernel_rfl) (by kernel_rfl)) ?_
  intro W base args ds gs before hval0 hW _ hsz _
  have hval : ∀ (j : Nat) t v, Try.f7.params[j]? = some t → args[j]? = some v → Value.okWide Try.prog W .any base t v := hval0
  have hW' := hW
  obtain ⟨p, q, hA0, hV, rfl, hfz, hnd⟩ := hW
  have hA : DataW.TrodAll enc Try.prog W 0 (fun _ => true) true Try.f7.params.toList args.toList ds p := hA0
  rw [Try.params7] at hA hval
  obtain ⟨v0, vs0, d0, ds0, p0, q0, hargs, rfl, rfl, h0, r0⟩ := trodAll_cons hA
  obtain ⟨v1, vs1, d1, ds1, p1, q1, rfl, rfl, rfl, h1, r1⟩ := trodAll_cons r0
  obtain ⟨v2, vs2, d2, ds2, p2, q2, rfl, rfl, rfl, h2, r2⟩ := trodAll_cons r1
  obtain ⟨rfl, rfl, rfl⟩ := trodAll_nil r2
  obtain rfl : args = #[v0, v1, v2] := by cases args; simp_all
  obtain ⟨rfl, rfl⟩ := trodVars_none hV
  have k0 := h0
  have lt0 : ∀ x ∈ p0, x.block < W.heap.size := by obtain ⟨m, hm⟩ := k0; exact DataW.trod_lt m _ _ _ hm
  obtain ⟨y0, rfl, ok0⟩ : ∃ y : Rect, v0 = .agg (Rect.vals y).toArray ∧ y.ok := by obtain ⟨m, hm⟩ := h0; exact open_struct Rect.vals _ Try.underlying23 (f := 5) (by kernel_rfl) conv_rect (hval 0 23 v0 rfl rfl) hm
  have k1 := h1
  have lt1 : ∀ x ∈ p1, x.block < W.heap.size := by obtain ⟨m, hm⟩ := k1; exact DataW.trod_lt m _ _ _ hm
  obtain ⟨cap1, l1, hlc1, ok1, rp1, dd1⟩ : ∃ (cap : Nat) (l : List Rule), l.length ≤ cap ∧ (∀ y ∈ l, Rule.ok y) ∧ Pv.RepS (fun _ => .ext) (fun _ => 0) W (.sl none .no 7 (l.map Rule.vals)) v1 ∧ (d1 = .nil ∧ cap = 0 ∨ ∃ el sp, d1 = .slice el sp ∧ el.length + sp.length = cap) := by
    obtain ⟨m, hm⟩ := h1
    exact open_arg Rule.vals 7 Rule.ok (fun _ => rfl) Try.underlying24 (by kernel_rfl) (f := 5) (by kernel_rfl) conv_rule (fun _ => rfl) (by decide) (hval 1 24 v1 rfl rfl) hm
  have hb1 : l1.length * 56 ≤ 140737488351232 := by
    rcases dd1 with ⟨_, h0⟩ | ⟨el, sp, hd, hes⟩
    · have : l1.length = 0 := by omega
      rw [this]; decide
    · have hz := sized_slice hsz (j := 1) (elems := el) (spare := sp) rfl (by simp [hd]) Try.underlying24
      rw [hes, show Try.checked.prog.bytesOf 35 = 56 by kernel_rfl] at hz
      exact Nat.le_trans (Nat.mul_le_mul_right _ hlc1) hz
  have k2 := h2
  have lt2 : ∀ x ∈ p2, x.block < W.heap.size := by obtain ⟨m, hm⟩ := k2; exact DataW.trod_lt m _ _ _ hm
  obtain ⟨cap2, l2, hlc2, ok2, rp2, dd2⟩ : ∃ (cap : Nat) (l : List Rule), l.length ≤ cap ∧ (∀ y ∈ l, Rule.ok y) ∧ Pv.RepS (fun _ => .ext) (fun _ => 0) W (.sl none .no 7 (l.map Rule.vals)) v2 ∧ (d2 = .nil ∧ cap = 0 ∨ ∃ el sp, d2 = .slice el sp ∧ el.length + sp.length = cap) := by
    obtain ⟨m, hm⟩ := h2
    exact open_arg Rule.vals 7 Rule.ok (fun _ => rfl) Try.underlying24 (by kernel_rfl) (f := 5) (by kernel_rfl) conv_rule (fun _ => rfl) (by decide) (hval 2 24 v2 rfl rfl) hm
  have hb2 : l2.length * 56 ≤ 140737488351232 := by
    rcases dd2 with ⟨_, h0⟩ | ⟨el, sp, hd, hes⟩
    · have : l2.length = 0 := by omega
      rw [this]; decide
    · have hz := sized_slice hsz (j := 2) (elems := el) (spare := sp) rfl (by simp [hd]) Try.underlying24
      rw [hes, show Try.checked.prog.bytesOf 35 = 56 by kernel_rfl] at hz
      exact Nat.le_trans (Nat.mul_le_mul_right _ hlc2) hz
  refine ((lawDiffers y0 ok0 l1 hb1 ok1 l2 hb2 ok2).2 [_, v1, v2] W ⟨rfl, rp1, rp2, trivial⟩).mono fun e W' ⟨v, T', F', he, bel, _, hv⟩ => ?_
  obtain rfl : v = .bool true := hv
  subst he
  exact ⟨_, rfl, _, _, _, [], _, [], hW', trodAll_mk1 (shut_bool Try.underlying4 _), (trodAll_cons_mk (Below.trod laidOut (by kernel_rfl) (of_decide_eq_true (by kernel_rfl)) k0 bel lt0) (trodAll_cons_mk (Below.trod laidOut (by kernel_rfl) (of_decide_eq_true (by kernel_rfl)) k1 bel lt1) (trodAll_cons_mk (Below.trod laidOut (by kernel_rfl) (of_decide_eq_true (by kernel_rfl)) k2 bel lt2) trodAll_mk0))), rfl, bel.frame _, fun h => by cases h⟩

theorem regionDiffers_over : Rows.regionDiffersRow.holds Try.pinned (OpenSpec.ofChange Rows.regionDiffersSpec) :=
  OpenClaim.holds_of_wide 7 Try.f7 rfl rfl rfl rfl rfl rfl rfl ⟨rfl, rfl, rfl, rfl, rfl⟩ rfl rfl rfl rfl rfl (by kernel_rfl) Try.func7 (by kernel_rfl)
    (of_decide_eq_true (by kernel_rfl)) (by unfold Func.isWrapper; first | (rw [if_pos (by decide +kernel)]; kernel_rfl) | (rw [if_neg (by decide +kernel)]; exact ⟨rfl, rfl⟩))
    (fun os started H enc _ => regionDiffers_lifted os started H enc)

/-- The statement. -/
theorem regionDiffers_proved : Rows.RegionDiffersSaid := regionDiffers_over
#print axioms regionDiffers_proved
end Go.Proofs.Ytgljklggeopolaa
