/- The law AclLast returns true, whatever the input, and leaves each argument as it was. No condition. -/
import Derived.Test.YtonangdimkgdpaaLastLaw
import Derived.Test.YtonangdimkgdpaaRow
namespace Go.Proofs.Ytonangdimkgdpaa
open Go.ChangeShapes Go.WideShapes Go.ChangeAt Go.RowKit Go.Deep
open Go.ChangeMaps (open_string shut_string)

set_option maxRecDepth 100000 in
theorem aclLast_lifted (os : Os) (started : os.Started) (H : Type) (enc : TypeId × Value → H) :
    ReturnsInHanded {} Try.checked os 5 .any (Rows.aclLastSpec.pre6 enc Try.prog Try.f5 Rows.aclLastRow.domain false) (Rows.aclLastSpec.post enc Try.prog Try.f5 false true false false) := by
  refine returnsInHanded_of_change_sized (C := Try.checked) own started (by kernel_rfl) Try.func5
    (ChangeSpec.witness6 (enc := enc) (C := Try.checked) false ⟨#[], #[.agg #[.int .u64 0, .int .u64 0, .int .u64 0], .slice none 0 0, .agg #[.int .i64 0, .int .i64 0, .int .i64 0, .int .i64 0, .int .u64 0, .int .u64 0, .int .u64 0], .agg #[.int .i64 0, .int .i64 0]], []⟩ 8 (by kernel_rfl) (by kernel_rfl) (by kernel_rfl) (by kernel_rfl)) ?_
  intro W base args ds gs before hval0 hW _ hsz _
  have hval : ∀ (j : Nat) t v, Try.f5.params[j]? = some t → args[j]? = some v → Value.okWide Try.prog W .any base t v := hval0
  have hW' := hW
  obtain ⟨p, q, hA0, hV, rfl, hfz, hnd⟩ := hW
  have hA : DataW.TrodAll enc Try.prog W 0 (fun _ => true) true Try.f5.params.toList args.toList ds p := hA0
  rw [Try.params5] at hA hval
  obtain ⟨v0, vs0, d0, ds0, p0, q0, hargs, rfl, rfl, h0, r0⟩ := trodAll_cons hA
  obtain ⟨v1, vs1, d1, ds1, p1, q1, rfl, rfl, rfl, h1, r1⟩ := trodAll_cons r0
  obtain ⟨v2, vs2, d2, ds2, p2, q2, rfl, rfl, rfl, h2, r2⟩ := trodAll_cons r1
  obtain ⟨v3, vs3, d3, ds3, p3, q3, rfl, rfl, rfl, h3, r3⟩ := trodAll_cons r2
  obtain ⟨rfl, rfl, rfl⟩ := trodAll_nil r3
  obtain rfl : args = #[v0, v1, v2, v3] := by cases args; simp_all
  obtain ⟨rfl, rfl⟩ := trodVars_none hV
  have k0 := h0
  have lt0 : ∀ x ∈ p0, x.block < W.heap.size := by obtain ⟨m, hm⟩ := k0; exact DataW.trod_lt m _ _ _ hm
  obtain ⟨y0, rfl, ok0⟩ : ∃ y : Rights, v0 = .agg (Rights.vals y).toArray ∧ y.ok := by obtain ⟨m, hm⟩ := h0; exact open_struct Rights.vals _ Try.underlying24 (f := 5) (by kernel_rfl) conv_rights (hval 0 24 v0 rfl rfl) hm
  have k1 := h1
  have lt1 : ∀ x ∈ p1, x.block < W.heap.size := by obtain ⟨m, hm⟩ := k1; exact DataW.trod_lt m _ _ _ hm
  obtain ⟨A1, cap1, l1, rfl, hlc1, _, sl1, ok1, dd1⟩ : ∃ A cap l, v1 = .slice A (List.length l) cap ∧ l.length ≤ cap ∧ cap ≤ maxLen ∧ SlAt Rule.vals 7 W A l ∧ (∀ y ∈ l, Rule.ok y) ∧ (d1 = .nil ∧ cap = 0 ∨ ∃ el sp, d1 = .slice el sp ∧ el.length + sp.length = cap) := by
    obtain ⟨m, hm⟩ := h1
    exact open_list Rule.vals 7 Rule.ok Try.underlying25 (by kernel_rfl) (f := 5) (by kernel_rfl) conv_rule (fun _ => rfl) (by decide) (okWide_slice Try.underlying25 (hval 1 25 v1 rfl rfl)) hm
  have hb1 : l1.length * 56 ≤ 140737488351232 := by
    rcases dd1 with ⟨_, h0⟩ | ⟨el, sp, hd, hes⟩
    · have : l1.length = 0 := by omega
      rw [this]; decide
    · have hz := sized_slice hsz (j := 1) (elems := el) (spare := sp) rfl (by simp [hd]) Try.underlying25
      rw [hes, show Try.checked.prog.bytesOf 38 = 56 by kernel_rfl] at hz
      exact Nat.le_trans (Nat.mul_le_mul_right _ hlc1) hz
  have k2 := h2
  have lt2 : ∀ x ∈ p2, x.block < W.heap.size := by obtain ⟨m, hm⟩ := k2; exact DataW.trod_lt m _ _ _ hm
  obtain ⟨y2, rfl, ok2⟩ : ∃ y : Rule, v2 = .agg (Rule.vals y).toArray ∧ y.ok := by obtain ⟨m, hm⟩ := h2; exact open_struct Rule.vals _ Try.underlying38 (f := 5) (by kernel_rfl) conv_rule (hval 2 38 v2 rfl rfl) hm
  have k3 := h3
  have lt3 : ∀ x ∈ p3, x.block < W.heap.size := by obtain ⟨m, hm⟩ := k3; exact DataW.trod_lt m _ _ _ hm
  obtain ⟨y3, rfl, ok3⟩ : ∃ y : Ref, v3 = .agg (Ref.vals y).toArray ∧ y.ok := by obtain ⟨m, hm⟩ := h3; exact open_struct Ref.vals _ Try.underlying27 (f := 5) (by kernel_rfl) conv_ref (hval 3 27 v3 rfl rfl) hm
  refine (lawLast_any y0 ok0 A1 cap1 l1 hb1 ok1 y2 ok2 y3 ok3 W sl1).mono fun e W' ⟨he, bel⟩ => ?_
  subst he
  exact ⟨_, rfl, _, _, _, [], _, [], hW', trodAll_mk1 (shut_bool Try.underlying4 _), (trodAll_cons_mk (Below.trod laidOut (by kernel_rfl) (of_decide_eq_true (by kernel_rfl)) k0 bel lt0) (trodAll_cons_mk (Below.trod laidOut (by kernel_rfl) (of_decide_eq_true (by kernel_rfl)) k1 bel lt1) (trodAll_cons_mk (Below.trod laidOut (by kernel_rfl) (of_decide_eq_true (by kernel_rfl)) k2 bel lt2) (trodAll_cons_mk (Below.trod laidOut (by kernel_rfl) (of_decide_eq_true (by kernel_rfl)) k3 bel lt3) trodAll_mk0)))), rfl, bel.frame _, fun h => by cases h⟩

theorem aclLast_over : Rows.aclLastRow.holds Try.pinned (OpenSpec.ofChange Rows.aclLastSpec) :=
  OpenClaim.holds_of_wide 5 Try.f5 rfl rfl rfl rfl rfl rfl rfl ⟨rfl, rfl, rfl, rfl, rfl⟩ rfl rfl rfl rfl rfl (by kernel_rfl) Try.func5 (by kernel_rfl)
    (of_decide_eq_true (by kernel_rfl)) (by unfold Func.isWrapper; first | (rw [if_pos (by decide +kernel)]; kernel_rfl) | (rw [if_neg (by decide +kernel)]; exact ⟨rfl, rfl⟩))
    (fun os started H enc _ => aclLast_lifted os started H enc)

/-- The statement. -/
theorem aclLast_proved : Rows.AclLastSaid := aclLast_over
#print axioms aclLast_proved
end Go.Proofs.Ytonangdimkgdpaa
