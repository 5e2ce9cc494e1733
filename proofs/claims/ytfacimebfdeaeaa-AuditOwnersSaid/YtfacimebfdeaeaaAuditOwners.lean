/- The law AuditOwners returns true, whatever the input, and leaves each argument as it was. No condition. -/
import Derived.Test.YtfacimebfdeaeaaH8
import Derived.Test.YtfacimebfdeaeaaRow4
import Derived.Test.YtfacimebfdeaeaaRows
namespace Go.Proofs.Ytfacimebfdeaeaa
open Go.ChangeShapes Go.WideShapes Go.ChangeAt Go.RowKit Go.Deep
open Go.ChangeMaps (open_string shut_string)

set_option maxRecDepth 100000 in
theorem auditOwners_lifted (os : Os) (started : os.Started) (H : Type) (enc : TypeId × Value → H) :
    ReturnsInHanded {} Try.checked os 10 .any (Rows.auditOwnersSpec.pre6 enc Try.prog Try.f10 Rows.auditOwnersRow.domain false) (Rows.auditOwnersSpec.post enc Try.prog Try.f10 false true false false) := by
  refine returnsInHanded_of_change_sized (C := Try.checked) own started (by kernel_rfl) Try.func10
    (ChangeSpec.witness6 (enc := enc) (C := Try.checked) false ⟨#[], #[.agg #[.int .u8 0, .int .i64 0, .int .i64 0, .int .i64 0, .int .i64 0, .int .i64 0, .string ⟨#[]⟩, .int .u64 0, .int .u64 0, .int .u64 0, .int .u8 0, .int .u64 0, .int .i64 0], .bool false, .slice none 0 0, .slice none 0 0, .string ⟨#[]⟩], []⟩ 8 (by kernel_rfl) (by kernel_rfl) (by kernel_rfl) (by kernel_rfl)) ?_
  intro W base args ds gs before hval0 hW _ hsz _
  have hval : ∀ (j : Nat) t v, Try.f10.params[j]? = some t → args[j]? = some v → Value.okWide Try.prog W .any base t v := hval0
  have hW' := hW
  obtain ⟨p, q, hA0, hV, rfl, hfz, hnd⟩ := hW
  have hA : DataW.TrodAll enc Try.prog W 0 (fun _ => true) true Try.f10.params.toList args.toList ds p := hA0
  rw [Try.params10] at hA hval
  obtain ⟨v0, vs0, d0, ds0, p0, q0, hargs, rfl, rfl, h0, r0⟩ := trodAll_cons hA
  obtain ⟨v1, vs1, d1, ds1, p1, q1, rfl, rfl, rfl, h1, r1⟩ := trodAll_cons r0
  obtain ⟨v2, vs2, d2, ds2, p2, q2, rfl, rfl, rfl, h2, r2⟩ := trodAll_cons r1
  obtain ⟨v3, vs3, d3, ds3, p3, q3, rfl, rfl, rfl, h3, r3⟩ := trodAll_cons r2
  obtain ⟨v4, vs4, d4, ds4, p4, q4, rfl, rfl, rfl, h4, r4⟩ := trodAll_cons r3
  obtain ⟨rfl, rfl, rfl⟩ := trodAll_nil r4
  obtain rfl : args = #[v0, v1, v2, v3, v4] := by cases args; simp_all
  obtain ⟨rfl, rfl⟩ := trodVars_none hV
  have k0 := h0
  have lt0 : ∀ x ∈ p0, x.block < W.heap.size := by obtain ⟨m, hm⟩ := k0; exact DataW.trod_lt m _ _ _ hm
  obtain ⟨y0, rfl, ok0⟩ : ∃ y : Opn, v0 = .agg (Opn.vals y).toArray ∧ y.ok := by obtain ⟨m, hm⟩ := h0; exact open_struct Opn.vals _ Try.underlying66 (f := 5) (by kernel_rfl) conv_op (hval 0 66 v0 rfl rfl) hm
  have k1 := h1
  have lt1 : ∀ x ∈ p1, x.block < W.heap.size := by obtain ⟨m, hm⟩ := k1; exact DataW.trod_lt m _ _ _ hm
  obtain ⟨y1, rfl, rfl, rfl⟩ := open_bool Try.underlying4 (hval 1 4 v1 rfl rfl) h1
  have k2 := h2
  have lt2 : ∀ x ∈ p2, x.block < W.heap.size := by obtain ⟨m, hm⟩ := k2; exact DataW.trod_lt m _ _ _ hm
  obtain ⟨cap2, l2, hlc2, ok2, rp2, dd2⟩ : ∃ (cap : Nat) (l : List Rule), l.length ≤ cap ∧ (∀ y ∈ l, Rule.ok y) ∧ Pv.RepS (fun _ => .ext) (fun _ => 0) W (.sl none .no 7 (l.map Rule.vals)) v2 ∧ (d2 = .nil ∧ cap = 0 ∨ ∃ el sp, d2 = .slice el sp ∧ el.length + sp.length = cap) := by
    obtain ⟨m, hm⟩ := h2
    exact open_arg Rule.vals 7 Rule.ok (fun _ => rfl) Try.underlying34 (by kernel_rfl) (f := 5) (by kernel_rfl) conv_rule (fun _ => rfl) (by decide) (hval 2 34 v2 rfl rfl) hm
  have hb2 : l2.length * 56 ≤ 140737488351232 := by
    rcases dd2 with ⟨_, h0⟩ | ⟨el, sp, hd, hes⟩
    · have : l2.length = 0 := by omega
      rw [this]; decide
    · have hz := sized_slice hsz (j := 2) (elems := el) (spare := sp) rfl (by simp [hd]) Try.underlying34
      rw [hes, show Try.checked.prog.bytesOf 63 = 56 by kernel_rfl] at hz
      exact Nat.le_trans (Nat.mul_le_mul_right _ hlc2) hz
  have k3 := h3
  have lt3 : ∀ x ∈ p3, x.block < W.heap.size := by obtain ⟨m, hm⟩ := k3; exact DataW.trod_lt m _ _ _ hm
  obtain ⟨cap3, l3, hlc3, ok3, rp3, dd3⟩ : ∃ (cap : Nat) (l : List Grant), l.length ≤ cap ∧ (∀ y ∈ l, Grant.ok y) ∧ Pv.RepS (fun _ => .ext) (fun _ => 0) W (.sl none .no 8 (l.map Grant.vals)) v3 ∧ (d3 = .nil ∧ cap = 0 ∨ ∃ el sp, d3 = .slice el sp ∧ el.length + sp.length = cap) := by
    obtain ⟨m, hm⟩ := h3
    exact open_arg Grant.vals 8 Grant.ok (fun _ => rfl) Try.underlying22 (by kernel_rfl) (f := 5) (by kernel_rfl) conv_grant (fun _ => rfl) (by decide) (hval 3 22 v3 rfl rfl) hm
  have hb3 : l3.length * 64 ≤ 140737488351232 := by
    rcases dd3 with ⟨_, h0⟩ | ⟨el, sp, hd, hes⟩
    · have : l3.length = 0 := by omega
      rw [this]; decide
    · have hz := sized_slice hsz (j := 3) (elems := el) (spare := sp) rfl (by simp [hd]) Try.underlying22
      rw [hes, show Try.checked.prog.bytesOf 48 = 64 by kernel_rfl] at hz
      exact Nat.le_trans (Nat.mul_le_mul_right _ hlc3) hz
  have k4 := h4
  have lt4 : ∀ x ∈ p4, x.block < W.heap.size := by obtain ⟨m, hm⟩ := k4; exact DataW.trod_lt m _ _ _ hm
  obtain ⟨y4, rfl, rfl, rfl, bd4⟩ := open_string Try.underlying9 (hval 4 9 v4 rfl rfl) h4
  refine ((lawOwners y0 ok0 y1 l2 hb2 ok2 l3 hb3 ok3 y4).2 [_, _, v2, v3, _] W ⟨rfl, rfl, rp2, rp3, rfl, trivial⟩).mono fun e W' ⟨v, T', F', he, bel, _, hv⟩ => ?_
  obtain rfl : v = .bool true := hv
  subst he
  exact ⟨_, rfl, _, _, _, [], _, [], hW', trodAll_mk1 (shut_bool Try.underlying4 _), (trodAll_cons_mk (Below.trod laidOut (by kernel_rfl) (of_decide_eq_true (by kernel_rfl)) k0 bel lt0) (trodAll_cons_mk (Below.trod laidOut (by kernel_rfl) (of_decide_eq_true (by kernel_rfl)) k1 bel lt1) (trodAll_cons_mk (Below.trod laidOut (by kernel_rfl) (of_decide_eq_true (by kernel_rfl)) k2 bel lt2) (trodAll_cons_mk (Below.trod laidOut (by kernel_rfl) (of_decide_eq_true (by kernel_rfl)) k3 bel lt3) (trodAll_cons_mk (Below.trod laidOut (by kernel_rfl) (of_decide_eq_true (by kernel_rfl)) k4 bel lt4) trodAll_mk0))))), rfl, bel.frame _, fun h => by cases h⟩

set_option maxRecDepth 100000 in
theorem auditOwners_over : Rows.auditOwnersRow.holds Try.pinned (OpenSpec.ofChange Rows.auditOwnersSpec) :=
  OpenClaim.holds_of_wide 10 Try.f10 rfl rfl rfl rfl rfl rfl rfl ⟨rfl, rfl, rfl, rfl, rfl⟩ rfl rfl rfl rfl rfl (by kernel_rfl) Try.func10 (by kernel_rfl)
    (of_decide_eq_true (by kernel_rfl)) (by unfold Func.isWrapper; first | (rw [if_pos (by decide +kernel)]; kernel_rfl) | (rw [if_neg (by decide +kernel)]; exact ⟨rfl, rfl⟩))
    (fun os started H enc _ => auditOwners_lifted os started H enc)

set_option maxRecDepth 100000 in
/-- The statement. -/
theorem auditOwners_proved : Rows.AuditOwnersSaid := auditOwners_over
#print axioms auditOwners_proved
end Go.Proofs.Ytfacimebfdeaeaa
