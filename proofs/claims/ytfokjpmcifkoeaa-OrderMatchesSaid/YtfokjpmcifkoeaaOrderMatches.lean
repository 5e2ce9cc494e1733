/- The law OrderMatches returns true, whatever the input, and leaves each argument as it was. No condition. -/
import Derived.Test.YtfokjpmcifkoeaaOT
import Derived.Test.YtfokjpmcifkoeaaRow7
import Derived.Test.YtfokjpmcifkoeaaRows
namespace Go.Proofs.Ytfokjpmcifkoeaa
open Go.ChangeShapes Go.WideShapes Go.ChangeAt Go.RowKit Go.Deep
open Go.ChangeMaps (open_string shut_string)

set_option maxRecDepth 100000 in
theorem orderMatches_lifted (os : Os) (started : os.Started) (H : Type) (enc : TypeId × Value → H) :
    ReturnsInHanded {} Try.checked os 11 .any (Rows.orderMatchesSpec.pre6 enc Try.prog Try.f11 Rows.orderMatchesRow.domain false) (Rows.orderMatchesSpec.post enc Try.prog Try.f11 false true false false) := by
  refine returnsInHanded_of_change_sized (C := Try.checked) own started (by kernel_rfl) Try.func11
    (ChangeSpec.witness6 (enc := enc) (C := Try.checked) false ⟨#[], #[.slice none 0 0, .slice none 0 0, .slice none 0 0], []⟩ 8 (by kernel_rfl) (by kernel_rfl) (by kernel_rfl) (by kernel_rfl)) ?_
  intro W base args ds gs before hval0 hW _ hsz _
  have hval : ∀ (j : Nat) t v, Try.f11.params[j]? = some t → args[j]? = some v → Value.okWide Try.prog W .any base t v := hval0
  have hW' := hW
  obtain ⟨p, q, hA0, hV, rfl, hfz, hnd⟩ := hW
  have hA : DataW.TrodAll enc Try.prog W 0 (fun _ => true) true Try.f11.params.toList args.toList ds p := hA0
  rw [Try.params11] at hA hval
  obtain ⟨v0, vs0, d0, ds0, p0, q0, hargs, rfl, rfl, h0, r0⟩ := trodAll_cons hA
  obtain ⟨v1, vs1, d1, ds1, p1, q1, rfl, rfl, rfl, h1, r1⟩ := trodAll_cons r0
  obtain ⟨v2, vs2, d2, ds2, p2, q2, rfl, rfl, rfl, h2, r2⟩ := trodAll_cons r1
  obtain ⟨rfl, rfl, rfl⟩ := trodAll_nil r2
  obtain rfl : args = #[v0, v1, v2] := by cases args; simp_all
  obtain ⟨rfl, rfl⟩ := trodVars_none hV
  have k0 := h0
  have lt0 : ∀ x ∈ p0, x.block < W.heap.size := by obtain ⟨m, hm⟩ := k0; exact DataW.trod_lt m _ _ _ hm
  obtain ⟨L0, m0, g0, hg0, rp0, hm0⟩ : ∃ (L : List Value) (m : List (Value × List (List Value))) (g : List (List Int)), RawG L m g ∧ Pv.RepS (fun _ => .ext) (fun _ => 0) W (.sl none .no 1 (hd1 L)) v0 ∧ ∀ p ∈ m, Pv.RepS (fun _ => .ext) (fun _ => 0) W (.sl none .no 1 p.2) p.1 := by
    obtain ⟨m, hm⟩ := h0
    exact open_graph Try.underlying22 Try.underlying23 (by kernel_rfl) (by kernel_rfl) (by kernel_rfl) (fun _ => rfl) (hval 0 22 v0 rfl rfl) hm
  have k1 := h1
  have lt1 : ∀ x ∈ p1, x.block < W.heap.size := by obtain ⟨m, hm⟩ := k1; exact DataW.trod_lt m _ _ _ hm
  obtain ⟨cap1, l1, hlc1, ok1, rp1, dd1⟩ : ∃ (cap : Nat) (l : List Int), l.length ≤ cap ∧ (∀ y ∈ l, i64 y) ∧ Pv.RepS (fun _ => .ext) (fun _ => 0) W (.sl none .no 1 (l.map ival)) v1 ∧ (d1 = .nil ∧ cap = 0 ∨ ∃ el sp, d1 = .slice el sp ∧ el.length + sp.length = cap) := by
    obtain ⟨m, hm⟩ := h1
    exact open_arg ival 1 i64 (fun _ => rfl) Try.underlying23 (by kernel_rfl) (f := 5) (by kernel_rfl) conv_int (fun _ => rfl) (by decide) (hval 1 23 v1 rfl rfl) hm
  have hb1 : l1.length * 8 ≤ 140737488351232 := by
    rcases dd1 with ⟨_, h0⟩ | ⟨el, sp, hd, hes⟩
    · have : l1.length = 0 := by omega
      rw [this]; decide
    · have hz := sized_slice hsz (j := 1) (elems := el) (spare := sp) rfl (by simp [hd]) Try.underlying23
      rw [hes, show Try.checked.prog.bytesOf 3 = 8 by kernel_rfl] at hz
      exact Nat.le_trans (Nat.mul_le_mul_right _ hlc1) hz
  have k2 := h2
  have lt2 : ∀ x ∈ p2, x.block < W.heap.size := by obtain ⟨m, hm⟩ := k2; exact DataW.trod_lt m _ _ _ hm
  obtain ⟨cap2, l2, hlc2, ok2, rp2, dd2⟩ : ∃ (cap : Nat) (l : List Int), l.length ≤ cap ∧ (∀ y ∈ l, i64 y) ∧ Pv.RepS (fun _ => .ext) (fun _ => 0) W (.sl none .no 1 (l.map ival)) v2 ∧ (d2 = .nil ∧ cap = 0 ∨ ∃ el sp, d2 = .slice el sp ∧ el.length + sp.length = cap) := by
    obtain ⟨m, hm⟩ := h2
    exact open_arg ival 1 i64 (fun _ => rfl) Try.underlying23 (by kernel_rfl) (f := 5) (by kernel_rfl) conv_int (fun _ => rfl) (by decide) (hval 2 23 v2 rfl rfl) hm
  have hb2 : l2.length * 8 ≤ 140737488351232 := by
    rcases dd2 with ⟨_, h0⟩ | ⟨el, sp, hd, hes⟩
    · have : l2.length = 0 := by omega
      rw [this]; decide
    · have hz := sized_slice hsz (j := 2) (elems := el) (spare := sp) rfl (by simp [hd]) Try.underlying23
      rw [hes, show Try.checked.prog.bytesOf 3 = 8 by kernel_rfl] at hz
      exact Nat.le_trans (Nat.mul_le_mul_right _ hlc2) hz
  refine ((matchRow hg0 l1 hb1 ok1 l2 hb2 ok2).2.2 [v0, v1, v2] W ⟨rp0, rp1, rp2, trivial⟩ (fun p hp => by rw [List.mem_singleton.1 hp]; exact hm0)).mono fun e W' ⟨v, T', F', res, fs', hK, he, bel0, hsame, _, hv, _, _⟩ => ?_
  have bel : Below W.heap.size W W' := ⟨bel0.os, bel0.tape, bel0.output, bel0.size, fun b hb => hsame b hb List.not_mem_nil List.not_mem_nil⟩
  subst hK
  obtain rfl : v = .bool true := hv
  subst he
  exact ⟨_, rfl, _, _, _, [], _, [], hW', trodAll_mk1 (shut_bool Try.underlying4 _), (trodAll_cons_mk (Below.trod laidOut (by kernel_rfl) (of_decide_eq_true (by kernel_rfl)) k0 bel lt0) (trodAll_cons_mk (Below.trod laidOut (by kernel_rfl) (of_decide_eq_true (by kernel_rfl)) k1 bel lt1) (trodAll_cons_mk (Below.trod laidOut (by kernel_rfl) (of_decide_eq_true (by kernel_rfl)) k2 bel lt2) trodAll_mk0))), rfl, bel.frame _, fun h => by cases h⟩

set_option maxRecDepth 100000 in
theorem orderMatches_over : Rows.orderMatchesRow.holds Try.pinned (OpenSpec.ofChange Rows.orderMatchesSpec) :=
  OpenClaim.holds_of_wide 11 Try.f11 rfl rfl rfl rfl rfl rfl rfl ⟨rfl, rfl, rfl, rfl, rfl⟩ rfl rfl rfl rfl rfl (by kernel_rfl) Try.func11 (by kernel_rfl)
    (of_decide_eq_true (by kernel_rfl)) (by unfold Func.isWrapper; first | (rw [if_pos (by decide +kernel)]; kernel_rfl) | (rw [if_neg (by decide +kernel)]; exact ⟨rfl, rfl⟩))
    (fun os started H enc _ => orderMatches_lifted os started H enc)

set_option maxRecDepth 100000 in
/-- The statement. -/
theorem orderMatches_proved : Rows.OrderMatchesSaid := orderMatches_over
#print axioms orderMatches_proved
end Go.Proofs.Ytfokjpmcifkoeaa
