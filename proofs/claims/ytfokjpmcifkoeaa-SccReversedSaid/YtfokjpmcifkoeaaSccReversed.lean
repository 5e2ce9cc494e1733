/- The law SccReversed returns true, whatever the input, and leaves each argument as it was. No condition. -/
import Derived.Test.YtfokjpmcifkoeaaReversed
import Derived.Test.YtfokjpmcifkoeaaRow7
import Derived.Test.YtfokjpmcifkoeaaRows
namespace Go.Proofs.Ytfokjpmcifkoeaa
open Go.ChangeShapes Go.WideShapes Go.ChangeAt Go.RowKit Go.Deep
open Go.ChangeMaps (open_string shut_string)

set_option maxRecDepth 100000 in
theorem sccReversed_lifted (os : Os) (started : os.Started) (H : Type) (enc : TypeId × Value → H) :
    ReturnsInHanded {} Try.checked os 9 .any (Rows.sccReversedSpec.pre6 enc Try.prog Try.f9 Rows.sccReversedRow.domain false) (Rows.sccReversedSpec.post enc Try.prog Try.f9 false true false false) := by
  refine returnsInHanded_of_change_sized (C := Try.checked) own started (by kernel_rfl) Try.func9
    (ChangeSpec.witness6 (enc := enc) (C := Try.checked) false ⟨#[], #[.slice none 0 0, .int .i64 0], []⟩ 8 (by kernel_rfl) (by kernel_rfl) (by kernel_rfl) (by kernel_rfl)) ?_
  intro W base args ds gs before hval0 hW _ hsz _
  have hval : ∀ (j : Nat) t v, Try.f9.params[j]? = some t → args[j]? = some v → Value.okWide Try.prog W .any base t v := hval0
  have hW' := hW
  obtain ⟨p, q, hA0, hV, rfl, hfz, hnd⟩ := hW
  have hA : DataW.TrodAll enc Try.prog W 0 (fun _ => true) true Try.f9.params.toList args.toList ds p := hA0
  rw [Try.params9] at hA hval
  obtain ⟨v0, vs0, d0, ds0, p0, q0, hargs, rfl, rfl, h0, r0⟩ := trodAll_cons hA
  obtain ⟨v1, vs1, d1, ds1, p1, q1, rfl, rfl, rfl, h1, r1⟩ := trodAll_cons r0
  obtain ⟨rfl, rfl, rfl⟩ := trodAll_nil r1
  obtain rfl : args = #[v0, v1] := by cases args; simp_all
  obtain ⟨rfl, rfl⟩ := trodVars_none hV
  have k0 := h0
  have lt0 : ∀ x ∈ p0, x.block < W.heap.size := by obtain ⟨m, hm⟩ := k0; exact DataW.trod_lt m _ _ _ hm
  obtain ⟨L0, m0, g0, hg0, rp0, hm0⟩ : ∃ (L : List Value) (m : List (Value × List (List Value))) (g : List (List Int)), RawG L m g ∧ Pv.RepS (fun _ => .ext) (fun _ => 0) W (.sl none .no 1 (hd1 L)) v0 ∧ ∀ p ∈ m, Pv.RepS (fun _ => .ext) (fun _ => 0) W (.sl none .no 1 p.2) p.1 := by
    obtain ⟨m, hm⟩ := h0
    exact open_graph Try.underlying22 Try.underlying23 (by kernel_rfl) (by kernel_rfl) (by kernel_rfl) (fun _ => rfl) (hval 0 22 v0 rfl rfl) hm
  have k1 := h1
  have lt1 : ∀ x ∈ p1, x.block < W.heap.size := by obtain ⟨m, hm⟩ := k1; exact DataW.trod_lt m _ _ _ hm
  obtain ⟨y1, rfl, rfl, rfl, wf1⟩ := open_int Try.underlying3 (hval 1 3 v1 rfl rfl) h1
  refine ((reversedG hg0 y1 (wf_bd wf1)).2.2 [v0, _] W ⟨rp0, rfl, trivial⟩ (fun p hp => by rw [List.mem_singleton.1 hp]; exact hm0)).mono fun e W' ⟨v, T', F', res, fs', hK, he, bel0, hsame, _, hv, _, _⟩ => ?_
  have bel : Below W.heap.size W W' := ⟨bel0.os, bel0.tape, bel0.output, bel0.size, fun b hb => hsame b hb List.not_mem_nil List.not_mem_nil⟩
  subst hK
  obtain rfl : v = .bool true := hv
  subst he
  exact ⟨_, rfl, _, _, _, [], _, [], hW', trodAll_mk1 (shut_bool Try.underlying4 _), (trodAll_cons_mk (Below.trod laidOut (by kernel_rfl) (of_decide_eq_true (by kernel_rfl)) k0 bel lt0) (trodAll_cons_mk (Below.trod laidOut (by kernel_rfl) (of_decide_eq_true (by kernel_rfl)) k1 bel lt1) trodAll_mk0)), rfl, bel.frame _, fun h => by cases h⟩

set_option maxRecDepth 100000 in
theorem sccReversed_over : Rows.sccReversedRow.holds Try.pinned (OpenSpec.ofChange Rows.sccReversedSpec) :=
  OpenClaim.holds_of_wide 9 Try.f9 rfl rfl rfl rfl rfl rfl rfl ⟨rfl, rfl, rfl, rfl, rfl⟩ rfl rfl rfl rfl rfl (by kernel_rfl) Try.func9 (by kernel_rfl)
    (of_decide_eq_true (by kernel_rfl)) (by unfold Func.isWrapper; first | (rw [if_pos (by decide +kernel)]; kernel_rfl) | (rw [if_neg (by decide +kernel)]; exact ⟨rfl, rfl⟩))
    (fun os started H enc _ => sccReversed_lifted os started H enc)

set_option maxRecDepth 100000 in
/-- The statement. -/
theorem sccReversed_proved : Rows.SccReversedSaid := sccReversed_over
#print axioms sccReversed_proved
end Go.Proofs.Ytfokjpmcifkoeaa
