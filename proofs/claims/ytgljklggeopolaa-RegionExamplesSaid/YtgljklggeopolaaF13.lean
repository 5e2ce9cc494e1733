/- The walks of the helpers of region's laws, and of RegionSplits. -/
import Derived.Test.YtgljklggeopolaaOverMath
import Derived.Test.YtgljklggeopolaaPvC
namespace Go.Proofs.Ytgljklggeopolaa
open Pv Go.RowKit

theorem rules20 : Pure Try.prog 24 [] (.s (rulesR rules3)) := by
  refine pure_of_wt Try.func24 rfl (by decide) _ Try.ntmps24 rfl Try.results24 fun w0 => ?_
  repeat' (first
    | (apply RunK.callS; exact rfl; exact refSheet; (repeat (first | exact ArgsLe.nil | refine ArgsLe.cons ?_ ?_ | exact ArgLe.v _ | exact ArgLe.sl _ _ _ _ | exact ArgLe.nil _ | exact ArgLe.nil' | (apply ArgLe.bsl; exact rfl; (first | exact rfl | (rw [List.length_map]; done) | (simp only [List.length_map]; done) | (simp; done) | (simp; omega)); (first | assumption | exact map_len (fun _ => rfl))))); exact rfl)
    | refine Wt.seq ?_
    | (apply Wt.regionK; exact rfl)
    | refine Wt.ret ?_
    | refine RunK.nil ?_
    | (apply RunK.assignS; exact rfl; exact rfl)
    | (apply RunK.assignN; exact rfl; exact rfl)
    | (apply RunK.build; exact rfl; (repeat (first | exact PartsOk.nil | (apply PartsOk.cons; exact rfl))); (repeat (first | exact fill_nil | (apply fill_cons; exact rfl; (first | exact Cells.agg _ | exact Cells.int _ _ | exact Cells.bool _ | exact Cells.one _ rfl); exact rfl; (repeat (first | exact Upd.nil _ | apply Upd.cons | apply Upd.skip))))))
    | (apply RunK.rows; exact rfl; (repeat (first | exact PartsOk.nil | (apply PartsOk.cons; exact rfl))); (repeat (first | exact Rows.nil _ | (apply Rows.cons; (first | exact Cells.agg _ | exact Cells.int _ _ | exact Cells.bool _ | exact Cells.one _ rfl); exact rfl))); exact rfl; exact rfl))
  apply ResOk.s1; exact rfl; exact rfl
set_option maxRecDepth 100000 in
theorem example20 : Pure Try.prog 12 [] (.s (.v (.bool true))) := by
  have ho := regOver ⟨1, 1, 2, 1⟩ rules3 (by decide) rules3_ok
  rw [example_over] at ho
  have hbin : BinRun Try.prog .eql 28 (.tmp 12) (.tmp 13) (Rights.v ⟨1, 1, 1⟩) (Rights.v ⟨1, 1, 1⟩) (.bool true) := eqlRights _ _
  refine pure_of_wt Try.func12 rfl (by decide) _ Try.ntmps12 rfl Try.results12 fun w0 => ?_
  repeat' (first
    | (apply RunK.callS; exact rfl; exact rules20; (repeat (first | exact ArgsLe.nil | refine ArgsLe.cons ?_ ?_ | exact ArgLe.v _ | exact ArgLe.sl _ _ _ _ | exact ArgLe.nil _ | exact ArgLe.nil' | (apply ArgLe.bsl; exact rfl; (first | exact rfl | (rw [List.length_map]; done) | (simp only [List.length_map]; done) | (simp; done) | (simp; omega)); (first | assumption | exact map_len (fun _ => rfl))))); exact rfl) | (apply RunK.callT; exact rfl; exact ho; (repeat (first | exact ArgsLe.nil | refine ArgsLe.cons ?_ ?_ | exact ArgLe.v _ | exact ArgLe.sl _ _ _ _ | exact ArgLe.nil _ | exact ArgLe.nil' | (apply ArgLe.bsl; exact rfl; (first | exact rfl | (rw [List.length_map]; done) | (simp only [List.length_map]; done) | (simp; done) | (simp; omega)); (first | assumption | exact map_len (fun _ => rfl))))); exact rfl) | (apply RunK.bin; exact rfl; exact rfl; exact rfl; exact hbin)
    | refine Wt.seq ?_
    | (apply Wt.regionK; exact rfl)
    | refine Wt.ret ?_
    | refine RunK.nil ?_
    | (apply RunK.moveV; exact rfl; exact rfl)
    | (apply RunK.assignV; exact rfl; exact rfl)
    | (apply RunK.alloc; exact rfl; apply Cells.eq; (first | exact Cells.agg _ | exact Cells.int _ _ | exact Cells.bool _ | exact Cells.one _ rfl); exact rfl)
    | (apply RunK.moveT; exact rfl; exact rfl)
    | (apply RunK.loadR; exact rfl; exact rfl; exact rfl; exact rfl; (apply cut_eq; repeat (first | exact Cut.nil _ | apply Cut.cons | apply Cut.skip)))
    | (apply RunK.pickT; exact rfl; exact rfl; exact rfl)
    | (apply RunK.eql; exact rfl; exact rfl; exact rfl)
    | (apply RunK.extract; exact rfl; exact rfl; exact rfl)
    | (apply RunK.build; exact rfl; (repeat (first | exact PartsOk.nil | (apply PartsOk.cons; exact rfl))); (repeat (first | exact fill_nil | (apply fill_cons; exact rfl; (first | exact Cells.agg _ | exact Cells.int _ _ | exact Cells.bool _ | exact Cells.one _ rfl); exact rfl; (repeat (first | exact Upd.nil _ | apply Upd.cons | apply Upd.skip))))))
    | (apply RunK.store; exact rfl; exact rfl; exact rfl; exact rfl; exact rfl; exact rfl; exact rfl; apply upd_eq; exact rfl; (first | exact Cells.agg _ | exact Cells.int _ _ | exact Cells.bool _ | exact Cells.one _ rfl); (repeat (first | exact Upd.nil _ | apply Upd.cons | apply Upd.skip))))
  apply ResOk.v1; exact rfl; exact rfl
def validL (r : Rect) (l : List Rule) : Bool := decide (l.length ≤ 40) && (decide (chkE l = 0) && rectOk r)
theorem valid20 (r : Rect) (l : List Rule) (hL : l.length < 1000000000000000) (hok : ∀ x ∈ l, x.ok) : Pure Try.prog 10 [.v r.v, rules l] (.s (.v (.bool (validL r l)))) := by
  have hc := refCheck 64 l hL hok
  rw [show (checkS 64 l).2 = chkE l from rfl] at hc
  have hr := range r
  refine pure_of_wt Try.func10 rfl (by decide) _ Try.ntmps10 rfl Try.results10 fun w0 => ?_
  repeat' (first
    | (apply RunK.callT; exact rfl; exact hc; (repeat (first | exact ArgsLe.nil | refine ArgsLe.cons ?_ ?_ | exact ArgLe.v _ | exact ArgLe.sl _ _ _ _ | exact ArgLe.nil _ | exact ArgLe.nil' | (apply ArgLe.bsl; exact rfl; (first | exact rfl | (rw [List.length_map]; done) | (simp only [List.length_map]; done) | (simp; done) | (simp; omega)); (first | assumption | exact map_len (fun _ => rfl))))); exact rfl) | (apply RunK.callS; exact rfl; exact hr; (repeat (first | exact ArgsLe.nil | refine ArgsLe.cons ?_ ?_ | exact ArgLe.v _ | exact ArgLe.sl _ _ _ _ | exact ArgLe.nil _ | exact ArgLe.nil' | (apply ArgLe.bsl; exact rfl; (first | exact rfl | (rw [List.length_map]; done) | (simp only [List.length_map]; done) | (simp; done) | (simp; omega)); (first | assumption | exact map_len (fun _ => rfl))))); exact rfl)
    | refine Wt.seq ?_
    | (apply Wt.regionK; exact rfl)
    | refine Wt.ret ?_
    | refine RunK.nil ?_
    | (apply RunK.moveV; exact rfl; exact rfl)
    | (apply RunK.assignV; exact rfl; exact rfl)
    | (apply RunK.box; exact rfl; exact rfl; apply Cells.eq; (first | exact Cells.agg _ | exact Cells.int _ _ | exact Cells.bool _ | exact Cells.one _ rfl); exact rfl)
    | (apply RunK.moveS; exact rfl; exact rfl)
    | (apply RunK.moveT; exact rfl; exact rfl)
    | (apply RunK.loadR; exact rfl; exact rfl; exact rfl; exact rfl; (apply cut_eq; repeat (first | exact Cut.nil _ | apply Cut.cons | apply Cut.skip)))
    | (apply RunK.pickT; exact rfl; exact rfl; exact rfl)
    | (apply RunK.pickF; exact rfl; exact rfl; exact rfl)
    | (apply RunK.leq; exact rfl; exact rfl; exact rfl)
    | (apply RunK.eql; exact rfl; exact rfl; exact rfl)
    | (apply RunK.len; exact rfl; exact rfl)
    | (apply RunK.extract; exact rfl; exact rfl; exact rfl)
    | (apply RunK.skip; exact rfl; exact rfl)
    | (apply RunK.guard; exact rfl; exact rfl; exact rfl; all_goals (intro hg; (first | exact absurd hg (by decide) | skip); (first | (with_reducible replace hg := not_t hg) | (with_reducible replace hg := not_f hg) | skip); (first | (with_reducible replace hg := dec_t hg) | (with_reducible replace hg := dec_f hg) | skip); (first | (with_reducible exact absurd rfl hg) | skip); (repeat rw [List.length_map] at hg); try (exfalso; omega))))
  all_goals (apply ResOk.v1; exact rfl; refine bool_v ?_; unfold validL; first | (rw [decide_eq_true (show l.length ≤ 40 by omega)]; simp [*]) | (rw [decide_eq_false (show ¬l.length ≤ 40 by omega)]; rfl))
theorem valid_iff {r : Rect} {l : List Rule} : validL r l = true ↔ l.length ≤ 40 ∧ chkE l = 0 ∧ rectOk r = true := by simp [validL]
theorem overS_ok {r : Rect} {l : List Rule} (hr : rectOk r = true) (hl : chkE l = 0) : overS r l = (overR r l, 0) := by
  unfold overS; rw [if_pos (regE_iff.2 ⟨hr, hl⟩)]

theorem andRun {t : TypeId} {x y : Operand} {a b : Nat} (ha : a < 18446744073709551616) (hb : b < 18446744073709551616) : BinRun Try.prog .and t x y (.int .u64 (a : Int)) (.int .u64 (b : Int)) (.int .u64 ((a &&& b : Nat) : Int)) := runBits (.inl rfl) (andU64 ha hb)
end Go.Proofs.Ytgljklggeopolaa
