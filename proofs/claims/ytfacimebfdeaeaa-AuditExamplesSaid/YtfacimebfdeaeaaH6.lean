/- The walks of the helpers of audit's laws: the entry of the examples. -/
import Derived.Test.YtfacimebfdeaeaaH5
import Derived.Test.YtfacimebfdeaeaaPvG
namespace Go.Proofs.Ytfacimebfdeaeaa
open Pv Go.RowKit
def pointS3 (r : Rect) (a : List Rule) : Rights := ⟨pointG Rights.read r a, pointG Rights.write r a, pointG Rights.own r a⟩
set_option maxRecDepth 100000 in
theorem overS_point3 {r : Rect} {a : List Rule} (hr : rectOk r = true) (ha : chkE a = 0) : overS r a = (pointS3 r a, 0) := by
  rw [overS_ok hr ha, overR_eq, over_point hr ha, over_point hr ha, over_point hr ha]; rfl
instance (n : Int) : Decidable (i64 n) := by unfold i64; infer_instance
set_option maxRecDepth 100000 in
theorem eqlEvent {x y : Operand} (a b : Event) : BinRun Try.prog .eql 68 x y a.v b.v (.bool (decide (a = b))) := by
  refine eqRun (by kernel_rfl) fun w => ?_
  rcases a with ⟨s1, u1, k1, ⟨a1, b1, c1, d1⟩, e1, t1⟩; rcases b with ⟨s2, u2, k2, ⟨a2, b2, c2, d2⟩, e2, t2⟩
  simp only [Event.vals]
  go_simp
  rcases Decidable.em (s1 = s2) with rfl | h; rotate_left; · (simp [h]; try omega)
  rcases Decidable.em (u1 = u2) with rfl | h; rotate_left; · (simp [h]; try omega)
  rcases Decidable.em (k1 = k2) with rfl | h; rotate_left; · (simp [h]; try omega)
  rcases Decidable.em (a1 = a2) with rfl | h; rotate_left; · (simp [h]; try omega)
  rcases Decidable.em (b1 = b2) with rfl | h; rotate_left; · (simp [h]; try omega)
  rcases Decidable.em (c1 = c2) with rfl | h; rotate_left; · (simp [h]; try omega)
  rcases Decidable.em (d1 = d2) with rfl | h; rotate_left; · (simp [h]; try omega)
  rcases Decidable.em (e1 = e2) with rfl | h; rotate_left; · (simp [h]; try omega)
  rcases Decidable.em (t1 = t2) with rfl | h; rotate_left; · (simp [h]; try omega)
  simp
def set30 : Opn := { zeroO 3 1 ⟨2, 1, 2, 1⟩ with input := ⟨#[53]⟩ }
set_option maxRecDepth 100000 in
theorem set30_walk : Pure Try.prog 52 [] (.s (.v set30.v)) := by
  refine pure_of_wt Try.func52 rfl (by decide) _ Try.ntmps52 rfl Try.results52 fun w0 => ?_
  repeat' (first
    | refine Wt.seq ?_
    | (apply Wt.regionK; exact rfl)
    | refine Wt.ret ?_
    | refine RunK.nil ?_
    | (apply RunK.alloc; exact rfl; apply Cells.eq; (first | exact Cells.agg _ | exact Cells.int _ _ | exact Cells.bool _ | exact Cells.one _ rfl); exact rfl)
    | (apply RunK.build; exact rfl; (repeat (first | exact PartsOk.nil | (apply PartsOk.cons; exact rfl))); (repeat (first | exact fill_nil | (apply fill_cons; exact rfl; (first | exact Cells.agg _ | exact Cells.int _ _ | exact Cells.bool _ | exact Cells.one _ rfl); exact rfl; (repeat (first | exact Upd.nil _ | apply Upd.cons | apply Upd.skip))))))
    | (apply RunK.store; exact rfl; exact rfl; exact rfl; exact rfl; exact rfl; exact rfl; exact rfl; apply upd_eq; exact rfl; (first | exact Cells.agg _ | exact Cells.int _ _ | exact Cells.bool _ | exact Cells.one _ rfl); (repeat (first | exact Upd.nil _ | apply Upd.cons | apply Upd.skip))))
  apply ResOk.c1; exact rfl; exact rfl; exact loadRow rfl rfl; exact rfl
set_option maxRecDepth 100000 in
theorem rules30 : Pure Try.prog 53 [] (.s (rulesR rules3)) := by
  refine pure_of_wt Try.func53 rfl (by decide) _ Try.ntmps53 rfl Try.results53 fun w0 => ?_
  repeat' (first
    | (apply RunK.callS; exact rfl; exact refSheet; (repeat (first | exact ArgsLe.nil | refine ArgsLe.cons ?_ ?_ | exact ArgLe.v _ | exact ArgLe.sl _ _ _ _ | exact ArgLe.nil _ | exact ArgLe.nil' | (apply ArgLe.bsl; exact rfl; (first | exact rfl | (rw [List.length_map]; done) | (simp only [List.length_map]; done) | (simp; done) | (simp; omega)); (first | assumption | exact map_len (fun _ => rfl))))); exact rfl)
    | refine Wt.seq ?_
    | (apply Wt.regionK; exact rfl)
    | refine Wt.ret ?_
    | refine RunK.nil ?_
    | (apply RunK.assignS; exact rfl; exact rfl)
    | (apply RunK.assignN; exact rfl; exact rfl)
    | (apply RunK.build; exact rfl; (repeat (first | exact PartsOk.nil | (apply PartsOk.cons; exact rfl))); (repeat (first | exact fill_nil | (apply fill_cons; exact rfl; (first | exact Cells.agg _ | exact Cells.int _ _ | exact Cells.bool _ | exact Cells.one _ rfl); exact rfl; (repeat (first | exact Upd.nil _ | apply Upd.cons | apply Upd.skip))))))
    | (apply RunK.rows; exact rfl; (repeat (first | exact PartsOk.nil | (apply PartsOk.cons; exact rfl))); (repeat (first | exact Rows.nil _ | (apply Rows.cons; (first | exact Cells.agg _ | exact Cells.int _ _ | exact Cells.bool _ | exact Cells.one _ rfl); exact rfl))); exact rfl; exact rfl))
  apply ResOk.s1; exact rfl; exact rfl
def ev30 : Event := ⟨4, 1, 3, ⟨2, 1, 2, 1⟩, false, 3⟩
set_option maxRecDepth 100000 in
theorem ev30_eq : evE 4 set30 false rules3 set30.rect = ev30 := by
  unfold evE
  rw [overS_point3 (by decide) rules3_chk]
  decide +kernel
set_option maxRecDepth 100000 in
theorem awake30 : Pure Try.prog 37 [] (.s (.v (.bool true))) := by
  have G : goodX 4 set30 := ⟨by decide, by decide, by decide, by decide⟩
  have L : goodL rules3 [] := ⟨by decide, by decide, rules3_ok, fun _ h => absurd h List.not_mem_nil⟩
  have he := ev_ok0 4 set30 false rules3 [] (by decide) G L rules3_chk (by decide) (by decide) (by decide)
  rw [ev30_eq] at he
  have hb := eqlEvent (x := .tmp 12) (y := .tmp 15) ev30 ev30
  rw [decide_eq_true rfl] at hb
  refine pure_of_wt Try.func37 rfl (by decide) _ Try.ntmps37 rfl Try.results37 fun w0 => ?_
  repeat' (first
    | (apply RunK.callS; exact rfl; exact set30_walk; (repeat (first | exact ArgsLe.nil | refine ArgsLe.cons ?_ ?_ | exact ArgLe.v _ | exact ArgLe.sl _ _ _ _ | exact ArgLe.nil _ | exact ArgLe.nil' | (apply ArgLe.bsl; exact rfl; (first | exact rfl | (rw [List.length_map]; done) | (simp only [List.length_map]; done) | (simp; done) | (simp; omega)); (first | assumption | exact map_len (fun _ => rfl))))); exact rfl) | (apply RunK.callS; exact rfl; exact rules30; (repeat (first | exact ArgsLe.nil | refine ArgsLe.cons ?_ ?_ | exact ArgLe.v _ | exact ArgLe.sl _ _ _ _ | exact ArgLe.nil _ | exact ArgLe.nil' | (apply ArgLe.bsl; exact rfl; (first | exact rfl | (rw [List.length_map]; done) | (simp only [List.length_map]; done) | (simp; done) | (simp; omega)); (first | assumption | exact map_len (fun _ => rfl))))); exact rfl) | (apply RunK.callT; exact rfl; exact he; (repeat (first | exact ArgsLe.nil | refine ArgsLe.cons ?_ ?_ | exact ArgLe.v _ | exact ArgLe.sl _ _ _ _ | exact ArgLe.nil _ | exact ArgLe.nil' | (apply ArgLe.bsl; exact rfl; (first | exact rfl | (rw [List.length_map]; done) | (simp only [List.length_map]; done) | (simp; done) | (simp; omega)); (first | assumption | exact map_len (fun _ => rfl))))); exact rfl) | (apply RunK.fieldR Try.underlying66 33 2 rfl set30.rect.vals; exact rfl; exact rfl; exact rfl) | (apply RunK.bin; exact rfl; exact rfl; exact rfl; exact hb)
    | refine Wt.seq ?_
    | (apply Wt.regionK; exact rfl)
    | (apply Wt.regionD; kernel_rfl; kernel_rfl; exact rfl; exact rfl)
    | refine Wt.ret ?_
    | refine RunK.nil ?_
    | (apply RunK.moveV; exact rfl; exact rfl)
    | (apply RunK.assignV; exact rfl; exact rfl)
    | (apply RunK.alloc; exact rfl; apply Cells.eq; (first | exact Cells.agg _ | exact Cells.int _ _ | exact Cells.bool _ | exact Cells.one _ rfl); exact rfl)
    | (apply RunK.moveT; exact rfl; exact rfl)
    | (apply RunK.loadR; exact rfl; exact rfl; exact rfl; exact rfl; (apply cut_eq; repeat (first | exact Cut.nil _ | apply Cut.cons | apply Cut.skip)))
    | (apply RunK.pickT; exact rfl; exact rfl; exact rfl)
    | (apply RunK.eql; exact rfl; exact rfl; exact rfl)
    | (apply RunK.extract; exact rfl; exact rfl; exact rfl)
    | (apply RunK.build; exact rfl; (repeat (first | exact PartsOk.nil | (apply PartsOk.cons; exact rfl))); (repeat (first | exact fill_nil | (apply fill_cons; exact rfl; (first | exact Cells.agg _ | exact Cells.int _ _ | exact Cells.bool _ | exact Cells.one _ rfl); exact rfl; (repeat (first | exact Upd.nil _ | apply Upd.cons | apply Upd.skip))))))
    | (apply RunK.store; exact rfl; exact rfl; exact rfl; exact rfl; exact rfl; exact rfl; exact rfl; apply upd_eq; exact rfl; (first | exact Cells.agg _ | exact Cells.int _ _ | exact Cells.bool _ | exact Cells.one _ rfl); (repeat (first | exact Upd.nil _ | apply Upd.cons | apply Upd.skip))))
  all_goals (apply ResOk.v1; exact rfl; exact rfl)
end Go.Proofs.Ytfacimebfdeaeaa
