/- The walks of the helpers of grant's laws. -/
import Derived.Test.YtfacimebfdeaeaaF23
namespace Go.Proofs.Ytfacimebfdeaeaa
open Pv Go.RowKit

def areaR : Rect := ⟨2, 1, 2, 3⟩
def grants3 : List Grant := [⟨areaR, 1, 2, 0, false⟩, ⟨areaR, 3, 4, 0, false⟩, ⟨areaR, 1, 4, 1, false⟩]
set_option maxRecDepth 100000 in
theorem area21 : Pure Try.prog 34 [] (.s (.v areaR.v)) := by
  refine pure_of_wt Try.func34 rfl (by decide) _ Try.ntmps34 rfl Try.results34 fun w0 => ?_
  repeat' (first
    | refine Wt.seq ?_
    | (apply Wt.regionK; exact rfl)
    | refine Wt.ret ?_
    | refine RunK.nil ?_
    | (apply RunK.alloc; exact rfl; apply Cells.eq; (first | exact Cells.agg _ | exact Cells.int _ _ | exact Cells.bool _ | exact Cells.one _ rfl); exact rfl)
    | (apply RunK.build; exact rfl; (repeat (first | exact PartsOk.nil | (apply PartsOk.cons; exact rfl))); (repeat (first | exact fill_nil | (apply fill_cons; exact rfl; (first | exact Cells.agg _ | exact Cells.int _ _ | exact Cells.bool _ | exact Cells.one _ rfl); exact rfl; (repeat (first | exact Upd.nil _ | apply Upd.cons | apply Upd.skip))))))
    | (apply RunK.store; exact rfl; exact rfl; exact rfl; exact rfl; exact rfl; exact rfl; exact rfl; apply upd_eq; exact rfl; (first | exact Cells.agg _ | exact Cells.int _ _ | exact Cells.bool _ | exact Cells.one _ rfl); (repeat (first | exact Upd.nil _ | apply Upd.cons | apply Upd.skip))))
  apply ResOk.c1; exact rfl; exact rfl; exact loadRow rfl rfl; exact rfl
set_option maxRecDepth 100000 in
theorem rules21 : Pure Try.prog 33 [] (.s (rulesR rules3)) := by
  refine pure_of_wt Try.func33 rfl (by decide) _ Try.ntmps33 rfl Try.results33 fun w0 => ?_
  repeat' (first
    | (apply RunK.callS; exact rfl; exact refSheet; (repeat (first | exact ArgsLe.nil | refine ArgsLe.cons ?_ ?_ | exact ArgLe.v _ | exact ArgLe.sl _ _ _ _ | exact ArgLe.nil _ | exact ArgLe.nil' | (apply ArgLe.bsl; exact rfl; (first | exact rfl | (rw [List.length_map]; done) | (simp only [List.length_map]; done) | (simp; done) | (simp; omega)); (first | assumption | exact map_len (fun _ => rfl))))); exact rfl) | (apply RunK.callS; exact rfl; exact area21; (repeat (first | exact ArgsLe.nil | refine ArgsLe.cons ?_ ?_ | exact ArgLe.v _ | exact ArgLe.sl _ _ _ _ | exact ArgLe.nil _ | exact ArgLe.nil' | (apply ArgLe.bsl; exact rfl; (first | exact rfl | (rw [List.length_map]; done) | (simp only [List.length_map]; done) | (simp; done) | (simp; omega)); (first | assumption | exact map_len (fun _ => rfl))))); exact rfl)
    | refine Wt.seq ?_
    | (apply Wt.regionK; exact rfl)
    | refine Wt.ret ?_
    | refine RunK.nil ?_
    | (apply RunK.assignS; exact rfl; exact rfl)
    | (apply RunK.assignN; exact rfl; exact rfl)
    | (apply RunK.build; exact rfl; (repeat (first | exact PartsOk.nil | (apply PartsOk.cons; exact rfl))); (repeat (first | exact fill_nil | (apply fill_cons; exact rfl; (first | exact Cells.agg _ | exact Cells.int _ _ | exact Cells.bool _ | exact Cells.one _ rfl); exact rfl; (repeat (first | exact Upd.nil _ | apply Upd.cons | apply Upd.skip))))))
    | (apply RunK.rows; exact rfl; (repeat (first | exact PartsOk.nil | (apply PartsOk.cons; exact rfl))); (repeat (first | exact Rows.nil _ | (apply Rows.cons; (first | exact Cells.agg _ | exact Cells.int _ _ | exact Cells.bool _ | exact Cells.one _ rfl); exact rfl))); exact rfl; exact rfl))
  apply ResOk.s1; exact rfl; exact rfl
set_option maxRecDepth 100000 in
theorem grants21 : Pure Try.prog 32 [] (.s (grantsR grants3)) := by
  refine pure_of_wt Try.func32 rfl (by decide) _ Try.ntmps32 rfl Try.results32 fun w0 => ?_
  repeat' (first
    | (apply RunK.callS; exact rfl; exact area21; (repeat (first | exact ArgsLe.nil | refine ArgsLe.cons ?_ ?_ | exact ArgLe.v _ | exact ArgLe.sl _ _ _ _ | exact ArgLe.nil _ | exact ArgLe.nil' | (apply ArgLe.bsl; exact rfl; (first | exact rfl | (rw [List.length_map]; done) | (simp only [List.length_map]; done) | (simp; done) | (simp; omega)); (first | assumption | exact map_len (fun _ => rfl))))); exact rfl)
    | refine Wt.seq ?_
    | (apply Wt.regionK; exact rfl)
    | refine Wt.ret ?_
    | refine RunK.nil ?_
    | (apply RunK.assignS; exact rfl; exact rfl)
    | (apply RunK.assignN; exact rfl; exact rfl)
    | (apply RunK.build; exact rfl; (repeat (first | exact PartsOk.nil | (apply PartsOk.cons; exact rfl))); (repeat (first | exact fill_nil | (apply fill_cons; exact rfl; (first | exact Cells.agg _ | exact Cells.int _ _ | exact Cells.bool _ | exact Cells.one _ rfl); exact rfl; (repeat (first | exact Upd.nil _ | apply Upd.cons | apply Upd.skip))))))
    | (apply RunK.rows; exact rfl; (repeat (first | exact PartsOk.nil | (apply PartsOk.cons; exact rfl))); (repeat (first | exact Rows.nil _ | (apply Rows.cons; (first | exact Cells.agg _ | exact Cells.int _ _ | exact Cells.bool _ | exact Cells.one _ rfl); exact rfl))); exact rfl; exact rfl))
  apply ResOk.s1; exact rfl; exact rfl
def pointS2 (r : Rect) (a : List Rule) : Rights := ⟨pointG Rights.read r a, pointG Rights.write r a, pointG Rights.own r a⟩
set_option maxRecDepth 100000 in
theorem overS_point2 {r : Rect} {a : List Rule} (hr : rectOk r = true) (ha : chkE a = 0) : overS r a = (pointS2 r a, 0) := by
  rw [overS_ok hr ha, overR_eq, over_point hr ha, over_point hr ha, over_point hr ha]; rfl
instance (n : Int) : Decidable (i64 n) := by unfold i64; infer_instance
set_option maxRecDepth 100000 in
theorem grants3_ok : ∀ g ∈ grants3, g.ok := by
  intro g hg
  simp only [grants3, List.mem_cons, List.not_mem_nil, or_false] at hg
  rcases hg with rfl | rfl | rfl <;> exact ⟨⟨by decide, by decide, by decide, by decide⟩, by decide, by decide, by decide⟩
set_option maxRecDepth 100000 in
theorem over_area : (overS areaR rules3).1.own = 1 := by
  rw [overS_point2 (by decide) rules3_chk]
  decide +kernel
set_option maxRecDepth 100000 in
theorem live3 : ∀ g ∈ grants3, liveB rules3 g = decide (g.by_ = 0) := by
  intro g hg
  simp only [grants3, List.mem_cons, List.not_mem_nil, or_false] at hg
  rcases hg with rfl | rfl | rfl <;> (unfold liveB; dsimp only; rw [over_area]; decide +kernel)
set_option maxRecDepth 100000 in
theorem for3 : forS 46 areaR rules3 grants3 = (6, [0, 1], 0) := by
  have hs : ∀ g ∈ grants3, selB 46 areaR rules3 g = decide (g.by_ = 0) := fun g hg => by
    have := live3 g hg
    unfold selB
    rw [this]
    simp only [grants3, List.mem_cons, List.not_mem_nil, or_false] at hg
    rcases hg with rfl | rfl | rfl <;> decide +kernel
  rw [forS_ok (by decide) (by decide) rules3_chk (by decide)]
  have h0 := hs ⟨areaR, 1, 2, 0, false⟩ (by simp [grants3])
  have h1 := hs ⟨areaR, 3, 4, 0, false⟩ (by simp [grants3])
  have h2 := hs ⟨areaR, 1, 4, 1, false⟩ (by simp [grants3])
  rw [show grants3.length = 3 from rfl, toN_no (k := 2) (l := grants3) rfl h2, toN_yes (k := 1) (l := grants3) rfl h1, toN_yes (k := 0) (l := grants3) rfl h0, byN_no (k := 2) (l := grants3) rfl h2, byN_yes (k := 1) (l := grants3) rfl h1, byN_yes (k := 0) (l := grants3) rfl h0]
  rfl
set_option maxRecDepth 100000 in
theorem example21 : Pure Try.prog 21 [] (.s (.v (.bool true))) := by
  have hf := grantFor 46 areaR rules3 grants3 (by decide) (by decide) rules3_ok grants3_ok
  rw [for3] at hf
  have he := equalInts [0, 1] [0, 1] (by decide) (by decide)
  rw [decide_eq_true rfl] at he
  dsimp only [forR] at hf
  refine pure_of_wt Try.func21 rfl (by decide) _ Try.ntmps21 rfl Try.results21 fun w0 => ?_
  repeat' (first
    | (apply RunK.callS; exact rfl; exact area21; (repeat (first | exact ArgsLe.nil | refine ArgsLe.cons ?_ ?_ | exact ArgLe.v _ | exact ArgLe.sl _ _ _ _ | exact ArgLe.nil _ | exact ArgLe.nil' | (apply ArgLe.bsl; exact rfl; (first | exact rfl | (rw [List.length_map]; done) | (simp only [List.length_map]; done) | (simp; done) | (simp; omega)); (first | assumption | exact map_len (fun _ => rfl))))); exact rfl) | (apply RunK.callS; exact rfl; exact rules21; (repeat (first | exact ArgsLe.nil | refine ArgsLe.cons ?_ ?_ | exact ArgLe.v _ | exact ArgLe.sl _ _ _ _ | exact ArgLe.nil _ | exact ArgLe.nil' | (apply ArgLe.bsl; exact rfl; (first | exact rfl | (rw [List.length_map]; done) | (simp only [List.length_map]; done) | (simp; done) | (simp; omega)); (first | assumption | exact map_len (fun _ => rfl))))); exact rfl) | (apply RunK.callS; exact rfl; exact grants21; (repeat (first | exact ArgsLe.nil | refine ArgsLe.cons ?_ ?_ | exact ArgLe.v _ | exact ArgLe.sl _ _ _ _ | exact ArgLe.nil _ | exact ArgLe.nil' | (apply ArgLe.bsl; exact rfl; (first | exact rfl | (rw [List.length_map]; done) | (simp only [List.length_map]; done) | (simp; done) | (simp; omega)); (first | assumption | exact map_len (fun _ => rfl))))); exact rfl) | (apply RunK.callT; exact rfl; exact hf; (repeat (first | exact ArgsLe.nil | refine ArgsLe.cons ?_ ?_ | exact ArgLe.v _ | exact ArgLe.sl _ _ _ _ | exact ArgLe.nil _ | exact ArgLe.nil' | (apply ArgLe.bsl; exact rfl; (first | exact rfl | (rw [List.length_map]; done) | (simp only [List.length_map]; done) | (simp; done) | (simp; omega)); (first | assumption | exact map_len (fun _ => rfl))))); exact rfl) | (apply RunK.callS; exact rfl; exact he; (repeat (first | exact ArgsLe.nil | refine ArgsLe.cons ?_ ?_ | exact ArgLe.v _ | exact ArgLe.sl _ _ _ _ | exact ArgLe.nil _ | exact ArgLe.nil' | (apply ArgLe.bsl; exact rfl; (first | exact rfl | (rw [List.length_map]; done) | (simp only [List.length_map]; done) | (simp; done) | (simp; omega)); (first | assumption | exact map_len (fun _ => rfl))))); exact rfl)
    | refine Wt.seq ?_
    | (apply Wt.regionK; exact rfl)
    | refine Wt.ret ?_
    | refine RunK.nil ?_
    | (apply RunK.moveV; exact rfl; exact rfl)
    | (apply RunK.assignV; exact rfl; exact rfl)
    | (apply RunK.moveS; exact rfl; exact rfl)
    | (apply RunK.moveT; exact rfl; exact rfl)
    | (apply RunK.assignS; exact rfl; exact rfl)
    | (apply RunK.pickT; exact rfl; exact rfl; exact rfl)
    | (apply RunK.eql; exact rfl; exact rfl; exact rfl)
    | (apply RunK.extract; exact rfl; exact rfl; exact rfl)
    | (apply RunK.rows; exact rfl; (repeat (first | exact PartsOk.nil | (apply PartsOk.cons; exact rfl))); (repeat (first | exact Rows.nil _ | (apply Rows.cons; (first | exact Cells.agg _ | exact Cells.int _ _ | exact Cells.bool _ | exact Cells.one _ rfl); exact rfl))); exact rfl; exact rfl))
  all_goals (apply ResOk.v1; exact rfl; exact rfl)
set_option maxRecDepth 100000 in
theorem good21 (a : List Rule) (l : List Grant) (ha : a.length < 1000000000000000) (hl : l.length < 1000000000000000) (hoa : ∀ x ∈ a, x.ok) (hol : ∀ x ∈ l, x.ok) : Pure Try.prog 22 [rules a, grants l] (.s (.v (.bool (decide (chkE a = 0) && (decide (chkG l = 0) && decide (a.length ≤ 20 ∧ l.length ≤ 30)))))) := by
  have hca := refCheck 64 a ha hoa
  have hcl := refGCheck 64 l hl hol
  rw [show (checkG 64 l).2 = chkG l from rfl] at hcl
  rw [show (checkS 64 a).2 = chkE a from rfl] at hca
  generalize (checkG 64 l).1 = q at *
  generalize (checkS 64 a).1 = q2 at *
  generalize chkE a = E at *
  generalize chkG l = E2 at *
  refine pure_of_wt Try.func22 rfl (by decide) _ Try.ntmps22 rfl Try.results22 fun w0 => ?_
  repeat' (first
    | (apply RunK.callT; exact rfl; exact hca; (repeat (first | exact ArgsLe.nil | refine ArgsLe.cons ?_ ?_ | exact ArgLe.v _ | exact ArgLe.sl _ _ _ _ | exact ArgLe.nil _ | exact ArgLe.nil' | (apply ArgLe.bsl; exact rfl; (first | exact rfl | (rw [List.length_map]; done) | (simp only [List.length_map]; done) | (simp; done) | (simp; omega)); (first | assumption | exact map_len (fun _ => rfl))))); exact rfl) | (apply RunK.callT; exact rfl; exact hcl; (repeat (first | exact ArgsLe.nil | refine ArgsLe.cons ?_ ?_ | exact ArgLe.v _ | exact ArgLe.sl _ _ _ _ | exact ArgLe.nil _ | exact ArgLe.nil' | (apply ArgLe.bsl; exact rfl; (first | exact rfl | (rw [List.length_map]; done) | (simp only [List.length_map]; done) | (simp; done) | (simp; omega)); (first | assumption | exact map_len (fun _ => rfl))))); exact rfl)
    | refine Wt.seq ?_
    | (apply Wt.regionK; exact rfl)
    | refine Wt.ret ?_
    | refine RunK.nil ?_
    | (apply RunK.moveV; exact rfl; exact rfl)
    | (apply RunK.assignV; exact rfl; exact rfl)
    | (apply RunK.moveS; exact rfl; exact rfl)
    | (apply RunK.moveT; exact rfl; exact rfl)
    | (apply RunK.pickT; exact rfl; exact rfl; exact rfl)
    | (apply RunK.pickF; exact rfl; exact rfl; exact rfl)
    | (apply RunK.leq; exact rfl; exact rfl; exact rfl)
    | (apply RunK.eql; exact rfl; exact rfl; exact rfl)
    | (apply RunK.len; exact rfl; exact rfl)
    | (apply RunK.extract; exact rfl; exact rfl; exact rfl)
    | (apply RunK.skip; exact rfl; exact rfl)
    | (apply RunK.guard; exact rfl; exact rfl; exact rfl; all_goals (intro hg; (first | exact absurd hg (by decide) | skip); (first | (with_reducible replace hg := not_t hg) | (with_reducible replace hg := not_f hg) | skip); (first | (with_reducible replace hg := dec_t hg) | (with_reducible replace hg := dec_f hg) | skip); (first | (with_reducible exact absurd rfl hg) | skip); (repeat rw [List.length_map] at hg); try (exfalso; omega))))
  all_goals (apply ResOk.v1; exact rfl; refine bool_v ?_; rw [Bool.eq_iff_iff]; simp [*]; try omega)
end Go.Proofs.Ytfacimebfdeaeaa
