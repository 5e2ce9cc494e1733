/- The walk of For: a loop over a function. -/
import Derived.Test.YtfacimebfdeaeaaF21
import Derived.Test.YtfacimebfdeaeaaPvB
import Derived.Test.YtfacimebfdeaeaaPvE
namespace Go.Proofs.Ytfacimebfdeaeaa
namespace Pv
open Go Go.RowKit
section
variable {P : Program} {s : St}
set_option maxRecDepth 100000 in
theorem ResOk.cHv {t1 t2 t3 id1 off1 ty1 id2 off2 ty2 h τ k : Nat} {app : App} {a b : List (List Value)} {cs1 cs2 : List Value} {u1 v1 u2 u3 v3 : Value} (h1 : s.ev (.tmp t1) = .box id1 off1) (hb1 : s.box id1 = some cs1) (hl1 : LoadV P ty1 cs1 off1 u1) (e1 : u1 = v1) (h2 : s.ev (.tmp t2) = .box id2 off2) (hb2 : s.box id2 = some cs2) (hl2 : LoadV P ty2 cs2 off2 u2) (hf : s.ev (.tmp h) = .hd u2 (.sl (some τ) app k a)) (e2 : a = b) (h3 : s.ev (.tmp t3) = .s (.v u3)) (e3 : u3 = v3) :
    ResOk P s [.cell t1 ty1, .cell t2 ty2, .tmp t3] (.tup [.v v1, .sl (some 0) app k b, .v v3]) :=
  e1 ▸ e2 ▸ e3 ▸ .three (.cell h1 hb1 hl1) (.refl _) (.cellH h2 hb2 hl2 hf) (.refl _) (.tmp h3) (.refl _)
end
end Pv
open Pv Go.RowKit

set_option maxRecDepth 100000 in
theorem grantFor_rel (fn : Nat) (r : Rect) (a : List Rule) (l : List Grant) (h1 : relB fn = false) : Pure Try.prog 25 [.v (.int .u8 fn), .v r.v, rules a, grants l] (forR (forS fn r a l)) := by
    rw [forS_rel h1]
    have h1' : ¬(46 ≤ fn ∧ fn ≤ 50) := of_decide_eq_false h1
    refine pure_of_wt Try.func25 rfl (by decide) _ Try.ntmps25 rfl Try.results25 fun w0 => ?_
    refine Wt.factN 2000030 1 (.front 3) 1 rfl ?_
    repeat' (first
    | (apply RunK.storeN; exact rfl; exact rfl; exact rfl; exact rfl; exact rfl; exact rfl)
    | refine Wt.seq ?_
    | (apply Wt.regionK; exact rfl)
    | refine Wt.ret ?_
    | refine RunK.nil ?_
    | (apply RunK.moveV; exact rfl; exact rfl)
    | (apply RunK.assignV; exact rfl; exact rfl)
    | (apply RunK.box; exact rfl; exact rfl; apply Cells.eq; (first | exact Cells.agg _ | exact Cells.int _ _ | exact Cells.bool _ | exact Cells.one _ rfl); exact rfl)
    | (apply RunK.alloc; exact rfl; apply Cells.eq; (first | exact Cells.agg _ | exact Cells.int _ _ | exact Cells.bool _ | exact Cells.one _ rfl); exact rfl)
    | (apply RunK.pickT; exact rfl; exact rfl; exact rfl)
    | (apply RunK.pickF; exact rfl; exact rfl; exact rfl)
    | (apply RunK.lss; exact rfl; exact rfl; exact rfl)
    | (apply RunK.gtr; exact rfl; exact rfl; exact rfl)
    | (apply RunK.store; exact rfl; exact rfl; exact rfl; exact rfl; exact rfl; exact rfl; exact rfl; apply upd_eq; exact rfl; (first | exact Cells.agg _ | exact Cells.int _ _ | exact Cells.bool _ | exact Cells.one _ rfl); (repeat (first | exact Upd.nil _ | apply Upd.cons | apply Upd.skip)))
    | (apply RunK.skip; exact rfl; exact rfl)
    | (apply RunK.guard; exact rfl; exact rfl; exact rfl; all_goals (intro hg; (first | exact absurd hg (by decide) | skip); (first | (with_reducible replace hg := not_t hg) | (with_reducible replace hg := not_f hg) | skip); (first | (with_reducible replace hg := dec_t hg) | (with_reducible replace hg := dec_f hg) | skip); (first | (with_reducible exact absurd rfl hg) | skip); (repeat rw [List.length_map] at hg); try (exfalso; omega)))
    | (apply Wt.cond; exact rfl; all_goals (intro hg; (first | exact absurd hg (by decide) | skip); (first | (with_reducible replace hg := not_t hg) | (with_reducible replace hg := not_f hg) | skip); (first | (with_reducible replace hg := dec_t hg) | (with_reducible replace hg := dec_f hg) | skip); (first | (with_reducible exact absurd rfl hg) | skip); (repeat rw [List.length_map] at hg); try (exfalso; omega))))
    all_goals (apply ResOk.cHv (h := 2000030); exact rfl; exact rfl; exact .one inferInstance rfl; exact rfl; exact rfl; exact rfl; exact .one inferInstance rfl; exact rfl; exact rfl; exact rfl; exact rfl)
set_option maxRecDepth 100000 in
theorem rel_iff {fn : Nat} (h : relB fn = true) : 46 ≤ fn ∧ fn ≤ 50 := of_decide_eq_true h
set_option maxRecDepth 100000 in
theorem grantFor_rect (fn : Nat) (r : Rect) (a : List Rule) (l : List Grant) (h1 : relB fn = true) (h2 : rectOk r = false) : Pure Try.prog 25 [.v (.int .u8 fn), .v r.v, rules a, grants l] (forR (forS fn r a l)) := by
    have h1' := rel_iff h1
    have hr := rectCheck r
    rw [show chk r = 3 from by unfold chk; rw [h2]; rfl] at hr
    rw [forS_rect h1 h2]
    refine pure_of_wt Try.func25 rfl (by decide) _ Try.ntmps25 rfl Try.results25 fun w0 => ?_
    refine Wt.factN 2000030 1 (.front 3) 1 rfl ?_
    repeat' (first
    | (apply RunK.callS; exact rfl; exact rfl; exact hr; (repeat (first | exact ArgsLe.nil | refine ArgsLe.cons ?_ ?_ | exact ArgLe.v _ | exact ArgLe.sl _ _ _ _ | exact ArgLe.nil _ | exact ArgLe.nil' | exact ArgLe.nsl _ _ _ _ _ | exact ArgLe.nsn _ | (apply ArgLe.bsl; exact rfl; (first | exact rfl | (rw [List.length_map]; done) | (simp only [List.length_map]; done) | (simp; done) | (simp; omega)); (first | assumption | exact map_len (fun _ => rfl))))); exact rfl) | (apply RunK.storeN; exact rfl; exact rfl; exact rfl; exact rfl; exact rfl; exact rfl)
    | refine Wt.seq ?_
    | (apply Wt.regionK; exact rfl)
    | refine Wt.ret ?_
    | refine Wt.skip ?_
    | refine RunK.nil ?_
    | (apply RunK.moveV; exact rfl; exact rfl)
    | (apply RunK.assignV; exact rfl; exact rfl)
    | (apply RunK.box; exact rfl; exact rfl; apply Cells.eq; (first | exact Cells.agg _ | exact Cells.int _ _ | exact Cells.bool _ | exact Cells.one _ rfl); exact rfl)
    | (apply RunK.alloc; exact rfl; apply Cells.eq; (first | exact Cells.agg _ | exact Cells.int _ _ | exact Cells.bool _ | exact Cells.one _ rfl); exact rfl)
    | (apply RunK.loadR; exact rfl; exact rfl; exact rfl; exact rfl; (apply cut_eq; repeat (first | exact Cut.nil _ | apply Cut.cons | apply Cut.skip)))
    | (apply RunK.pickF; exact rfl; exact rfl; exact rfl)
    | (apply RunK.lss; exact rfl; exact rfl; exact rfl)
    | (apply RunK.gtr; exact rfl; exact rfl; exact rfl)
    | (apply RunK.neq; exact rfl; exact rfl; exact rfl)
    | (apply RunK.store; exact rfl; exact rfl; exact rfl; exact rfl; exact rfl; exact rfl; exact rfl; apply upd_eq; exact rfl; (first | exact Cells.agg _ | exact Cells.int _ _ | exact Cells.bool _ | exact Cells.one _ rfl); (repeat (first | exact Upd.nil _ | apply Upd.cons | apply Upd.skip)))
    | (apply RunK.guard; exact rfl; exact rfl; exact rfl; all_goals (intro hg; (first | exact absurd hg (by decide) | skip); (first | (with_reducible replace hg := not_t hg) | (with_reducible replace hg := not_f hg) | skip); (first | (with_reducible replace hg := dec_t hg) | (with_reducible replace hg := dec_f hg) | skip); (first | (with_reducible exact absurd rfl hg) | skip); (repeat rw [List.length_map] at hg); try (exfalso; omega)))
    | (apply Wt.cond; exact rfl; all_goals (intro hg; (first | exact absurd hg (by decide) | skip); (first | (with_reducible replace hg := not_t hg) | (with_reducible replace hg := not_f hg) | skip); (first | (with_reducible replace hg := dec_t hg) | (with_reducible replace hg := dec_f hg) | skip); (first | (with_reducible exact absurd rfl hg) | skip); (repeat rw [List.length_map] at hg); try (exfalso; omega))))
    all_goals (apply ResOk.cHv (h := 2000030); exact rfl; exact rfl; exact .one inferInstance rfl; exact rfl; exact rfl; exact rfl; exact .one inferInstance rfl; exact rfl; exact rfl; exact rfl; exact rfl)
set_option maxRecDepth 100000 in
theorem grantFor_rules (fn : Nat) (r : Rect) (a : List Rule) (l : List Grant) (ha : a.length < 1000000000000000) (hoa : ∀ x ∈ a, x.ok) (h1 : relB fn = true) (h2 : rectOk r = true) (h3 : ¬chkE a = 0) : Pure Try.prog 25 [.v (.int .u8 fn), .v r.v, rules a, grants l] (forR (forS fn r a l)) := by
    have h1' := rel_iff h1
    have hr := rectCheck r
    have hca := aclCheck 64 a ha hoa
    rw [show (checkS 64 a).2 = chkE a from rfl] at hca
    rw [show chk r = 0 from by unfold chk; rw [h2]; rfl] at hr
    rw [forS_rules h1 h2 h3]
    generalize (checkS 64 a).1 = q2 at *
    generalize chkE a = E at *
    refine pure_of_wt Try.func25 rfl (by decide) _ Try.ntmps25 rfl Try.results25 fun w0 => ?_
    refine Wt.factN 2000030 1 (.front 3) 1 rfl ?_
    repeat' (first
    | (apply RunK.callS; exact rfl; exact rfl; exact hr; (repeat (first | exact ArgsLe.nil | refine ArgsLe.cons ?_ ?_ | exact ArgLe.v _ | exact ArgLe.sl _ _ _ _ | exact ArgLe.nil _ | exact ArgLe.nil' | exact ArgLe.nsl _ _ _ _ _ | exact ArgLe.nsn _ | (apply ArgLe.bsl; exact rfl; (first | exact rfl | (rw [List.length_map]; done) | (simp only [List.length_map]; done) | (simp; done) | (simp; omega)); (first | assumption | exact map_len (fun _ => rfl))))); exact rfl) | (apply RunK.callT; exact rfl; exact rfl; exact hca; (repeat (first | exact ArgsLe.nil | refine ArgsLe.cons ?_ ?_ | exact ArgLe.v _ | exact ArgLe.sl _ _ _ _ | exact ArgLe.nil _ | exact ArgLe.nil' | exact ArgLe.nsl _ _ _ _ _ | exact ArgLe.nsn _ | (apply ArgLe.bsl; exact rfl; (first | exact rfl | (rw [List.length_map]; done) | (simp only [List.length_map]; done) | (simp; done) | (simp; omega)); (first | assumption | exact map_len (fun _ => rfl))))); exact rfl) | (apply RunK.storeN; exact rfl; exact rfl; exact rfl; exact rfl; exact rfl; exact rfl)
    | refine Wt.seq ?_
    | (apply Wt.regionK; exact rfl)
    | refine Wt.ret ?_
    | refine Wt.skip ?_
    | refine RunK.nil ?_
    | (apply RunK.moveV; exact rfl; exact rfl)
    | (apply RunK.assignV; exact rfl; exact rfl)
    | (apply RunK.box; exact rfl; exact rfl; apply Cells.eq; (first | exact Cells.agg _ | exact Cells.int _ _ | exact Cells.bool _ | exact Cells.one _ rfl); exact rfl)
    | (apply RunK.alloc; exact rfl; apply Cells.eq; (first | exact Cells.agg _ | exact Cells.int _ _ | exact Cells.bool _ | exact Cells.one _ rfl); exact rfl)
    | (apply RunK.moveS; exact rfl; exact rfl)
    | (apply RunK.moveT; exact rfl; exact rfl)
    | (apply RunK.loadR; exact rfl; exact rfl; exact rfl; exact rfl; (apply cut_eq; repeat (first | exact Cut.nil _ | apply Cut.cons | apply Cut.skip)))
    | (apply RunK.pickF; exact rfl; exact rfl; exact rfl)
    | (apply RunK.lss; exact rfl; exact rfl; exact rfl)
    | (apply RunK.gtr; exact rfl; exact rfl; exact rfl)
    | (apply RunK.neq; exact rfl; exact rfl; exact rfl)
    | (apply RunK.extract; exact rfl; exact rfl; exact rfl)
    | (apply RunK.store; exact rfl; exact rfl; exact rfl; exact rfl; exact rfl; exact rfl; exact rfl; apply upd_eq; exact rfl; (first | exact Cells.agg _ | exact Cells.int _ _ | exact Cells.bool _ | exact Cells.one _ rfl); (repeat (first | exact Upd.nil _ | apply Upd.cons | apply Upd.skip)))
    | (apply RunK.guard; exact rfl; exact rfl; exact rfl; all_goals (intro hg; (first | exact absurd hg (by decide) | skip); (first | (with_reducible replace hg := not_t hg) | (with_reducible replace hg := not_f hg) | skip); (first | (with_reducible replace hg := dec_t hg) | (with_reducible replace hg := dec_f hg) | skip); (first | (with_reducible exact absurd rfl hg) | skip); (repeat rw [List.length_map] at hg); try (exfalso; omega)))
    | (apply Wt.cond; exact rfl; all_goals (intro hg; (first | exact absurd hg (by decide) | skip); (first | (with_reducible replace hg := not_t hg) | (with_reducible replace hg := not_f hg) | skip); (first | (with_reducible replace hg := dec_t hg) | (with_reducible replace hg := dec_f hg) | skip); (first | (with_reducible exact absurd rfl hg) | skip); (repeat rw [List.length_map] at hg); try (exfalso; omega))))
    all_goals (apply ResOk.cHv (h := 2000030); exact rfl; exact rfl; exact .one inferInstance rfl; exact rfl; exact rfl; exact rfl; exact .one inferInstance rfl; exact rfl; exact rfl; exact rfl; exact rfl)
set_option maxRecDepth 100000 in
theorem grantFor_grants (fn : Nat) (r : Rect) (a : List Rule) (l : List Grant) (ha : a.length < 1000000000000000) (hL : l.length * 64 ≤ 140737488351232) (hoa : ∀ x ∈ a, x.ok) (hol : ∀ x ∈ l, x.ok) (h1 : relB fn = true) (h2 : rectOk r = true) (h3 : chkE a = 0) (h4 : ¬chkG l = 0) : Pure Try.prog 25 [.v (.int .u8 fn), .v r.v, rules a, grants l] (forR (forS fn r a l)) := by
    have h1' := rel_iff h1
    have hr := rectCheck r
    have hca := aclCheck 64 a ha hoa
    have hcl := grantCheck 64 l (by omega) hol
    rw [show (checkG 64 l).2 = chkG l from rfl] at hcl
    rw [show (checkS 64 a).2 = chkE a from rfl, h3] at hca
    rw [show chk r = 0 from by unfold chk; rw [h2]; rfl] at hr
    rw [forS_grants h1 h2 h3 h4]
    generalize (checkG 64 l).1 = q at *
    generalize (checkS 64 a).1 = q2 at *
    generalize chkG l = E at *
    refine pure_of_wt Try.func25 rfl (by decide) _ Try.ntmps25 rfl Try.results25 fun w0 => ?_
    refine Wt.factN 2000030 1 (.front 3) 1 rfl ?_
    repeat' (first
    | (apply RunK.callS; exact rfl; exact rfl; exact hr; (repeat (first | exact ArgsLe.nil | refine ArgsLe.cons ?_ ?_ | exact ArgLe.v _ | exact ArgLe.sl _ _ _ _ | exact ArgLe.nil _ | exact ArgLe.nil' | exact ArgLe.nsl _ _ _ _ _ | exact ArgLe.nsn _ | (apply ArgLe.bsl; exact rfl; (first | exact rfl | (rw [List.length_map]; done) | (simp only [List.length_map]; done) | (simp; done) | (simp; omega)); (first | assumption | exact map_len (fun _ => rfl))))); exact rfl) | (apply RunK.callT; exact rfl; exact rfl; exact hca; (repeat (first | exact ArgsLe.nil | refine ArgsLe.cons ?_ ?_ | exact ArgLe.v _ | exact ArgLe.sl _ _ _ _ | exact ArgLe.nil _ | exact ArgLe.nil' | exact ArgLe.nsl _ _ _ _ _ | exact ArgLe.nsn _ | (apply ArgLe.bsl; exact rfl; (first | exact rfl | (rw [List.length_map]; done) | (simp only [List.length_map]; done) | (simp; done) | (simp; omega)); (first | assumption | exact map_len (fun _ => rfl))))); exact rfl) | (apply RunK.callT; exact rfl; exact rfl; exact hcl; (repeat (first | exact ArgsLe.nil | refine ArgsLe.cons ?_ ?_ | exact ArgLe.v _ | exact ArgLe.sl _ _ _ _ | exact ArgLe.nil _ | exact ArgLe.nil' | exact ArgLe.nsl _ _ _ _ _ | exact ArgLe.nsn _ | (apply ArgLe.bsl; exact rfl; (first | exact rfl | (rw [List.length_map]; done) | (simp only [List.length_map]; done) | (simp; done) | (simp; omega)); (first | assumption | exact map_len (fun _ => rfl))))); exact rfl) | (apply RunK.storeN; exact rfl; exact rfl; exact rfl; exact rfl; exact rfl; exact rfl)
    | refine Wt.seq ?_
    | (apply Wt.regionK; exact rfl)
    | refine Wt.ret ?_
    | refine Wt.skip ?_
    | refine RunK.nil ?_
    | (apply RunK.moveV; exact rfl; exact rfl)
    | (apply RunK.assignV; exact rfl; exact rfl)
    | (apply RunK.box; exact rfl; exact rfl; apply Cells.eq; (first | exact Cells.agg _ | exact Cells.int _ _ | exact Cells.bool _ | exact Cells.one _ rfl); exact rfl)
    | (apply RunK.alloc; exact rfl; apply Cells.eq; (first | exact Cells.agg _ | exact Cells.int _ _ | exact Cells.bool _ | exact Cells.one _ rfl); exact rfl)
    | (apply RunK.moveS; exact rfl; exact rfl)
    | (apply RunK.moveT; exact rfl; exact rfl)
    | (apply RunK.loadR; exact rfl; exact rfl; exact rfl; exact rfl; (apply cut_eq; repeat (first | exact Cut.nil _ | apply Cut.cons | apply Cut.skip)))
    | (apply RunK.pickF; exact rfl; exact rfl; exact rfl)
    | (apply RunK.lss; exact rfl; exact rfl; exact rfl)
    | (apply RunK.gtr; exact rfl; exact rfl; exact rfl)
    | (apply RunK.neq; exact rfl; exact rfl; exact rfl)
    | (apply RunK.extract; exact rfl; exact rfl; exact rfl)
    | (apply RunK.store; exact rfl; exact rfl; exact rfl; exact rfl; exact rfl; exact rfl; exact rfl; apply upd_eq; exact rfl; (first | exact Cells.agg _ | exact Cells.int _ _ | exact Cells.bool _ | exact Cells.one _ rfl); (repeat (first | exact Upd.nil _ | apply Upd.cons | apply Upd.skip)))
    | (apply RunK.guard; exact rfl; exact rfl; exact rfl; all_goals (intro hg; (first | exact absurd hg (by decide) | skip); (first | (with_reducible replace hg := not_t hg) | (with_reducible replace hg := not_f hg) | skip); (first | (with_reducible replace hg := dec_t hg) | (with_reducible replace hg := dec_f hg) | skip); (first | (with_reducible exact absurd rfl hg) | skip); (repeat rw [List.length_map] at hg); try (exfalso; omega)))
    | (apply Wt.cond; exact rfl; all_goals (intro hg; (first | exact absurd hg (by decide) | skip); (first | (with_reducible replace hg := not_t hg) | (with_reducible replace hg := not_f hg) | skip); (first | (with_reducible replace hg := dec_t hg) | (with_reducible replace hg := dec_f hg) | skip); (first | (with_reducible exact absurd rfl hg) | skip); (repeat rw [List.length_map] at hg); try (exfalso; omega))))
    all_goals (apply ResOk.cHv (h := 2000030); exact rfl; exact rfl; exact .one inferInstance rfl; exact rfl; exact rfl; exact rfl; exact .one inferInstance rfl; exact rfl; exact rfl; exact rfl; exact rfl)
end Go.Proofs.Ytfacimebfdeaeaa
