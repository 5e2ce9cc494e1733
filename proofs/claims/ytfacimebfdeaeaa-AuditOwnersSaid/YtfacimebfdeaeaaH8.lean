/- The walk of the law AuditOwners. -/
import Derived.Test.YtfacimebfdeaeaaH6
namespace Go.Proofs.Ytfacimebfdeaeaa
open Pv Go.RowKit
set_option maxRecDepth 100000 in
theorem neqEvent {x y : Operand} (a b : Event) : BinRun Try.prog .neq 68 x y a.v b.v (.bool (!decide (a = b))) := by
  refine eqRun (by kernel_rfl) fun w => ?_
  rcases a with ⟨s1, u1, k1, ⟨a1, b1, c1, d1⟩, e1, t1⟩; rcases b with ⟨s2, u2, k2, ⟨a2, b2, c2, d2⟩, e2, t2⟩
  simp only [Event.vals]
  go_simp
  rcases Decidable.em (s1 = s2) with rfl | h; rotate_left; · (simp [h]; try omega)
  rcases Decidable.em (u1 = u2) with rfl | h; rotate_left; · (simp [h]; try omega)
  rcases Decidable.em (k1 = k2) with rfl | h; rotate_left; · (simp [h]; try omega)
  rcases Decidable.em (a1 = a2) with rfl | h; rotate_left; · (simp [h]; try omega)
  rcases Decidable.em (b1 = b2) with rfl | h; rotate_left; · (simp [h]; try omega)
  rcases Decidable.em (c1 = c2) with rfl | h; rotate_left; · (simp [h]; try omega)
  rcases Decidable.em (d1 = d2) with rfl | h; rotate_left; · (simp [h]; try omega)
  rcases Decidable.em (e1 = e2) with rfl | h; rotate_left; · (simp [h]; try omega)
  rcases Decidable.em (t1 = t2) with rfl | h; rotate_left; · (simp [h]; try omega)
  simp
structure ownPre (x : Opn) (a : List Rule) (l : List Grant) (s : ByteArray) : Prop where
  ea : chkE a = 0
  el : chkG l = 0
  la : a.length ≤ 10
  ll : l.length ≤ 20
  si : s.size ≤ 256
  sx : x.input.size ≤ 256
abbrev ownArgs (x : Opn) (done : Bool) (a : List Rule) (l : List Grant) (s : ByteArray) : List SV := [.v x.v, .v (.bool done), rules a, grants l, .v (.string s)]
abbrev OwnSays (x : Opn) (done : Bool) (a : List Rule) (l : List Grant) (s : ByteArray) : Prop := Pure Try.prog 10 (ownArgs x done a l s) (.s (.v (.bool true)))
set_option maxRecDepth 100000 in
theorem own_pre (x : Opn) (done : Bool) (a : List Rule) (l : List Grant) (s : ByteArray) (L : goodL a l) (h0 : ¬ownPre x a l s) : OwnSays x done a l s := by
  have hca := refCheck 64 a L.la L.oa
  rw [show (checkS 64 a).2 = chkE a from rfl] at hca
  have hcl := refGCheck 64 l L.ll L.ol
  rw [show (checkG 64 l).2 = chkG l from rfl] at hcl
  have h : ¬((chkE a = 0 ∧ chkG l = 0) ∧ (a.length ≤ 10 ∧ l.length ≤ 20) ∧ s.size ≤ 256 ∧ x.input.size ≤ 256) := fun hh => h0 ⟨hh.1.1, hh.1.2, hh.2.1.1, hh.2.1.2, hh.2.2.1, hh.2.2.2⟩
  generalize (checkS 64 a).1 = q at *
  generalize (checkG 64 l).1 = q2 at *
  generalize chkE a = E at *
  generalize chkG l = G at *
  refine pure_of_wt Try.func10 rfl (by decide) _ Try.ntmps10 rfl Try.results10 fun w0 => ?_
  repeat' (first
    | (apply RunK.callT; exact rfl; exact hca; (repeat (first | exact ArgsLe.nil | refine ArgsLe.cons ?_ ?_ | exact ArgLe.v _ | exact ArgLe.sl _ _ _ _ | exact ArgLe.nil _ | exact ArgLe.nil' | (apply ArgLe.bsl; exact rfl; (first | exact rfl | (rw [List.length_map]; done) | (simp only [List.length_map]; done) | (simp; done) | (simp; omega)); (first | assumption | exact map_len (fun _ => rfl))))); exact rfl) | (apply RunK.callT; exact rfl; exact hcl; (repeat (first | exact ArgsLe.nil | refine ArgsLe.cons ?_ ?_ | exact ArgLe.v _ | exact ArgLe.sl _ _ _ _ | exact ArgLe.nil _ | exact ArgLe.nil' | (apply ArgLe.bsl; exact rfl; (first | exact rfl | (rw [List.length_map]; done) | (simp only [List.length_map]; done) | (simp; done) | (simp; omega)); (first | assumption | exact map_len (fun _ => rfl))))); exact rfl) | (apply RunK.lenStr Try.underlying9; exact rfl; exact rfl)
    | refine Wt.seq ?_
    | (apply Wt.regionK; exact rfl)
    | refine Wt.ret ?_
    | refine RunK.nil ?_
    | (apply RunK.moveV; exact rfl; exact rfl)
    | (apply RunK.load1; exact rfl; exact rfl; exact rfl; exact rfl)
    | (apply RunK.field; exact rfl; exact rfl)
    | (apply RunK.assignV; exact rfl; exact rfl)
    | (apply RunK.box; exact rfl; exact rfl; apply Cells.eq; (first | exact Cells.agg _ | exact Cells.int _ _ | exact Cells.bool _ | exact Cells.one _ rfl); exact rfl)
    | (apply RunK.moveS; exact rfl; exact rfl)
    | (apply RunK.moveT; exact rfl; exact rfl)
    | (apply RunK.pickT; exact rfl; exact rfl; exact rfl)
    | (apply RunK.pickF; exact rfl; exact rfl; exact rfl)
    | (apply RunK.gtr; exact rfl; exact rfl; exact rfl)
    | (apply RunK.neq; exact rfl; exact rfl; exact rfl)
    | (apply RunK.len; exact rfl; exact rfl)
    | (apply RunK.extract; exact rfl; exact rfl; exact rfl)
    | (apply RunK.skip; exact rfl; exact rfl)
    | (apply RunK.guard; exact rfl; exact rfl; exact rfl; all_goals (intro hg; (first | exact absurd hg (by decide) | skip); (first | (with_reducible replace hg := not_t hg) | (with_reducible replace hg := not_f hg) | skip); (first | (with_reducible replace hg := dec_t hg) | (with_reducible replace hg := dec_f hg) | skip); (first | (with_reducible exact absurd rfl hg) | skip); (repeat rw [List.length_map] at hg); try (exfalso; omega)))
    | (apply Wt.cond; exact rfl; all_goals (intro hg; (first | exact absurd hg (by decide) | skip); (first | (with_reducible replace hg := not_t hg) | (with_reducible replace hg := not_f hg) | skip); (first | (with_reducible replace hg := dec_t hg) | (with_reducible replace hg := dec_f hg) | skip); (first | (with_reducible exact absurd rfl hg) | skip); (repeat rw [List.length_map] at hg); try (exfalso; omega))))
  all_goals (apply ResOk.v1; exact rfl; exact rfl)
set_option maxRecDepth 100000 in
theorem own_arg (x : Opn) (done : Bool) (a : List Rule) (l : List Grant) (s : ByteArray) (L : goodL a l) (Q : ownPre x a l s) (G0 : ¬goodX 3 x) : OwnSays x done a l s := by
  have hca := refCheck 64 a L.la L.oa
  rw [show (checkS 64 a).2 = chkE a from rfl, Q.ea] at hca
  have hcl := refGCheck 64 l L.ll L.ol
  rw [show (checkG 64 l).2 = chkG l from rfl, Q.el] at hcl
  have q1 := Q.la
  have q2 := Q.ll
  have q3 := Q.si
  have q4 := Q.sx
  generalize (checkS 64 a).1 = q at *
  generalize (checkG 64 l).1 = q2 at *
  have hc := refCheckO x (by omega)
  have hm := refMutates x
  have h : ∀ E : Int, E = (if okP x then 0 else 4) → ¬(E = 0 ∧ mutB x.kind = true ∧ (0 ≤ x.user ∧ x.user < 64)) := fun E hE hh => G0 ⟨by decide, by
    rw [hh.1] at hE
    by_cases ho : okP x
    · exact ho
    · rw [if_neg ho] at hE; exact absurd hE (by decide), hh.2.1, hh.2.2⟩
  replace h := h _ rfl
  generalize (if okP x then (0 : Int) else 4) = E at *
  generalize mutB x.kind = M at *
  refine pure_of_wt Try.func10 rfl (by decide) _ Try.ntmps10 rfl Try.results10 fun w0 => ?_
  repeat' (first
    | (apply RunK.callT; exact rfl; exact hca; (repeat (first | exact ArgsLe.nil | refine ArgsLe.cons ?_ ?_ | exact ArgLe.v _ | exact ArgLe.sl _ _ _ _ | exact ArgLe.nil _ | exact ArgLe.nil' | (apply ArgLe.bsl; exact rfl; (first | exact rfl | (rw [List.length_map]; done) | (simp only [List.length_map]; done) | (simp; done) | (simp; omega)); (first | assumption | exact map_len (fun _ => rfl))))); exact rfl) | (apply RunK.callT; exact rfl; exact hcl; (repeat (first | exact ArgsLe.nil | refine ArgsLe.cons ?_ ?_ | exact ArgLe.v _ | exact ArgLe.sl _ _ _ _ | exact ArgLe.nil _ | exact ArgLe.nil' | (apply ArgLe.bsl; exact rfl; (first | exact rfl | (rw [List.length_map]; done) | (simp only [List.length_map]; done) | (simp; done) | (simp; omega)); (first | assumption | exact map_len (fun _ => rfl))))); exact rfl) | (apply RunK.callS; exact rfl; exact hc; (repeat (first | exact ArgsLe.nil | refine ArgsLe.cons ?_ ?_ | exact ArgLe.v _ | exact ArgLe.sl _ _ _ _ | exact ArgLe.nil _ | exact ArgLe.nil' | (apply ArgLe.bsl; exact rfl; (first | exact rfl | (rw [List.length_map]; done) | (simp only [List.length_map]; done) | (simp; done) | (simp; omega)); (first | assumption | exact map_len (fun _ => rfl))))); exact rfl) | (apply RunK.callS; exact rfl; exact hm; (repeat (first | exact ArgsLe.nil | refine ArgsLe.cons ?_ ?_ | exact ArgLe.v _ | exact ArgLe.sl _ _ _ _ | exact ArgLe.nil _ | exact ArgLe.nil' | (apply ArgLe.bsl; exact rfl; (first | exact rfl | (rw [List.length_map]; done) | (simp only [List.length_map]; done) | (simp; done) | (simp; omega)); (first | assumption | exact map_len (fun _ => rfl))))); exact rfl) | (apply RunK.lenStr Try.underlying9; exact rfl; exact rfl)
    | refine Wt.seq ?_
    | (apply Wt.regionK; exact rfl)
    | refine Wt.ret ?_
    | refine Wt.skip ?_
    | refine RunK.nil ?_
    | (apply RunK.moveV; exact rfl; exact rfl)
    | (apply RunK.load1; exact rfl; exact rfl; exact rfl; exact rfl)
    | (apply RunK.field; exact rfl; exact rfl)
    | (apply RunK.assignV; exact rfl; exact rfl)
    | (apply RunK.box; exact rfl; exact rfl; apply Cells.eq; (first | exact Cells.agg _ | exact Cells.int _ _ | exact Cells.bool _ | exact Cells.one _ rfl); exact rfl)
    | (apply RunK.alloc; exact rfl; apply Cells.eq; (first | exact Cells.agg _ | exact Cells.int _ _ | exact Cells.bool _ | exact Cells.one _ rfl); exact rfl)
    | (apply RunK.moveS; exact rfl; exact rfl)
    | (apply RunK.moveT; exact rfl; exact rfl)
    | (apply RunK.loadR; exact rfl; exact rfl; exact rfl; exact rfl; (apply cut_eq; repeat (first | exact Cut.nil _ | apply Cut.cons | apply Cut.skip)))
    | (apply RunK.pickT; exact rfl; exact rfl; exact rfl)
    | (apply RunK.pickF; exact rfl; exact rfl; exact rfl)
    | (apply RunK.geq; exact rfl; exact rfl; exact rfl)
    | (apply RunK.lss; exact rfl; exact rfl; exact rfl)
    | (apply RunK.gtr; exact rfl; exact rfl; exact rfl)
    | (apply RunK.eql; exact rfl; exact rfl; exact rfl)
    | (apply RunK.neq; exact rfl; exact rfl; exact rfl)
    | (apply RunK.not; exact rfl; exact rfl)
    | (apply RunK.len; exact rfl; exact rfl)
    | (apply RunK.extract; exact rfl; exact rfl; exact rfl)
    | (apply RunK.store; exact rfl; exact rfl; exact rfl; exact rfl; exact rfl; exact rfl; exact rfl; apply upd_eq; exact rfl; (first | exact Cells.agg _ | exact Cells.int _ _ | exact Cells.bool _ | exact Cells.one _ rfl); (repeat (first | exact Upd.nil _ | apply Upd.cons | apply Upd.skip)))
    | (apply RunK.skip; exact rfl; exact rfl)
    | (apply RunK.guard; exact rfl; exact rfl; exact rfl; all_goals (intro hg; (first | exact absurd hg (by decide) | skip); (first | (with_reducible replace hg := not_t hg) | (with_reducible replace hg := not_f hg) | skip); (first | (with_reducible replace hg := dec_t hg) | (with_reducible replace hg := dec_f hg) | skip); (first | (with_reducible exact absurd rfl hg) | skip); (repeat rw [List.length_map] at hg); try (exfalso; omega)))
    | (apply Wt.cond; exact rfl; all_goals (intro hg; (first | exact absurd hg (by decide) | skip); (first | (with_reducible replace hg := not_t hg) | (with_reducible replace hg := not_f hg) | skip); (first | (with_reducible replace hg := dec_t hg) | (with_reducible replace hg := dec_f hg) | skip); (first | (with_reducible exact absurd rfl hg) | skip); (repeat rw [List.length_map] at hg); try (exfalso; omega))))
  all_goals first | (apply ResOk.v1; exact rfl; exact rfl; done) | (exfalso; refine h ⟨by omega, ?_, by omega⟩; first | assumption | (simpa using ‹¬(!M) = true›))
set_option maxRecDepth 100000 in
theorem own_none (x : Opn) (done : Bool) (a : List Rule) (l : List Grant) (s : ByteArray) (L : goodL a l) (Q : ownPre x a l s) (G : goodX 3 x) (h3 : x.kind = 9) (h4 : ¬(0 ≤ x.index ∧ x.index < l.length)) : OwnSays x done a l s := by
  have hca := refCheck 64 a L.la L.oa
  rw [show (checkS 64 a).2 = chkE a from rfl, Q.ea] at hca
  have hcl := refGCheck 64 l L.ll L.ol
  rw [show (checkG 64 l).2 = chkG l from rfl, Q.el] at hcl
  have q1 := Q.la
  have q2 := Q.ll
  have q3 := Q.si
  have q4 := Q.sx
  generalize (checkS 64 a).1 = q at *
  generalize (checkG 64 l).1 = q2 at *
  have hc := refCheckO x (by omega)
  rw [if_pos G.ok] at hc
  have hm := refMutates x
  rw [G.mu] at hm
  have huser := G.user
  refine pure_of_wt Try.func10 rfl (by decide) _ Try.ntmps10 rfl Try.results10 fun w0 => ?_
  repeat' (first
    | (apply RunK.callT; exact rfl; exact hca; (repeat (first | exact ArgsLe.nil | refine ArgsLe.cons ?_ ?_ | exact ArgLe.v _ | exact ArgLe.sl _ _ _ _ | exact ArgLe.nil _ | exact ArgLe.nil' | (apply ArgLe.bsl; exact rfl; (first | exact rfl | (rw [List.length_map]; done) | (simp only [List.length_map]; done) | (simp; done) | (simp; omega)); (first | assumption | exact map_len (fun _ => rfl))))); exact rfl) | (apply RunK.callT; exact rfl; exact hcl; (repeat (first | exact ArgsLe.nil | refine ArgsLe.cons ?_ ?_ | exact ArgLe.v _ | exact ArgLe.sl _ _ _ _ | exact ArgLe.nil _ | exact ArgLe.nil' | (apply ArgLe.bsl; exact rfl; (first | exact rfl | (rw [List.length_map]; done) | (simp only [List.length_map]; done) | (simp; done) | (simp; omega)); (first | assumption | exact map_len (fun _ => rfl))))); exact rfl) | (apply RunK.callS; exact rfl; exact hc; (repeat (first | exact ArgsLe.nil | refine ArgsLe.cons ?_ ?_ | exact ArgLe.v _ | exact ArgLe.sl _ _ _ _ | exact ArgLe.nil _ | exact ArgLe.nil' | (apply ArgLe.bsl; exact rfl; (first | exact rfl | (rw [List.length_map]; done) | (simp only [List.length_map]; done) | (simp; done) | (simp; omega)); (first | assumption | exact map_len (fun _ => rfl))))); exact rfl) | (apply RunK.callS; exact rfl; exact hm; (repeat (first | exact ArgsLe.nil | refine ArgsLe.cons ?_ ?_ | exact ArgLe.v _ | exact ArgLe.sl _ _ _ _ | exact ArgLe.nil _ | exact ArgLe.nil' | (apply ArgLe.bsl; exact rfl; (first | exact rfl | (rw [List.length_map]; done) | (simp only [List.length_map]; done) | (simp; done) | (simp; omega)); (first | assumption | exact map_len (fun _ => rfl))))); exact rfl) | (apply RunK.lenStr Try.underlying9; exact rfl; exact rfl)
    | refine Wt.seq ?_
    | (apply Wt.regionK; exact rfl)
    | refine Wt.ret ?_
    | refine Wt.skip ?_
    | refine RunK.nil ?_
    | (apply RunK.moveV; exact rfl; exact rfl)
    | (apply RunK.load1; exact rfl; exact rfl; exact rfl; exact rfl)
    | (apply RunK.field; exact rfl; exact rfl)
    | (apply RunK.assignV; exact rfl; exact rfl)
    | (apply RunK.box; exact rfl; exact rfl; apply Cells.eq; (first | exact Cells.agg _ | exact Cells.int _ _ | exact Cells.bool _ | exact Cells.one _ rfl); exact rfl)
    | (apply RunK.alloc; exact rfl; apply Cells.eq; (first | exact Cells.agg _ | exact Cells.int _ _ | exact Cells.bool _ | exact Cells.one _ rfl); exact rfl)
    | (apply RunK.moveS; exact rfl; exact rfl)
    | (apply RunK.moveT; exact rfl; exact rfl)
    | (apply RunK.loadR; exact rfl; exact rfl; exact rfl; exact rfl; (apply cut_eq; repeat (first | exact Cut.nil _ | apply Cut.cons | apply Cut.skip)))
    | (apply RunK.pickT; exact rfl; exact rfl; exact rfl)
    | (apply RunK.pickF; exact rfl; exact rfl; exact rfl)
    | (apply RunK.geq; exact rfl; exact rfl; exact rfl)
    | (apply RunK.lss; exact rfl; exact rfl; exact rfl)
    | (apply RunK.gtr; exact rfl; exact rfl; exact rfl)
    | (apply RunK.eql; exact rfl; exact rfl; exact rfl)
    | (apply RunK.neq; exact rfl; exact rfl; exact rfl)
    | (apply RunK.not; exact rfl; exact rfl)
    | (apply RunK.len; exact rfl; exact rfl)
    | (apply RunK.extract; exact rfl; exact rfl; exact rfl)
    | (apply RunK.store; exact rfl; exact rfl; exact rfl; exact rfl; exact rfl; exact rfl; exact rfl; apply upd_eq; exact rfl; (first | exact Cells.agg _ | exact Cells.int _ _ | exact Cells.bool _ | exact Cells.one _ rfl); (repeat (first | exact Upd.nil _ | apply Upd.cons | apply Upd.skip)))
    | (apply RunK.skip; exact rfl; exact rfl)
    | (apply RunK.guard; exact rfl; exact rfl; exact rfl; all_goals (intro hg; (first | exact absurd hg (by decide) | skip); (first | (with_reducible replace hg := not_t hg) | (with_reducible replace hg := not_f hg) | skip); (first | (with_reducible replace hg := dec_t hg) | (with_reducible replace hg := dec_f hg) | skip); (first | (with_reducible exact absurd rfl hg) | skip); (repeat rw [List.length_map] at hg); try (exfalso; omega)))
    | (apply Wt.cond; exact rfl; all_goals (intro hg; (first | exact absurd hg (by decide) | skip); (first | (with_reducible replace hg := not_t hg) | (with_reducible replace hg := not_f hg) | skip); (first | (with_reducible replace hg := dec_t hg) | (with_reducible replace hg := dec_f hg) | skip); (first | (with_reducible exact absurd rfl hg) | skip); (repeat rw [List.length_map] at hg); try (exfalso; omega))))
  all_goals (apply ResOk.v1; exact rfl; exact rfl)
set_option maxRecDepth 100000 in
theorem own_range0 (x : Opn) (done : Bool) (a : List Rule) (l : List Grant) (s : ByteArray) (L : goodL a l) (Q : ownPre x a l s) (G : goodX 3 x) (h3 : ¬x.kind = 9) (h5 : rectOk x.rect = false) : OwnSays x done a l s := by
  have hca := refCheck 64 a L.la L.oa
  rw [show (checkS 64 a).2 = chkE a from rfl, Q.ea] at hca
  have hcl := refGCheck 64 l L.ll L.ol
  rw [show (checkG 64 l).2 = chkG l from rfl, Q.el] at hcl
  have q1 := Q.la
  have q2 := Q.ll
  have q3 := Q.si
  have q4 := Q.sx
  generalize (checkS 64 a).1 = q at *
  generalize (checkG 64 l).1 = q2 at *
  have hc := refCheckO x (by omega)
  rw [if_pos G.ok] at hc
  have hm := refMutates x
  rw [G.mu] at hm
  have huser := G.user
  have hr := range x.rect
  rw [h5] at hr
  refine pure_of_wt Try.func10 rfl (by decide) _ Try.ntmps10 rfl Try.results10 fun w0 => ?_
  repeat' (first
    | (apply RunK.callT; exact rfl; exact hca; (repeat (first | exact ArgsLe.nil | refine ArgsLe.cons ?_ ?_ | exact ArgLe.v _ | exact ArgLe.sl _ _ _ _ | exact ArgLe.nil _ | exact ArgLe.nil' | (apply ArgLe.bsl; exact rfl; (first | exact rfl | (rw [List.length_map]; done) | (simp only [List.length_map]; done) | (simp; done) | (simp; omega)); (first | assumption | exact map_len (fun _ => rfl))))); exact rfl) | (apply RunK.callT; exact rfl; exact hcl; (repeat (first | exact ArgsLe.nil | refine ArgsLe.cons ?_ ?_ | exact ArgLe.v _ | exact ArgLe.sl _ _ _ _ | exact ArgLe.nil _ | exact ArgLe.nil' | (apply ArgLe.bsl; exact rfl; (first | exact rfl | (rw [List.length_map]; done) | (simp only [List.length_map]; done) | (simp; done) | (simp; omega)); (first | assumption | exact map_len (fun _ => rfl))))); exact rfl) | (apply RunK.callS; exact rfl; exact hc; (repeat (first | exact ArgsLe.nil | refine ArgsLe.cons ?_ ?_ | exact ArgLe.v _ | exact ArgLe.sl _ _ _ _ | exact ArgLe.nil _ | exact ArgLe.nil' | (apply ArgLe.bsl; exact rfl; (first | exact rfl | (rw [List.length_map]; done) | (simp only [List.length_map]; done) | (simp; done) | (simp; omega)); (first | assumption | exact map_len (fun _ => rfl))))); exact rfl) | (apply RunK.callS; exact rfl; exact hm; (repeat (first | exact ArgsLe.nil | refine ArgsLe.cons ?_ ?_ | exact ArgLe.v _ | exact ArgLe.sl _ _ _ _ | exact ArgLe.nil _ | exact ArgLe.nil' | (apply ArgLe.bsl; exact rfl; (first | exact rfl | (rw [List.length_map]; done) | (simp only [List.length_map]; done) | (simp; done) | (simp; omega)); (first | assumption | exact map_len (fun _ => rfl))))); exact rfl) | (apply RunK.lenStr Try.underlying9; exact rfl; exact rfl) | (apply RunK.callS; exact rfl; exact hr; (repeat (first | exact ArgsLe.nil | refine ArgsLe.cons ?_ ?_ | exact ArgLe.v _ | exact ArgLe.sl _ _ _ _ | exact ArgLe.nil _ | exact ArgLe.nil' | (apply ArgLe.bsl; exact rfl; (first | exact rfl | (rw [List.length_map]; done) | (simp only [List.length_map]; done) | (simp; done) | (simp; omega)); (first | assumption | exact map_len (fun _ => rfl))))); exact rfl)
    | refine Wt.seq ?_
    | (apply Wt.regionK; exact rfl)
    | refine Wt.ret ?_
    | refine Wt.skip ?_
    | refine RunK.nil ?_
    | (apply RunK.moveV; exact rfl; exact rfl)
    | (apply RunK.load1; exact rfl; exact rfl; exact rfl; exact rfl)
    | (apply RunK.field; exact rfl; exact rfl)
    | (apply RunK.assignV; exact rfl; exact rfl)
    | (apply RunK.box; exact rfl; exact rfl; apply Cells.eq; (first | exact Cells.agg _ | exact Cells.int _ _ | exact Cells.bool _ | exact Cells.one _ rfl); exact rfl)
    | (apply RunK.alloc; exact rfl; apply Cells.eq; (first | exact Cells.agg _ | exact Cells.int _ _ | exact Cells.bool _ | exact Cells.one _ rfl); exact rfl)
    | (apply RunK.moveS; exact rfl; exact rfl)
    | (apply RunK.moveT; exact rfl; exact rfl)
    | (apply RunK.loadR; exact rfl; exact rfl; exact rfl; exact rfl; (apply cut_eq; repeat (first | exact Cut.nil _ | apply Cut.cons | apply Cut.skip)))
    | (apply RunK.pickF; exact rfl; exact rfl; exact rfl)
    | (apply RunK.geq; exact rfl; exact rfl; exact rfl)
    | (apply RunK.lss; exact rfl; exact rfl; exact rfl)
    | (apply RunK.gtr; exact rfl; exact rfl; exact rfl)
    | (apply RunK.eql; exact rfl; exact rfl; exact rfl)
    | (apply RunK.neq; exact rfl; exact rfl; exact rfl)
    | (apply RunK.not; exact rfl; exact rfl)
    | (apply RunK.len; exact rfl; exact rfl)
    | (apply RunK.extract; exact rfl; exact rfl; exact rfl)
    | (apply RunK.store; exact rfl; exact rfl; exact rfl; exact rfl; exact rfl; exact rfl; exact rfl; apply upd_eq; exact rfl; (first | exact Cells.agg _ | exact Cells.int _ _ | exact Cells.bool _ | exact Cells.one _ rfl); (repeat (first | exact Upd.nil _ | apply Upd.cons | apply Upd.skip)))
    | (apply RunK.guard; exact rfl; exact rfl; exact rfl; all_goals (intro hg; (first | exact absurd hg (by decide) | skip); (first | (with_reducible replace hg := not_t hg) | (with_reducible replace hg := not_f hg) | skip); (first | (with_reducible replace hg := dec_t hg) | (with_reducible replace hg := dec_f hg) | skip); (first | (with_reducible exact absurd rfl hg) | skip); (repeat rw [List.length_map] at hg); try (exfalso; omega)))
    | (apply Wt.cond; exact rfl; all_goals (intro hg; (first | exact absurd hg (by decide) | skip); (first | (with_reducible replace hg := not_t hg) | (with_reducible replace hg := not_f hg) | skip); (first | (with_reducible replace hg := dec_t hg) | (with_reducible replace hg := dec_f hg) | skip); (first | (with_reducible exact absurd rfl hg) | skip); (repeat rw [List.length_map] at hg); try (exfalso; omega))))
  all_goals (apply ResOk.v1; exact rfl; exact rfl)
set_option maxRecDepth 100000 in
theorem own_ok00 (x : Opn) (done : Bool) (a : List Rule) (l : List Grant) (s : ByteArray) (L : goodL a l) (Q : ownPre x a l s) (G : goodX 3 x) (h3 : ¬x.kind = 9) (h5 : rectOk x.rect = true) (hy : ¬okP { x with input := s }) : OwnSays x done a l s := by
  have hca := refCheck 64 a L.la L.oa
  rw [show (checkS 64 a).2 = chkE a from rfl, Q.ea] at hca
  have hcl := refGCheck 64 l L.ll L.ol
  rw [show (checkG 64 l).2 = chkG l from rfl, Q.el] at hcl
  have q1 := Q.la
  have q2 := Q.ll
  have q3 := Q.si
  have q4 := Q.sx
  generalize (checkS 64 a).1 = q at *
  generalize (checkG 64 l).1 = q2 at *
  have hc := refCheckO x (by omega)
  rw [if_pos G.ok] at hc
  have hm := refMutates x
  rw [G.mu] at hm
  have huser := G.user
  have hr := range x.rect
  rw [h5] at hr
  have he := ev_ok0 3 x done a l (by omega) G L Q.ea Q.el h3 h5
  have hcy := refCheckO { x with input := s } (by show s.size < _; omega)
  rw [if_neg hy] at hcy
  have hb2 := two_pow_lt64 (u := x.user.toNat) (by omega)
  have hor := u64_or_nat (overS x.rect a).1.own (2 ^ x.user.toNat) (overS_bd (r := x.rect) (l := a)).2 hb2
  have ho := regOver x.rect a L.la L.oa
  have ho2 : (overS x.rect a).2 = 0 := by rw [overS_ok h5 Q.ea]
  rw [ho2] at ho
  have hsh : ∀ t o o2, BinRun Try.prog .shl t o o2 (.int .u64 1) (.int .u64 (x.user.toNat : Int)) (.int .u64 ((2 ^ x.user.toNat : Nat) : Int)) := fun t o o2 => by
    have := BinRun.shl (P := Try.prog) (t := t) (x := o) (y := o2) (k := .u64) (k' := .u64) (a := 1) (b := (x.user.toNat : Int)) (by omega)
    rwa [show ((x.user.toNat : Int)).toNat = x.user.toNat from rfl, one_shl (by omega)] at this
  unfold evE at he
  try dsimp only at he
  have hun : x.user = (x.user.toNat : Int) := by omega
  generalize (((overS x.rect a).1.own ||| 2 ^ x.user.toNat : Nat) : Nat) = Z at *
  generalize ((2 ^ x.user.toNat : Nat) : Int) = B2 at *
  generalize (overS x.rect a).1 = O at *
  obtain ⟨o1, o2, o3⟩ := O
  dsimp only at ho hor
  have hne : ∀ o o2 (ev : Event), BinRun Try.prog .neq 68 o o2 ev.v ev.v (.bool false) := fun o o2 ev => by
    have := neqEvent (x := o) (y := o2) ev ev
    rwa [decide_eq_true rfl] at this
  have heq : ∀ o o2 (ev : Event), BinRun Try.prog .eql 68 o o2 ev.v ev.v (.bool true) := fun o o2 ev => by
    have := eqlEvent (x := o) (y := o2) ev ev
    rwa [decide_eq_true rfl] at this
  generalize hev : (⟨3, x.user, x.kind, x.rect, done, Z⟩ : Event) = V at he
  refine pure_of_wt Try.func10 rfl (by decide) _ Try.ntmps10 rfl Try.results10 fun w0 => ?_
  repeat' (first
    | (apply RunK.callT; exact rfl; exact hca; (repeat (first | exact ArgsLe.nil | refine ArgsLe.cons ?_ ?_ | exact ArgLe.v _ | exact ArgLe.sl _ _ _ _ | exact ArgLe.nil _ | exact ArgLe.nil' | (apply ArgLe.bsl; exact rfl; (first | exact rfl | (rw [List.length_map]; done) | (simp only [List.length_map]; done) | (simp; done) | (simp; omega)); (first | assumption | exact map_len (fun _ => rfl))))); exact rfl) | (apply RunK.callT; exact rfl; exact hcl; (repeat (first | exact ArgsLe.nil | refine ArgsLe.cons ?_ ?_ | exact ArgLe.v _ | exact ArgLe.sl _ _ _ _ | exact ArgLe.nil _ | exact ArgLe.nil' | (apply ArgLe.bsl; exact rfl; (first | exact rfl | (rw [List.length_map]; done) | (simp only [List.length_map]; done) | (simp; done) | (simp; omega)); (first | assumption | exact map_len (fun _ => rfl))))); exact rfl) | (apply RunK.callS; exact rfl; exact hc; (repeat (first | exact ArgsLe.nil | refine ArgsLe.cons ?_ ?_ | exact ArgLe.v _ | exact ArgLe.sl _ _ _ _ | exact ArgLe.nil _ | exact ArgLe.nil' | (apply ArgLe.bsl; exact rfl; (first | exact rfl | (rw [List.length_map]; done) | (simp only [List.length_map]; done) | (simp; done) | (simp; omega)); (first | assumption | exact map_len (fun _ => rfl))))); exact rfl) | (apply RunK.callS; exact rfl; exact hm; (repeat (first | exact ArgsLe.nil | refine ArgsLe.cons ?_ ?_ | exact ArgLe.v _ | exact ArgLe.sl _ _ _ _ | exact ArgLe.nil _ | exact ArgLe.nil' | (apply ArgLe.bsl; exact rfl; (first | exact rfl | (rw [List.length_map]; done) | (simp only [List.length_map]; done) | (simp; done) | (simp; omega)); (first | assumption | exact map_len (fun _ => rfl))))); exact rfl) | (apply RunK.lenStr Try.underlying9; exact rfl; exact rfl) | (apply RunK.callS; exact rfl; exact hr; (repeat (first | exact ArgsLe.nil | refine ArgsLe.cons ?_ ?_ | exact ArgLe.v _ | exact ArgLe.sl _ _ _ _ | exact ArgLe.nil _ | exact ArgLe.nil' | (apply ArgLe.bsl; exact rfl; (first | exact rfl | (rw [List.length_map]; done) | (simp only [List.length_map]; done) | (simp; done) | (simp; omega)); (first | assumption | exact map_len (fun _ => rfl))))); exact rfl) | (apply RunK.callT; exact rfl; exact ho; (repeat (first | exact ArgsLe.nil | refine ArgsLe.cons ?_ ?_ | exact ArgLe.v _ | exact ArgLe.sl _ _ _ _ | exact ArgLe.nil _ | exact ArgLe.nil' | (apply ArgLe.bsl; exact rfl; (first | exact rfl | (rw [List.length_map]; done) | (simp only [List.length_map]; done) | (simp; done) | (simp; omega)); (first | assumption | exact map_len (fun _ => rfl))))); exact rfl) | (apply RunK.callT; exact rfl; exact he; (repeat (first | exact ArgsLe.nil | refine ArgsLe.cons ?_ ?_ | exact ArgLe.v _ | exact ArgLe.sl _ _ _ _ | exact ArgLe.nil _ | exact ArgLe.nil' | (apply ArgLe.bsl; exact rfl; (first | exact rfl | (rw [List.length_map]; done) | (simp only [List.length_map]; done) | (simp; done) | (simp; omega)); (first | assumption | exact map_len (fun _ => rfl))))); exact rfl) | (apply RunK.callS; exact rfl; exact hcy; (repeat (first | exact ArgsLe.nil | refine ArgsLe.cons ?_ ?_ | exact ArgLe.v _ | exact ArgLe.sl _ _ _ _ | exact ArgLe.nil _ | exact ArgLe.nil' | (apply ArgLe.bsl; exact rfl; (first | exact rfl | (rw [List.length_map]; done) | (simp only [List.length_map]; done) | (simp; done) | (simp; omega)); (first | assumption | exact map_len (fun _ => rfl))))); exact rfl) | (apply RunK.callS; exact rfl; exact awake30; (repeat (first | exact ArgsLe.nil | refine ArgsLe.cons ?_ ?_ | exact ArgLe.v _ | exact ArgLe.sl _ _ _ _ | exact ArgLe.nil _ | exact ArgLe.nil' | (apply ArgLe.bsl; exact rfl; (first | exact rfl | (rw [List.length_map]; done) | (simp only [List.length_map]; done) | (simp; done) | (simp; omega)); (first | assumption | exact map_len (fun _ => rfl))))); exact rfl) | (apply RunK.conv x.user.toNat Try.underlying3 Try.underlying37 (.inr rfl); exact rfl; exact rfl; exact hun; omega) | (apply RunK.bin; exact rfl; exact rfl; exact rfl; exact hsh _ _ _) | (apply RunK.bin; exact rfl; exact rfl; exact rfl; exact runBits (.inr (.inl rfl)) hor) | (apply RunK.bin; exact rfl; exact rfl; exact rfl; subst hev; exact hne _ _ ⟨3, x.user, x.kind, x.rect, done, Z⟩) | (apply RunK.bin; exact rfl; exact rfl; exact rfl; exact heq _ _ V)
    | refine Wt.seq ?_
    | (apply Wt.regionK; exact rfl)
    | refine Wt.ret ?_
    | refine Wt.skip ?_
    | refine RunK.nil ?_
    | (apply RunK.moveV; exact rfl; exact rfl)
    | (apply RunK.load1; exact rfl; exact rfl; exact rfl; exact rfl)
    | (apply RunK.field; exact rfl; exact rfl)
    | (apply RunK.assignV; exact rfl; exact rfl)
    | (apply RunK.box; exact rfl; exact rfl; apply Cells.eq; (first | exact Cells.agg _ | exact Cells.int _ _ | exact Cells.bool _ | exact Cells.one _ rfl); exact rfl)
    | (apply RunK.alloc; exact rfl; apply Cells.eq; (first | exact Cells.agg _ | exact Cells.int _ _ | exact Cells.bool _ | exact Cells.one _ rfl); exact rfl)
    | (apply RunK.moveS; exact rfl; exact rfl)
    | (apply RunK.moveT; exact rfl; exact rfl)
    | (apply RunK.loadR; exact rfl; exact rfl; exact rfl; exact rfl; (apply cut_eq; repeat (first | exact Cut.nil _ | apply Cut.cons | apply Cut.skip)))
    | (apply RunK.pickF; exact rfl; exact rfl; exact rfl)
    | (apply RunK.geq; exact rfl; exact rfl; exact rfl)
    | (apply RunK.lss; exact rfl; exact rfl; exact rfl)
    | (apply RunK.gtr; exact rfl; exact rfl; exact rfl)
    | (apply RunK.eql; exact rfl; exact rfl; exact rfl)
    | (apply RunK.neq; exact rfl; exact rfl; exact rfl)
    | (apply RunK.not; exact rfl; exact rfl)
    | (apply RunK.len; exact rfl; exact rfl)
    | (apply RunK.extract; exact rfl; exact rfl; exact rfl)
    | (apply RunK.build; exact rfl; (repeat (first | exact PartsOk.nil | (apply PartsOk.cons; exact rfl))); (repeat (first | exact fill_nil | (apply fill_cons; exact rfl; (first | exact Cells.agg _ | exact Cells.int _ _ | exact Cells.bool _ | exact Cells.one _ rfl); exact rfl; (repeat (first | exact Upd.nil _ | apply Upd.cons | apply Upd.skip))))))
    | (apply RunK.store; exact rfl; exact rfl; exact rfl; exact rfl; exact rfl; exact rfl; exact rfl; apply upd_eq; exact rfl; (first | exact Cells.agg _ | exact Cells.int _ _ | exact Cells.bool _ | exact Cells.one _ rfl); (repeat (first | exact Upd.nil _ | apply Upd.cons | apply Upd.skip)))
    | (apply RunK.guard; exact rfl; exact rfl; exact rfl; all_goals (intro hg; (first | exact absurd hg (by decide) | skip); (first | (with_reducible replace hg := not_t hg) | (with_reducible replace hg := not_f hg) | skip); (first | (with_reducible replace hg := dec_t hg) | (with_reducible replace hg := dec_f hg) | skip); (first | (with_reducible exact absurd rfl hg) | skip); (repeat rw [List.length_map] at hg); try (exfalso; omega)))
    | (apply Wt.cond; exact rfl; all_goals (intro hg; (first | exact absurd hg (by decide) | skip); (first | (with_reducible replace hg := not_t hg) | (with_reducible replace hg := not_f hg) | skip); (first | (with_reducible replace hg := dec_t hg) | (with_reducible replace hg := dec_f hg) | skip); (first | (with_reducible exact absurd rfl hg) | skip); (repeat rw [List.length_map] at hg); try (exfalso; omega))))
  all_goals (apply ResOk.v1; exact rfl; exact rfl)
set_option maxRecDepth 100000 in
theorem own_ok01 (x : Opn) (done : Bool) (a : List Rule) (l : List Grant) (s : ByteArray) (L : goodL a l) (Q : ownPre x a l s) (G : goodX 3 x) (h3 : ¬x.kind = 9) (h5 : rectOk x.rect = true) (hy : okP { x with input := s }) : OwnSays x done a l s := by
  have hca := refCheck 64 a L.la L.oa
  rw [show (checkS 64 a).2 = chkE a from rfl, Q.ea] at hca
  have hcl := refGCheck 64 l L.ll L.ol
  rw [show (checkG 64 l).2 = chkG l from rfl, Q.el] at hcl
  have q1 := Q.la
  have q2 := Q.ll
  have q3 := Q.si
  have q4 := Q.sx
  generalize (checkS 64 a).1 = q at *
  generalize (checkG 64 l).1 = q2 at *
  have hc := refCheckO x (by omega)
  rw [if_pos G.ok] at hc
  have hm := refMutates x
  rw [G.mu] at hm
  have huser := G.user
  have hr := range x.rect
  rw [h5] at hr
  have he := ev_ok0 3 x done a l (by omega) G L Q.ea Q.el h3 h5
  have hcy := refCheckO { x with input := s } (by show s.size < _; omega)
  rw [if_pos hy] at hcy
  have he2 := ev_ok0 3 { x with input := s } done a l (by show s.size < _; omega) ⟨G.step, hy, G.mu, G.user⟩ L Q.ea Q.el h3 h5
  have hb2 := two_pow_lt64 (u := x.user.toNat) (by omega)
  have hor := u64_or_nat (overS x.rect a).1.own (2 ^ x.user.toNat) (overS_bd (r := x.rect) (l := a)).2 hb2
  have ho := regOver x.rect a L.la L.oa
  have ho2 : (overS x.rect a).2 = 0 := by rw [overS_ok h5 Q.ea]
  rw [ho2] at ho
  have hsh : ∀ t o o2, BinRun Try.prog .shl t o o2 (.int .u64 1) (.int .u64 (x.user.toNat : Int)) (.int .u64 ((2 ^ x.user.toNat : Nat) : Int)) := fun t o o2 => by
    have := BinRun.shl (P := Try.prog) (t := t) (x := o) (y := o2) (k := .u64) (k' := .u64) (a := 1) (b := (x.user.toNat : Int)) (by omega)
    rwa [show ((x.user.toNat : Int)).toNat = x.user.toNat from rfl, one_shl (by omega)] at this
  unfold evE at he he2
  try dsimp only at he he2
  have hun : x.user = (x.user.toNat : Int) := by omega
  generalize (((overS x.rect a).1.own ||| 2 ^ x.user.toNat : Nat) : Nat) = Z at *
  generalize ((2 ^ x.user.toNat : Nat) : Int) = B2 at *
  generalize (overS x.rect a).1 = O at *
  obtain ⟨o1, o2, o3⟩ := O
  dsimp only at ho hor
  have hne : ∀ o o2 (ev : Event), BinRun Try.prog .neq 68 o o2 ev.v ev.v (.bool false) := fun o o2 ev => by
    have := neqEvent (x := o) (y := o2) ev ev
    rwa [decide_eq_true rfl] at this
  have heq : ∀ o o2 (ev : Event), BinRun Try.prog .eql 68 o o2 ev.v ev.v (.bool true) := fun o o2 ev => by
    have := eqlEvent (x := o) (y := o2) ev ev
    rwa [decide_eq_true rfl] at this
  generalize hev : (⟨3, x.user, x.kind, x.rect, done, Z⟩ : Event) = V at he he2
  refine pure_of_wt Try.func10 rfl (by decide) _ Try.ntmps10 rfl Try.results10 fun w0 => ?_
  repeat' (first
    | (apply RunK.callT; exact rfl; exact hca; (repeat (first | exact ArgsLe.nil | refine ArgsLe.cons ?_ ?_ | exact ArgLe.v _ | exact ArgLe.sl _ _ _ _ | exact ArgLe.nil _ | exact ArgLe.nil' | (apply ArgLe.bsl; exact rfl; (first | exact rfl | (rw [List.length_map]; done) | (simp only [List.length_map]; done) | (simp; done) | (simp; omega)); (first | assumption | exact map_len (fun _ => rfl))))); exact rfl) | (apply RunK.callT; exact rfl; exact hcl; (repeat (first | exact ArgsLe.nil | refine ArgsLe.cons ?_ ?_ | exact ArgLe.v _ | exact ArgLe.sl _ _ _ _ | exact ArgLe.nil _ | exact ArgLe.nil' | (apply ArgLe.bsl; exact rfl; (first | exact rfl | (rw [List.length_map]; done) | (simp only [List.length_map]; done) | (simp; done) | (simp; omega)); (first | assumption | exact map_len (fun _ => rfl))))); exact rfl) | (apply RunK.callS; exact rfl; exact hc; (repeat (first | exact ArgsLe.nil | refine ArgsLe.cons ?_ ?_ | exact ArgLe.v _ | exact ArgLe.sl _ _ _ _ | exact ArgLe.nil _ | exact ArgLe.nil' | (apply ArgLe.bsl; exact rfl; (first | exact rfl | (rw [List.length_map]; done) | (simp only [List.length_map]; done) | (simp; done) | (simp; omega)); (first | assumption | exact map_len (fun _ => rfl))))); exact rfl) | (apply RunK.callS; exact rfl; exact hm; (repeat (first | exact ArgsLe.nil | refine ArgsLe.cons ?_ ?_ | exact ArgLe.v _ | exact ArgLe.sl _ _ _ _ | exact ArgLe.nil _ | exact ArgLe.nil' | (apply ArgLe.bsl; exact rfl; (first | exact rfl | (rw [List.length_map]; done) | (simp only [List.length_map]; done) | (simp; done) | (simp; omega)); (first | assumption | exact map_len (fun _ => rfl))))); exact rfl) | (apply RunK.lenStr Try.underlying9; exact rfl; exact rfl) | (apply RunK.callS; exact rfl; exact hr; (repeat (first | exact ArgsLe.nil | refine ArgsLe.cons ?_ ?_ | exact ArgLe.v _ | exact ArgLe.sl _ _ _ _ | exact ArgLe.nil _ | exact ArgLe.nil' | (apply ArgLe.bsl; exact rfl; (first | exact rfl | (rw [List.length_map]; done) | (simp only [List.length_map]; done) | (simp; done) | (simp; omega)); (first | assumption | exact map_len (fun _ => rfl))))); exact rfl) | (apply RunK.callT; exact rfl; exact ho; (repeat (first | exact ArgsLe.nil | refine ArgsLe.cons ?_ ?_ | exact ArgLe.v _ | exact ArgLe.sl _ _ _ _ | exact ArgLe.nil _ | exact ArgLe.nil' | (apply ArgLe.bsl; exact rfl; (first | exact rfl | (rw [List.length_map]; done) | (simp only [List.length_map]; done) | (simp; done) | (simp; omega)); (first | assumption | exact map_len (fun _ => rfl))))); exact rfl) | (apply RunK.callT; exact rfl; exact he; (repeat (first | exact ArgsLe.nil | refine ArgsLe.cons ?_ ?_ | exact ArgLe.v _ | exact ArgLe.sl _ _ _ _ | exact ArgLe.nil _ | exact ArgLe.nil' | (apply ArgLe.bsl; exact rfl; (first | exact rfl | (rw [List.length_map]; done) | (simp only [List.length_map]; done) | (simp; done) | (simp; omega)); (first | assumption | exact map_len (fun _ => rfl))))); exact rfl) | (apply RunK.callS; exact rfl; exact hcy; (repeat (first | exact ArgsLe.nil | refine ArgsLe.cons ?_ ?_ | exact ArgLe.v _ | exact ArgLe.sl _ _ _ _ | exact ArgLe.nil _ | exact ArgLe.nil' | (apply ArgLe.bsl; exact rfl; (first | exact rfl | (rw [List.length_map]; done) | (simp only [List.length_map]; done) | (simp; done) | (simp; omega)); (first | assumption | exact map_len (fun _ => rfl))))); exact rfl) | (apply RunK.callS; exact rfl; exact awake30; (repeat (first | exact ArgsLe.nil | refine ArgsLe.cons ?_ ?_ | exact ArgLe.v _ | exact ArgLe.sl _ _ _ _ | exact ArgLe.nil _ | exact ArgLe.nil' | (apply ArgLe.bsl; exact rfl; (first | exact rfl | (rw [List.length_map]; done) | (simp only [List.length_map]; done) | (simp; done) | (simp; omega)); (first | assumption | exact map_len (fun _ => rfl))))); exact rfl) | (apply RunK.callT; exact rfl; exact he2; (repeat (first | exact ArgsLe.nil | refine ArgsLe.cons ?_ ?_ | exact ArgLe.v _ | exact ArgLe.sl _ _ _ _ | exact ArgLe.nil _ | exact ArgLe.nil' | (apply ArgLe.bsl; exact rfl; (first | exact rfl | (rw [List.length_map]; done) | (simp only [List.length_map]; done) | (simp; done) | (simp; omega)); (first | assumption | exact map_len (fun _ => rfl))))); exact rfl) | (apply RunK.conv x.user.toNat Try.underlying3 Try.underlying37 (.inr rfl); exact rfl; exact rfl; exact hun; omega) | (apply RunK.bin; exact rfl; exact rfl; exact rfl; exact hsh _ _ _) | (apply RunK.bin; exact rfl; exact rfl; exact rfl; exact runBits (.inr (.inl rfl)) hor) | (apply RunK.bin; exact rfl; exact rfl; exact rfl; subst hev; exact hne _ _ ⟨3, x.user, x.kind, x.rect, done, Z⟩) | (apply RunK.bin; exact rfl; exact rfl; exact rfl; exact heq _ _ V)
    | refine Wt.seq ?_
    | (apply Wt.regionK; exact rfl)
    | refine Wt.ret ?_
    | refine Wt.skip ?_
    | refine RunK.nil ?_
    | (apply RunK.moveV; exact rfl; exact rfl)
    | (apply RunK.load1; exact rfl; exact rfl; exact rfl; exact rfl)
    | (apply RunK.field; exact rfl; exact rfl)
    | (apply RunK.assignV; exact rfl; exact rfl)
    | (apply RunK.box; exact rfl; exact rfl; apply Cells.eq; (first | exact Cells.agg _ | exact Cells.int _ _ | exact Cells.bool _ | exact Cells.one _ rfl); exact rfl)
    | (apply RunK.alloc; exact rfl; apply Cells.eq; (first | exact Cells.agg _ | exact Cells.int _ _ | exact Cells.bool _ | exact Cells.one _ rfl); exact rfl)
    | (apply RunK.moveS; exact rfl; exact rfl)
    | (apply RunK.moveT; exact rfl; exact rfl)
    | (apply RunK.loadR; exact rfl; exact rfl; exact rfl; exact rfl; (apply cut_eq; repeat (first | exact Cut.nil _ | apply Cut.cons | apply Cut.skip)))
    | (apply RunK.pickT; exact rfl; exact rfl; exact rfl)
    | (apply RunK.pickF; exact rfl; exact rfl; exact rfl)
    | (apply RunK.geq; exact rfl; exact rfl; exact rfl)
    | (apply RunK.lss; exact rfl; exact rfl; exact rfl)
    | (apply RunK.gtr; exact rfl; exact rfl; exact rfl)
    | (apply RunK.eql; exact rfl; exact rfl; exact rfl)
    | (apply RunK.neq; exact rfl; exact rfl; exact rfl)
    | (apply RunK.not; exact rfl; exact rfl)
    | (apply RunK.len; exact rfl; exact rfl)
    | (apply RunK.extract; exact rfl; exact rfl; exact rfl)
    | (apply RunK.build; exact rfl; (repeat (first | exact PartsOk.nil | (apply PartsOk.cons; exact rfl))); (repeat (first | exact fill_nil | (apply fill_cons; exact rfl; (first | exact Cells.agg _ | exact Cells.int _ _ | exact Cells.bool _ | exact Cells.one _ rfl); exact rfl; (repeat (first | exact Upd.nil _ | apply Upd.cons | apply Upd.skip))))))
    | (apply RunK.store; exact rfl; exact rfl; exact rfl; exact rfl; exact rfl; exact rfl; exact rfl; apply upd_eq; exact rfl; (first | exact Cells.agg _ | exact Cells.int _ _ | exact Cells.bool _ | exact Cells.one _ rfl); (repeat (first | exact Upd.nil _ | apply Upd.cons | apply Upd.skip)))
    | (apply RunK.guard; exact rfl; exact rfl; exact rfl; all_goals (intro hg; (first | exact absurd hg (by decide) | skip); (first | (with_reducible replace hg := not_t hg) | (with_reducible replace hg := not_f hg) | skip); (first | (with_reducible replace hg := dec_t hg) | (with_reducible replace hg := dec_f hg) | skip); (first | (with_reducible exact absurd rfl hg) | skip); (repeat rw [List.length_map] at hg); try (exfalso; omega)))
    | (apply Wt.cond; exact rfl; all_goals (intro hg; (first | exact absurd hg (by decide) | skip); (first | (with_reducible replace hg := not_t hg) | (with_reducible replace hg := not_f hg) | skip); (first | (with_reducible replace hg := dec_t hg) | (with_reducible replace hg := dec_f hg) | skip); (first | (with_reducible exact absurd rfl hg) | skip); (repeat rw [List.length_map] at hg); try (exfalso; omega))))
  all_goals (apply ResOk.v1; exact rfl; exact rfl)
set_option maxRecDepth 100000 in
theorem own_range9 (x : Opn) (done : Bool) (a : List Rule) (l : List Grant) (s : ByteArray) (L : goodL a l) (Q : ownPre x a l s) (G : goodX 3 x) (h3 : x.kind = 9) (i : Nat) (hi : x.index = i) (g : Grant) (hgi : l[i]? = some g) (h5 : rectOk g.rect = false) : OwnSays x done a l s := by
  have hca := refCheck 64 a L.la L.oa
  rw [show (checkS 64 a).2 = chkE a from rfl, Q.ea] at hca
  have hcl := refGCheck 64 l L.ll L.ol
  rw [show (checkG 64 l).2 = chkG l from rfl, Q.el] at hcl
  have q1 := Q.la
  have q2 := Q.ll
  have q3 := Q.si
  have q4 := Q.sx
  generalize (checkS 64 a).1 = q at *
  generalize (checkG 64 l).1 = q2 at *
  have hc := refCheckO x (by omega)
  rw [if_pos G.ok] at hc
  have hm := refMutates x
  rw [G.mu] at hm
  have huser := G.user
  have hil := lt_of_get hgi
  have hx := get_map (f := Grant.vals) hgi
  have hr := range g.rect
  rw [h5] at hr
  refine pure_of_wt Try.func10 rfl (by decide) _ Try.ntmps10 rfl Try.results10 fun w0 => ?_
  repeat' (first
    | (apply RunK.callT; exact rfl; exact hca; (repeat (first | exact ArgsLe.nil | refine ArgsLe.cons ?_ ?_ | exact ArgLe.v _ | exact ArgLe.sl _ _ _ _ | exact ArgLe.nil _ | exact ArgLe.nil' | (apply ArgLe.bsl; exact rfl; (first | exact rfl | (rw [List.length_map]; done) | (simp only [List.length_map]; done) | (simp; done) | (simp; omega)); (first | assumption | exact map_len (fun _ => rfl))))); exact rfl) | (apply RunK.callT; exact rfl; exact hcl; (repeat (first | exact ArgsLe.nil | refine ArgsLe.cons ?_ ?_ | exact ArgLe.v _ | exact ArgLe.sl _ _ _ _ | exact ArgLe.nil _ | exact ArgLe.nil' | (apply ArgLe.bsl; exact rfl; (first | exact rfl | (rw [List.length_map]; done) | (simp only [List.length_map]; done) | (simp; done) | (simp; omega)); (first | assumption | exact map_len (fun _ => rfl))))); exact rfl) | (apply RunK.callS; exact rfl; exact hc; (repeat (first | exact ArgsLe.nil | refine ArgsLe.cons ?_ ?_ | exact ArgLe.v _ | exact ArgLe.sl _ _ _ _ | exact ArgLe.nil _ | exact ArgLe.nil' | (apply ArgLe.bsl; exact rfl; (first | exact rfl | (rw [List.length_map]; done) | (simp only [List.length_map]; done) | (simp; done) | (simp; omega)); (first | assumption | exact map_len (fun _ => rfl))))); exact rfl) | (apply RunK.callS; exact rfl; exact hm; (repeat (first | exact ArgsLe.nil | refine ArgsLe.cons ?_ ?_ | exact ArgLe.v _ | exact ArgLe.sl _ _ _ _ | exact ArgLe.nil _ | exact ArgLe.nil' | (apply ArgLe.bsl; exact rfl; (first | exact rfl | (rw [List.length_map]; done) | (simp only [List.length_map]; done) | (simp; done) | (simp; omega)); (first | assumption | exact map_len (fun _ => rfl))))); exact rfl) | (apply RunK.lenStr Try.underlying9; exact rfl; exact rfl) | (apply RunK.index (j := i); exact rfl; exact rfl; exact rfl; exact hi; (rw [List.length_map]; exact hil)) | (apply RunK.callS; exact rfl; exact hr; (repeat (first | exact ArgsLe.nil | refine ArgsLe.cons ?_ ?_ | exact ArgLe.v _ | exact ArgLe.sl _ _ _ _ | exact ArgLe.nil _ | exact ArgLe.nil' | (apply ArgLe.bsl; exact rfl; (first | exact rfl | (rw [List.length_map]; done) | (simp only [List.length_map]; done) | (simp; done) | (simp; omega)); (first | assumption | exact map_len (fun _ => rfl))))); exact rfl)
    | refine Wt.seq ?_
    | (apply Wt.regionK; exact rfl)
    | refine Wt.ret ?_
    | refine Wt.skip ?_
    | refine RunK.nil ?_
    | (apply RunK.moveV; exact rfl; exact rfl)
    | (apply RunK.load1; exact rfl; exact rfl; exact rfl; exact rfl)
    | (apply RunK.field; exact rfl; exact rfl)
    | (apply RunK.fieldE; exact rfl; exact rfl)
    | (apply RunK.assignV; exact rfl; exact rfl)
    | (apply RunK.box; exact rfl; exact rfl; apply Cells.eq; (first | exact Cells.agg _ | exact Cells.int _ _ | exact Cells.bool _ | exact Cells.one _ rfl); exact rfl)
    | (apply RunK.alloc; exact rfl; apply Cells.eq; (first | exact Cells.agg _ | exact Cells.int _ _ | exact Cells.bool _ | exact Cells.one _ rfl); exact rfl)
    | (apply RunK.moveS; exact rfl; exact rfl)
    | (apply RunK.moveT; exact rfl; exact rfl)
    | (apply RunK.loadR; exact rfl; exact rfl; exact rfl; exact rfl; (apply cut_eq; repeat (first | exact Cut.nil _ | apply Cut.cons | apply Cut.skip)))
    | (apply RunK.loadER; exact rfl; exact rfl; assumption; exact rfl; (apply cut_eq; repeat (first | exact Cut.nil _ | apply Cut.cons | apply Cut.skip)))
    | (apply RunK.pickF; exact rfl; exact rfl; exact rfl)
    | (apply RunK.geq; exact rfl; exact rfl; exact rfl)
    | (apply RunK.lss; exact rfl; exact rfl; exact rfl)
    | (apply RunK.gtr; exact rfl; exact rfl; exact rfl)
    | (apply RunK.eql; exact rfl; exact rfl; exact rfl)
    | (apply RunK.neq; exact rfl; exact rfl; exact rfl)
    | (apply RunK.not; exact rfl; exact rfl)
    | (apply RunK.len; exact rfl; exact rfl)
    | (apply RunK.extract; exact rfl; exact rfl; exact rfl)
    | (apply RunK.store; exact rfl; exact rfl; exact rfl; exact rfl; exact rfl; exact rfl; exact rfl; apply upd_eq; exact rfl; (first | exact Cells.agg _ | exact Cells.int _ _ | exact Cells.bool _ | exact Cells.one _ rfl); (repeat (first | exact Upd.nil _ | apply Upd.cons | apply Upd.skip)))
    | (apply RunK.guard; exact rfl; exact rfl; exact rfl; all_goals (intro hg; (first | exact absurd hg (by decide) | skip); (first | (with_reducible replace hg := not_t hg) | (with_reducible replace hg := not_f hg) | skip); (first | (with_reducible replace hg := dec_t hg) | (with_reducible replace hg := dec_f hg) | skip); (first | (with_reducible exact absurd rfl hg) | skip); (repeat rw [List.length_map] at hg); try (exfalso; omega)))
    | (apply Wt.cond; exact rfl; all_goals (intro hg; (first | exact absurd hg (by decide) | skip); (first | (with_reducible replace hg := not_t hg) | (with_reducible replace hg := not_f hg) | skip); (first | (with_reducible replace hg := dec_t hg) | (with_reducible replace hg := dec_f hg) | skip); (first | (with_reducible exact absurd rfl hg) | skip); (repeat rw [List.length_map] at hg); try (exfalso; omega))))
  all_goals (apply ResOk.v1; exact rfl; exact rfl)
set_option maxRecDepth 100000 in
theorem own_ok90 (x : Opn) (done : Bool) (a : List Rule) (l : List Grant) (s : ByteArray) (L : goodL a l) (Q : ownPre x a l s) (G : goodX 3 x) (h3 : x.kind = 9) (i : Nat) (hi : x.index = i) (g : Grant) (hgi : l[i]? = some g) (h5 : rectOk g.rect = true) (hy : ¬okP { x with input := s }) : OwnSays x done a l s := by
  have hca := refCheck 64 a L.la L.oa
  rw [show (checkS 64 a).2 = chkE a from rfl, Q.ea] at hca
  have hcl := refGCheck 64 l L.ll L.ol
  rw [show (checkG 64 l).2 = chkG l from rfl, Q.el] at hcl
  have q1 := Q.la
  have q2 := Q.ll
  have q3 := Q.si
  have q4 := Q.sx
  generalize (checkS 64 a).1 = q at *
  generalize (checkG 64 l).1 = q2 at *
  have hc := refCheckO x (by omega)
  rw [if_pos G.ok] at hc
  have hm := refMutates x
  rw [G.mu] at hm
  have huser := G.user
  have hil := lt_of_get hgi
  have hx := get_map (f := Grant.vals) hgi
  have hr := range g.rect
  rw [h5] at hr
  have he := ev_ok9 3 x done a l (by omega) G L Q.ea Q.el h3 i hi g hgi h5
  have hcy := refCheckO { x with input := s } (by show s.size < _; omega)
  rw [if_neg hy] at hcy
  have hb2 := two_pow_lt64 (u := x.user.toNat) (by omega)
  have hor := u64_or_nat (overS g.rect a).1.own (2 ^ x.user.toNat) (overS_bd (r := g.rect) (l := a)).2 hb2
  have ho := regOver g.rect a L.la L.oa
  have ho2 : (overS g.rect a).2 = 0 := by rw [overS_ok h5 Q.ea]
  rw [ho2] at ho
  have hsh : ∀ t o o2, BinRun Try.prog .shl t o o2 (.int .u64 1) (.int .u64 (x.user.toNat : Int)) (.int .u64 ((2 ^ x.user.toNat : Nat) : Int)) := fun t o o2 => by
    have := BinRun.shl (P := Try.prog) (t := t) (x := o) (y := o2) (k := .u64) (k' := .u64) (a := 1) (b := (x.user.toNat : Int)) (by omega)
    rwa [show ((x.user.toNat : Int)).toNat = x.user.toNat from rfl, one_shl (by omega)] at this
  unfold evE at he
  try dsimp only at he
  have hun : x.user = (x.user.toNat : Int) := by omega
  generalize (((overS g.rect a).1.own ||| 2 ^ x.user.toNat : Nat) : Nat) = Z at *
  generalize ((2 ^ x.user.toNat : Nat) : Int) = B2 at *
  generalize (overS g.rect a).1 = O at *
  obtain ⟨o1, o2, o3⟩ := O
  dsimp only at ho hor
  have hne : ∀ o o2 (ev : Event), BinRun Try.prog .neq 68 o o2 ev.v ev.v (.bool false) := fun o o2 ev => by
    have := neqEvent (x := o) (y := o2) ev ev
    rwa [decide_eq_true rfl] at this
  have heq : ∀ o o2 (ev : Event), BinRun Try.prog .eql 68 o o2 ev.v ev.v (.bool true) := fun o o2 ev => by
    have := eqlEvent (x := o) (y := o2) ev ev
    rwa [decide_eq_true rfl] at this
  generalize hev : (⟨3, x.user, x.kind, g.rect, done, Z⟩ : Event) = V at he
  refine pure_of_wt Try.func10 rfl (by decide) _ Try.ntmps10 rfl Try.results10 fun w0 => ?_
  repeat' (first
    | (apply RunK.callT; exact rfl; exact hca; (repeat (first | exact ArgsLe.nil | refine ArgsLe.cons ?_ ?_ | exact ArgLe.v _ | exact ArgLe.sl _ _ _ _ | exact ArgLe.nil _ | exact ArgLe.nil' | (apply ArgLe.bsl; exact rfl; (first | exact rfl | (rw [List.length_map]; done) | (simp only [List.length_map]; done) | (simp; done) | (simp; omega)); (first | assumption | exact map_len (fun _ => rfl))))); exact rfl) | (apply RunK.callT; exact rfl; exact hcl; (repeat (first | exact ArgsLe.nil | refine ArgsLe.cons ?_ ?_ | exact ArgLe.v _ | exact ArgLe.sl _ _ _ _ | exact ArgLe.nil _ | exact ArgLe.nil' | (apply ArgLe.bsl; exact rfl; (first | exact rfl | (rw [List.length_map]; done) | (simp only [List.length_map]; done) | (simp; done) | (simp; omega)); (first | assumption | exact map_len (fun _ => rfl))))); exact rfl) | (apply RunK.callS; exact rfl; exact hc; (repeat (first | exact ArgsLe.nil | refine ArgsLe.cons ?_ ?_ | exact ArgLe.v _ | exact ArgLe.sl _ _ _ _ | exact ArgLe.nil _ | exact ArgLe.nil' | (apply ArgLe.bsl; exact rfl; (first | exact rfl | (rw [List.length_map]; done) | (simp only [List.length_map]; done) | (simp; done) | (simp; omega)); (first | assumption | exact map_len (fun _ => rfl))))); exact rfl) | (apply RunK.callS; exact rfl; exact hm; (repeat (first | exact ArgsLe.nil | refine ArgsLe.cons ?_ ?_ | exact ArgLe.v _ | exact ArgLe.sl _ _ _ _ | exact ArgLe.nil _ | exact ArgLe.nil' | (apply ArgLe.bsl; exact rfl; (first | exact rfl | (rw [List.length_map]; done) | (simp only [List.length_map]; done) | (simp; done) | (simp; omega)); (first | assumption | exact map_len (fun _ => rfl))))); exact rfl) | (apply RunK.lenStr Try.underlying9; exact rfl; exact rfl) | (apply RunK.index (j := i); exact rfl; exact rfl; exact rfl; exact hi; (rw [List.length_map]; exact hil)) | (apply RunK.callS; exact rfl; exact hr; (repeat (first | exact ArgsLe.nil | refine ArgsLe.cons ?_ ?_ | exact ArgLe.v _ | exact ArgLe.sl _ _ _ _ | exact ArgLe.nil _ | exact ArgLe.nil' | (apply ArgLe.bsl; exact rfl; (first | exact rfl | (rw [List.length_map]; done) | (simp only [List.length_map]; done) | (simp; done) | (simp; omega)); (first | assumption | exact map_len (fun _ => rfl))))); exact rfl) | (apply RunK.callT; exact rfl; exact ho; (repeat (first | exact ArgsLe.nil | refine ArgsLe.cons ?_ ?_ | exact ArgLe.v _ | exact ArgLe.sl _ _ _ _ | exact ArgLe.nil _ | exact ArgLe.nil' | (apply ArgLe.bsl; exact rfl; (first | exact rfl | (rw [List.length_map]; done) | (simp only [List.length_map]; done) | (simp; done) | (simp; omega)); (first | assumption | exact map_len (fun _ => rfl))))); exact rfl) | (apply RunK.callT; exact rfl; exact he; (repeat (first | exact ArgsLe.nil | refine ArgsLe.cons ?_ ?_ | exact ArgLe.v _ | exact ArgLe.sl _ _ _ _ | exact ArgLe.nil _ | exact ArgLe.nil' | (apply ArgLe.bsl; exact rfl; (first | exact rfl | (rw [List.length_map]; done) | (simp only [List.length_map]; done) | (simp; done) | (simp; omega)); (first | assumption | exact map_len (fun _ => rfl))))); exact rfl) | (apply RunK.callS; exact rfl; exact hcy; (repeat (first | exact ArgsLe.nil | refine ArgsLe.cons ?_ ?_ | exact ArgLe.v _ | exact ArgLe.sl _ _ _ _ | exact ArgLe.nil _ | exact ArgLe.nil' | (apply ArgLe.bsl; exact rfl; (first | exact rfl | (rw [List.length_map]; done) | (simp only [List.length_map]; done) | (simp; done) | (simp; omega)); (first | assumption | exact map_len (fun _ => rfl))))); exact rfl) | (apply RunK.callS; exact rfl; exact awake30; (repeat (first | exact ArgsLe.nil | refine ArgsLe.cons ?_ ?_ | exact ArgLe.v _ | exact ArgLe.sl _ _ _ _ | exact ArgLe.nil _ | exact ArgLe.nil' | (apply ArgLe.bsl; exact rfl; (first | exact rfl | (rw [List.length_map]; done) | (simp only [List.length_map]; done) | (simp; done) | (simp; omega)); (first | assumption | exact map_len (fun _ => rfl))))); exact rfl) | (apply RunK.conv x.user.toNat Try.underlying3 Try.underlying37 (.inr rfl); exact rfl; exact rfl; exact hun; omega) | (apply RunK.bin; exact rfl; exact rfl; exact rfl; exact hsh _ _ _) | (apply RunK.bin; exact rfl; exact rfl; exact rfl; exact runBits (.inr (.inl rfl)) hor) | (apply RunK.bin; exact rfl; exact rfl; exact rfl; subst hev; exact hne _ _ ⟨3, x.user, x.kind, g.rect, done, Z⟩) | (apply RunK.bin; exact rfl; exact rfl; exact rfl; exact heq _ _ V)
    | refine Wt.seq ?_
    | (apply Wt.regionK; exact rfl)
    | refine Wt.ret ?_
    | refine Wt.skip ?_
    | refine RunK.nil ?_
    | (apply RunK.moveV; exact rfl; exact rfl)
    | (apply RunK.load1; exact rfl; exact rfl; exact rfl; exact rfl)
    | (apply RunK.field; exact rfl; exact rfl)
    | (apply RunK.fieldE; exact rfl; exact rfl)
    | (apply RunK.assignV; exact rfl; exact rfl)
    | (apply RunK.box; exact rfl; exact rfl; apply Cells.eq; (first | exact Cells.agg _ | exact Cells.int _ _ | exact Cells.bool _ | exact Cells.one _ rfl); exact rfl)
    | (apply RunK.alloc; exact rfl; apply Cells.eq; (first | exact Cells.agg _ | exact Cells.int _ _ | exact Cells.bool _ | exact Cells.one _ rfl); exact rfl)
    | (apply RunK.moveS; exact rfl; exact rfl)
    | (apply RunK.moveT; exact rfl; exact rfl)
    | (apply RunK.loadR; exact rfl; exact rfl; exact rfl; exact rfl; (apply cut_eq; repeat (first | exact Cut.nil _ | apply Cut.cons | apply Cut.skip)))
    | (apply RunK.loadER; exact rfl; exact rfl; assumption; exact rfl; (apply cut_eq; repeat (first | exact Cut.nil _ | apply Cut.cons | apply Cut.skip)))
    | (apply RunK.pickF; exact rfl; exact rfl; exact rfl)
    | (apply RunK.geq; exact rfl; exact rfl; exact rfl)
    | (apply RunK.lss; exact rfl; exact rfl; exact rfl)
    | (apply RunK.gtr; exact rfl; exact rfl; exact rfl)
    | (apply RunK.eql; exact rfl; exact rfl; exact rfl)
    | (apply RunK.neq; exact rfl; exact rfl; exact rfl)
    | (apply RunK.not; exact rfl; exact rfl)
    | (apply RunK.len; exact rfl; exact rfl)
    | (apply RunK.extract; exact rfl; exact rfl; exact rfl)
    | (apply RunK.build; exact rfl; (repeat (first | exact PartsOk.nil | (apply PartsOk.cons; exact rfl))); (repeat (first | exact fill_nil | (apply fill_cons; exact rfl; (first | exact Cells.agg _ | exact Cells.int _ _ | exact Cells.bool _ | exact Cells.one _ rfl); exact rfl; (repeat (first | exact Upd.nil _ | apply Upd.cons | apply Upd.skip))))))
    | (apply RunK.store; exact rfl; exact rfl; exact rfl; exact rfl; exact rfl; exact rfl; exact rfl; apply upd_eq; exact rfl; (first | exact Cells.agg _ | exact Cells.int _ _ | exact Cells.bool _ | exact Cells.one _ rfl); (repeat (first | exact Upd.nil _ | apply Upd.cons | apply Upd.skip)))
    | (apply RunK.guard; exact rfl; exact rfl; exact rfl; all_goals (intro hg; (first | exact absurd hg (by decide) | skip); (first | (with_reducible replace hg := not_t hg) | (with_reducible replace hg := not_f hg) | skip); (first | (with_reducible replace hg := dec_t hg) | (with_reducible replace hg := dec_f hg) | skip); (first | (with_reducible exact absurd rfl hg) | skip); (repeat rw [List.length_map] at hg); try (exfalso; omega)))
    | (apply Wt.cond; exact rfl; all_goals (intro hg; (first | exact absurd hg (by decide) | skip); (first | (with_reducible replace hg := not_t hg) | (with_reducible replace hg := not_f hg) | skip); (first | (with_reducible replace hg := dec_t hg) | (with_reducible replace hg := dec_f hg) | skip); (first | (with_reducible exact absurd rfl hg) | skip); (repeat rw [List.length_map] at hg); try (exfalso; omega))))
  all_goals (apply ResOk.v1; exact rfl; exact rfl)
set_option maxRecDepth 100000 in
theorem own_ok91 (x : Opn) (done : Bool) (a : List Rule) (l : List Grant) (s : ByteArray) (L : goodL a l) (Q : ownPre x a l s) (G : goodX 3 x) (h3 : x.kind = 9) (i : Nat) (hi : x.index = i) (g : Grant) (hgi : l[i]? = some g) (h5 : rectOk g.rect = true) (hy : okP { x with input := s }) : OwnSays x done a l s := by
  have hca := refCheck 64 a L.la L.oa
  rw [show (checkS 64 a).2 = chkE a from rfl, Q.ea] at hca
  have hcl := refGCheck 64 l L.ll L.ol
  rw [show (checkG 64 l).2 = chkG l from rfl, Q.el] at hcl
  have q1 := Q.la
  have q2 := Q.ll
  have q3 := Q.si
  have q4 := Q.sx
  generalize (checkS 64 a).1 = q at *
  generalize (checkG 64 l).1 = q2 at *
  have hc := refCheckO x (by omega)
  rw [if_pos G.ok] at hc
  have hm := refMutates x
  rw [G.mu] at hm
  have huser := G.user
  have hil := lt_of_get hgi
  have hx := get_map (f := Grant.vals) hgi
  have hr := range g.rect
  rw [h5] at hr
  have he := ev_ok9 3 x done a l (by omega) G L Q.ea Q.el h3 i hi g hgi h5
  have hcy := refCheckO { x with input := s } (by show s.size < _; omega)
  rw [if_pos hy] at hcy
  have he2 := ev_ok9 3 { x with input := s } done a l (by show s.size < _; omega) ⟨G.step, hy, G.mu, G.user⟩ L Q.ea Q.el h3 i hi g hgi h5
  have hb2 := two_pow_lt64 (u := x.user.toNat) (by omega)
  have hor := u64_or_nat (overS g.rect a).1.own (2 ^ x.user.toNat) (overS_bd (r := g.rect) (l := a)).2 hb2
  have ho := regOver g.rect a L.la L.oa
  have ho2 : (overS g.rect a).2 = 0 := by rw [overS_ok h5 Q.ea]
  rw [ho2] at ho
  have hsh : ∀ t o o2, BinRun Try.prog .shl t o o2 (.int .u64 1) (.int .u64 (x.user.toNat : Int)) (.int .u64 ((2 ^ x.user.toNat : Nat) : Int)) := fun t o o2 => by
    have := BinRun.shl (P := Try.prog) (t := t) (x := o) (y := o2) (k := .u64) (k' := .u64) (a := 1) (b := (x.user.toNat : Int)) (by omega)
    rwa [show ((x.user.toNat : Int)).toNat = x.user.toNat from rfl, one_shl (by omega)] at this
  unfold evE at he he2
  try dsimp only at he he2
  have hun : x.user = (x.user.toNat : Int) := by omega
  generalize (((overS g.rect a).1.own ||| 2 ^ x.user.toNat : Nat) : Nat) = Z at *
  generalize ((2 ^ x.user.toNat : Nat) : Int) = B2 at *
  generalize (overS g.rect a).1 = O at *
  obtain ⟨o1, o2, o3⟩ := O
  dsimp only at ho hor
  have hne : ∀ o o2 (ev : Event), BinRun Try.prog .neq 68 o o2 ev.v ev.v (.bool false) := fun o o2 ev => by
    have := neqEvent (x := o) (y := o2) ev ev
    rwa [decide_eq_true rfl] at this
  have heq : ∀ o o2 (ev : Event), BinRun Try.prog .eql 68 o o2 ev.v ev.v (.bool true) := fun o o2 ev => by
    have := eqlEvent (x := o) (y := o2) ev ev
    rwa [decide_eq_true rfl] at this
  generalize hev : (⟨3, x.user, x.kind, g.rect, done, Z⟩ : Event) = V at he he2
  refine pure_of_wt Try.func10 rfl (by decide) _ Try.ntmps10 rfl Try.results10 fun w0 => ?_
  repeat' (first
    | (apply RunK.callT; exact rfl; exact hca; (repeat (first | exact ArgsLe.nil | refine ArgsLe.cons ?_ ?_ | exact ArgLe.v _ | exact ArgLe.sl _ _ _ _ | exact ArgLe.nil _ | exact ArgLe.nil' | (apply ArgLe.bsl; exact rfl; (first | exact rfl | (rw [List.length_map]; done) | (simp only [List.length_map]; done) | (simp; done) | (simp; omega)); (first | assumption | exact map_len (fun _ => rfl))))); exact rfl) | (apply RunK.callT; exact rfl; exact hcl; (repeat (first | exact ArgsLe.nil | refine ArgsLe.cons ?_ ?_ | exact ArgLe.v _ | exact ArgLe.sl _ _ _ _ | exact ArgLe.nil _ | exact ArgLe.nil' | (apply ArgLe.bsl; exact rfl; (first | exact rfl | (rw [List.length_map]; done) | (simp only [List.length_map]; done) | (simp; done) | (simp; omega)); (first | assumption | exact map_len (fun _ => rfl))))); exact rfl) | (apply RunK.callS; exact rfl; exact hc; (repeat (first | exact ArgsLe.nil | refine ArgsLe.cons ?_ ?_ | exact ArgLe.v _ | exact ArgLe.sl _ _ _ _ | exact ArgLe.nil _ | exact ArgLe.nil' | (apply ArgLe.bsl; exact rfl; (first | exact rfl | (rw [List.length_map]; done) | (simp only [List.length_map]; done) | (simp; done) | (simp; omega)); (first | assumption | exact map_len (fun _ => rfl))))); exact rfl) | (apply RunK.callS; exact rfl; exact hm; (repeat (first | exact ArgsLe.nil | refine ArgsLe.cons ?_ ?_ | exact ArgLe.v _ | exact ArgLe.sl _ _ _ _ | exact ArgLe.nil _ | exact ArgLe.nil' | (apply ArgLe.bsl; exact rfl; (first | exact rfl | (rw [List.length_map]; done) | (simp only [List.length_map]; done) | (simp; done) | (simp; omega)); (first | assumption | exact map_len (fun _ => rfl))))); exact rfl) | (apply RunK.lenStr Try.underlying9; exact rfl; exact rfl) | (apply RunK.index (j := i); exact rfl; exact rfl; exact rfl; exact hi; (rw [List.length_map]; exact hil)) | (apply RunK.callS; exact rfl; exact hr; (repeat (first | exact ArgsLe.nil | refine ArgsLe.cons ?_ ?_ | exact ArgLe.v _ | exact ArgLe.sl _ _ _ _ | exact ArgLe.nil _ | exact ArgLe.nil' | (apply ArgLe.bsl; exact rfl; (first | exact rfl | (rw [List.length_map]; done) | (simp only [List.length_map]; done) | (simp; done) | (simp; omega)); (first | assumption | exact map_len (fun _ => rfl))))); exact rfl) | (apply RunK.callT; exact rfl; exact ho; (repeat (first | exact ArgsLe.nil | refine ArgsLe.cons ?_ ?_ | exact ArgLe.v _ | exact ArgLe.sl _ _ _ _ | exact ArgLe.nil _ | exact ArgLe.nil' | (apply ArgLe.bsl; exact rfl; (first | exact rfl | (rw [List.length_map]; done) | (simp only [List.length_map]; done) | (simp; done) | (simp; omega)); (first | assumption | exact map_len (fun _ => rfl))))); exact rfl) | (apply RunK.callT; exact rfl; exact he; (repeat (first | exact ArgsLe.nil | refine ArgsLe.cons ?_ ?_ | exact ArgLe.v _ | exact ArgLe.sl _ _ _ _ | exact ArgLe.nil _ | exact ArgLe.nil' | (apply ArgLe.bsl; exact rfl; (first | exact rfl | (rw [List.length_map]; done) | (simp only [List.length_map]; done) | (simp; done) | (simp; omega)); (first | assumption | exact map_len (fun _ => rfl))))); exact rfl) | (apply RunK.callS; exact rfl; exact hcy; (repeat (first | exact ArgsLe.nil | refine ArgsLe.cons ?_ ?_ | exact ArgLe.v _ | exact ArgLe.sl _ _ _ _ | exact ArgLe.nil _ | exact ArgLe.nil' | (apply ArgLe.bsl; exact rfl; (first | exact rfl | (rw [List.length_map]; done) | (simp only [List.length_map]; done) | (simp; done) | (simp; omega)); (first | assumption | exact map_len (fun _ => rfl))))); exact rfl) | (apply RunK.callS; exact rfl; exact awake30; (repeat (first | exact ArgsLe.nil | refine ArgsLe.cons ?_ ?_ | exact ArgLe.v _ | exact ArgLe.sl _ _ _ _ | exact ArgLe.nil _ | exact ArgLe.nil' | (apply ArgLe.bsl; exact rfl; (first | exact rfl | (rw [List.length_map]; done) | (simp only [List.length_map]; done) | (simp; done) | (simp; omega)); (first | assumption | exact map_len (fun _ => rfl))))); exact rfl) | (apply RunK.callT; exact rfl; exact he2; (repeat (first | exact ArgsLe.nil | refine ArgsLe.cons ?_ ?_ | exact ArgLe.v _ | exact ArgLe.sl _ _ _ _ | exact ArgLe.nil _ | exact ArgLe.nil' | (apply ArgLe.bsl; exact rfl; (first | exact rfl | (rw [List.length_map]; done) | (simp only [List.length_map]; done) | (simp; done) | (simp; omega)); (first | assumption | exact map_len (fun _ => rfl))))); exact rfl) | (apply RunK.conv x.user.toNat Try.underlying3 Try.underlying37 (.inr rfl); exact rfl; exact rfl; exact hun; omega) | (apply RunK.bin; exact rfl; exact rfl; exact rfl; exact hsh _ _ _) | (apply RunK.bin; exact rfl; exact rfl; exact rfl; exact runBits (.inr (.inl rfl)) hor) | (apply RunK.bin; exact rfl; exact rfl; exact rfl; subst hev; exact hne _ _ ⟨3, x.user, x.kind, g.rect, done, Z⟩) | (apply RunK.bin; exact rfl; exact rfl; exact rfl; exact heq _ _ V)
    | refine Wt.seq ?_
    | (apply Wt.regionK; exact rfl)
    | refine Wt.ret ?_
    | refine Wt.skip ?_
    | refine RunK.nil ?_
    | (apply RunK.moveV; exact rfl; exact rfl)
    | (apply RunK.load1; exact rfl; exact rfl; exact rfl; exact rfl)
    | (apply RunK.field; exact rfl; exact rfl)
    | (apply RunK.fieldE; exact rfl; exact rfl)
    | (apply RunK.assignV; exact rfl; exact rfl)
    | (apply RunK.box; exact rfl; exact rfl; apply Cells.eq; (first | exact Cells.agg _ | exact Cells.int _ _ | exact Cells.bool _ | exact Cells.one _ rfl); exact rfl)
    | (apply RunK.alloc; exact rfl; apply Cells.eq; (first | exact Cells.agg _ | exact Cells.int _ _ | exact Cells.bool _ | exact Cells.one _ rfl); exact rfl)
    | (apply RunK.moveS; exact rfl; exact rfl)
    | (apply RunK.moveT; exact rfl; exact rfl)
    | (apply RunK.loadR; exact rfl; exact rfl; exact rfl; exact rfl; (apply cut_eq; repeat (first | exact Cut.nil _ | apply Cut.cons | apply Cut.skip)))
    | (apply RunK.loadER; exact rfl; exact rfl; assumption; exact rfl; (apply cut_eq; repeat (first | exact Cut.nil _ | apply Cut.cons | apply Cut.skip)))
    | (apply RunK.pickT; exact rfl; exact rfl; exact rfl)
    | (apply RunK.pickF; exact rfl; exact rfl; exact rfl)
    | (apply RunK.geq; exact rfl; exact rfl; exact rfl)
    | (apply RunK.lss; exact rfl; exact rfl; exact rfl)
    | (apply RunK.gtr; exact rfl; exact rfl; exact rfl)
    | (apply RunK.eql; exact rfl; exact rfl; exact rfl)
    | (apply RunK.neq; exact rfl; exact rfl; exact rfl)
    | (apply RunK.not; exact rfl; exact rfl)
    | (apply RunK.len; exact rfl; exact rfl)
    | (apply RunK.extract; exact rfl; exact rfl; exact rfl)
    | (apply RunK.build; exact rfl; (repeat (first | exact PartsOk.nil | (apply PartsOk.cons; exact rfl))); (repeat (first | exact fill_nil | (apply fill_cons; exact rfl; (first | exact Cells.agg _ | exact Cells.int _ _ | exact Cells.bool _ | exact Cells.one _ rfl); exact rfl; (repeat (first | exact Upd.nil _ | apply Upd.cons | apply Upd.skip))))))
    | (apply RunK.store; exact rfl; exact rfl; exact rfl; exact rfl; exact rfl; exact rfl; exact rfl; apply upd_eq; exact rfl; (first | exact Cells.agg _ | exact Cells.int _ _ | exact Cells.bool _ | exact Cells.one _ rfl); (repeat (first | exact Upd.nil _ | apply Upd.cons | apply Upd.skip)))
    | (apply RunK.guard; exact rfl; exact rfl; exact rfl; all_goals (intro hg; (first | exact absurd hg (by decide) | skip); (first | (with_reducible replace hg := not_t hg) | (with_reducible replace hg := not_f hg) | skip); (first | (with_reducible replace hg := dec_t hg) | (with_reducible replace hg := dec_f hg) | skip); (first | (with_reducible exact absurd rfl hg) | skip); (repeat rw [List.length_map] at hg); try (exfalso; omega)))
    | (apply Wt.cond; exact rfl; all_goals (intro hg; (first | exact absurd hg (by decide) | skip); (first | (with_reducible replace hg := not_t hg) | (with_reducible replace hg := not_f hg) | skip); (first | (with_reducible replace hg := dec_t hg) | (with_reducible replace hg := dec_f hg) | skip); (first | (with_reducible exact absurd rfl hg) | skip); (repeat rw [List.length_map] at hg); try (exfalso; omega))))
  all_goals (apply ResOk.v1; exact rfl; exact rfl)
set_option maxRecDepth 100000 in
theorem lawOwners (x : Opn) (_hx : x.ok) (done : Bool) (a : List Rule) (ha : a.length * 56 ≤ 140737488351232) (hoa : ∀ r ∈ a, r.ok) (l : List Grant) (hl : l.length * 64 ≤ 140737488351232) (hol : ∀ g ∈ l, g.ok) (s : ByteArray) : OwnSays x done a l s := by
  have L : goodL a l := ⟨by omega, by omega, hoa, hol⟩
  by_cases Q : ownPre x a l s
  · by_cases G : goodX 3 x
    · by_cases h3 : x.kind = 9
      · by_cases h4 : 0 ≤ x.index ∧ x.index < l.length
        · obtain ⟨i, hi⟩ := Int.eq_ofNat_of_zero_le h4.1
          obtain ⟨g, hg⟩ := exists_at (l := l) (k := i) (by omega)
          cases h5 : rectOk g.rect with
          | false => exact own_range9 x done a l s L Q G h3 i hi g hg h5
          | true =>
            by_cases hy : okP { x with input := s }
            · exact own_ok91 x done a l s L Q G h3 i hi g hg h5 hy
            · exact own_ok90 x done a l s L Q G h3 i hi g hg h5 hy
        · exact own_none x done a l s L Q G h3 h4
      · cases h5 : rectOk x.rect with
        | false => exact own_range0 x done a l s L Q G h3 h5
        | true =>
          by_cases hy : okP { x with input := s }
          · exact own_ok01 x done a l s L Q G h3 h5 hy
          · exact own_ok00 x done a l s L Q G h3 h5 hy
    · exact own_arg x done a l s L Q G
  · exact own_pre x done a l s L Q
end Go.Proofs.Ytfacimebfdeaeaa
