/- The methods at a nil sheet; Copy and Equal; the law's own fixed sheet. -/
import Derived.Test.YtnpbnlmhmjejhaaSW
import Derived.Shelf.SlMaps.Clone
namespace Go.Proofs.Ytnpbnlmhmjejhaa
open Pv Go.RowKit
abbrev nilP : Value := .pointer none
set_option maxRecDepth 100000 in
theorem shCellsN : Pure Try.prog 13 [.v nilP] (.s (cellsR [])) := by
  refine pure_of_wt Try.func13 rfl (by decide) _ Try.ntmps13 rfl Try.results13 fun w0 => ?_
  repeat' (first
    | (apply RunK.bin; exact rfl; exact rfl; exact rfl; first | exact BinRun.eqlP0 ⟨_, Try.underlying24⟩ | exact BinRun.eqlP0 ⟨_, Try.underlying28⟩ | exact BinRun.eqlP1 ⟨_, Try.underlying24⟩ | exact BinRun.eqlP1 ⟨_, Try.underlying28⟩)
    | refine Wt.seq ?_
    | (apply Wt.regionK; exact rfl)
    | refine Wt.ret ?_
    | refine RunK.nil ?_
    | (apply RunK.moveV; exact rfl; exact rfl)
    | (apply RunK.assignN; exact rfl; exact rfl)
    | (apply Wt.cond; exact rfl; all_goals (intro hg; (first | exact absurd hg (by decide) | skip); (first | (with_reducible replace hg := not_t hg) | (with_reducible replace hg := not_f hg) | skip); (first | (with_reducible replace hg := dec_t hg) | (with_reducible replace hg := dec_f hg) | skip); (first | (with_reducible exact absurd rfl hg) | skip); (repeat rw [List.length_map] at hg); try (exfalso; omega))))
  apply ResOk.n1; exact rfl; exact rfl
set_option maxRecDepth 100000 in
theorem shLenN : Pure Try.prog 15 [.v nilP] (.s (.v (.int .i64 0))) := by
  refine pure_of_wt Try.func15 rfl (by decide) _ Try.ntmps15 rfl Try.results15 fun w0 => ?_
  repeat' (first
    | (apply RunK.bin; exact rfl; exact rfl; exact rfl; first | exact BinRun.eqlP0 ⟨_, Try.underlying24⟩ | exact BinRun.eqlP0 ⟨_, Try.underlying28⟩ | exact BinRun.eqlP1 ⟨_, Try.underlying24⟩ | exact BinRun.eqlP1 ⟨_, Try.underlying28⟩)
    | refine Wt.seq ?_
    | (apply Wt.regionK; exact rfl)
    | refine Wt.ret ?_
    | refine RunK.nil ?_
    | (apply RunK.moveV; exact rfl; exact rfl)
    | (apply RunK.assignV; exact rfl; exact rfl)
    | (apply Wt.cond; exact rfl; all_goals (intro hg; (first | exact absurd hg (by decide) | skip); (first | (with_reducible replace hg := not_t hg) | (with_reducible replace hg := not_f hg) | skip); (first | (with_reducible replace hg := dec_t hg) | (with_reducible replace hg := dec_f hg) | skip); (first | (with_reducible exact absurd rfl hg) | skip); (repeat rw [List.length_map] at hg); try (exfalso; omega))))
  apply ResOk.v1; exact rfl; exact rfl
set_option maxRecDepth 100000 in
theorem shGetN (x : Ref) : Pure Try.prog 19 [.v nilP, .v x.v] (.tup [.v blankV.w, .v (.int .i64 1)]) := by
  refine pure_of_wt Try.func19 rfl (by decide) _ Try.ntmps19 rfl Try.results19 fun w0 => ?_
  repeat' (first
    | (apply RunK.bin; exact rfl; exact rfl; exact rfl; first | exact BinRun.eqlP0 ⟨_, Try.underlying24⟩ | exact BinRun.eqlP0 ⟨_, Try.underlying28⟩ | exact BinRun.eqlP1 ⟨_, Try.underlying24⟩ | exact BinRun.eqlP1 ⟨_, Try.underlying28⟩)
    | refine Wt.seq ?_
    | (apply Wt.regionK; exact rfl)
    | refine Wt.ret ?_
    | refine RunK.nil ?_
    | (apply RunK.moveV; exact rfl; exact rfl)
    | (apply RunK.assignV; exact rfl; exact rfl)
    | (apply RunK.box; exact rfl; exact rfl; apply Cells.eq; (first | exact Cells.agg _ | exact Cells.int _ _ | exact Cells.bool _ | exact Cells.one _ rfl); exact rfl)
    | (apply RunK.alloc; exact rfl; apply Cells.eq; (first | exact Cells.agg _ | exact Cells.int _ _ | exact Cells.bool _ | exact Cells.one _ rfl); exact rfl)
    | (apply RunK.build; exact rfl; (repeat (first | exact PartsOk.nil | (apply PartsOk.cons; exact rfl))); (repeat (first | exact fill_nil | (apply fill_cons; exact rfl; (first | exact Cells.agg _ | exact Cells.int _ _ | exact Cells.bool _ | exact Cells.one _ rfl); exact rfl; (repeat (first | exact Upd.nil _ | apply Upd.cons | apply Upd.skip))))))
    | (apply RunK.store; exact rfl; exact rfl; exact rfl; exact rfl; exact rfl; exact rfl; exact rfl; apply upd_eq; exact rfl; (first | exact Cells.agg _ | exact Cells.int _ _ | exact Cells.bool _ | exact Cells.one _ rfl); (repeat (first | exact Upd.nil _ | apply Upd.cons | apply Upd.skip)))
    | (apply Wt.cond; exact rfl; all_goals (intro hg; (first | exact absurd hg (by decide) | skip); (first | (with_reducible replace hg := not_t hg) | (with_reducible replace hg := not_f hg) | skip); (first | (with_reducible replace hg := dec_t hg) | (with_reducible replace hg := dec_f hg) | skip); (first | (with_reducible exact absurd rfl hg) | skip); (repeat rw [List.length_map] at hg); try (exfalso; omega))))
  apply ResOk.cv; exact rfl; exact rfl; exact loadRow rfl rfl; exact rfl; exact rfl; exact rfl
set_option maxRecDepth 100000 in
theorem shInN (R : Rect) : Pure Try.prog 22 [.v nilP, .v R.v] (.tup [cellsR [], .v (.int .i64 1)]) := by
  refine pure_of_wt Try.func22 rfl (by decide) _ Try.ntmps22 rfl Try.results22 fun w0 => ?_
  repeat' (first
    | (apply RunK.bin; exact rfl; exact rfl; exact rfl; first | exact BinRun.eqlP0 ⟨_, Try.underlying24⟩ | exact BinRun.eqlP0 ⟨_, Try.underlying28⟩ | exact BinRun.eqlP1 ⟨_, Try.underlying24⟩ | exact BinRun.eqlP1 ⟨_, Try.underlying28⟩)
    | refine Wt.seq ?_
    | (apply Wt.regionK; exact rfl)
    | refine Wt.ret ?_
    | refine RunK.nil ?_
    | (apply RunK.moveV; exact rfl; exact rfl)
    | (apply RunK.assignV; exact rfl; exact rfl)
    | (apply RunK.box; exact rfl; exact rfl; apply Cells.eq; (first | exact Cells.agg _ | exact Cells.int _ _ | exact Cells.bool _ | exact Cells.one _ rfl); exact rfl)
    | (apply RunK.assignN; exact rfl; exact rfl)
    | (apply Wt.cond; exact rfl; all_goals (intro hg; (first | exact absurd hg (by decide) | skip); (first | (with_reducible replace hg := not_t hg) | (with_reducible replace hg := not_f hg) | skip); (first | (with_reducible replace hg := dec_t hg) | (with_reducible replace hg := dec_f hg) | skip); (first | (with_reducible exact absurd rfl hg) | skip); (repeat rw [List.length_map] at hg); try (exfalso; omega))))
  apply ResOk.nv; exact rfl; exact rfl; exact rfl; exact rfl
set_option maxRecDepth 100000 in
theorem shSetN (x : Ref) (v : Val) : Pure Try.prog 17 [.v nilP, .v x.v, .v v.w] (.s (.v (.int .i64 1))) := by
  refine pure_of_wt Try.func17 rfl (by decide) _ Try.ntmps17 rfl Try.results17 fun w0 => ?_
  repeat' (first
    | (apply RunK.bin; exact rfl; exact rfl; exact rfl; first | exact BinRun.eqlP0 ⟨_, Try.underlying24⟩ | exact BinRun.eqlP0 ⟨_, Try.underlying28⟩ | exact BinRun.eqlP1 ⟨_, Try.underlying24⟩ | exact BinRun.eqlP1 ⟨_, Try.underlying28⟩)
    | refine Wt.seq ?_
    | (apply Wt.regionK; exact rfl)
    | refine Wt.ret ?_
    | refine RunK.nil ?_
    | (apply RunK.moveV; exact rfl; exact rfl)
    | (apply RunK.assignV; exact rfl; exact rfl)
    | (apply RunK.box; exact rfl; exact rfl; apply Cells.eq; (first | exact Cells.agg _ | exact Cells.int _ _ | exact Cells.bool _ | exact Cells.one _ rfl); exact rfl)
    | (apply Wt.cond; exact rfl; all_goals (intro hg; (first | exact absurd hg (by decide) | skip); (first | (with_reducible replace hg := not_t hg) | (with_reducible replace hg := not_f hg) | skip); (first | (with_reducible replace hg := dec_t hg) | (with_reducible replace hg := dec_f hg) | skip); (first | (with_reducible exact absurd rfl hg) | skip); (repeat rw [List.length_map] at hg); try (exfalso; omega))))
  apply ResOk.v1; exact rfl; exact rfl
set_option maxRecDepth 100000 in
theorem rfCellsN : Pure Try.prog 14 [.v nilP] (.s (cellsR [])) := by
  refine pure_of_wt Try.func14 rfl (by decide) _ Try.ntmps14 rfl Try.results14 fun w0 => ?_
  repeat' (first
    | (apply RunK.bin; exact rfl; exact rfl; exact rfl; first | exact BinRun.eqlP0 ⟨_, Try.underlying24⟩ | exact BinRun.eqlP0 ⟨_, Try.underlying28⟩ | exact BinRun.eqlP1 ⟨_, Try.underlying24⟩ | exact BinRun.eqlP1 ⟨_, Try.underlying28⟩)
    | refine Wt.seq ?_
    | (apply Wt.regionK; exact rfl)
    | refine Wt.ret ?_
    | refine RunK.nil ?_
    | (apply RunK.moveV; exact rfl; exact rfl)
    | (apply RunK.assignN; exact rfl; exact rfl)
    | (apply Wt.cond; exact rfl; all_goals (intro hg; (first | exact absurd hg (by decide) | skip); (first | (with_reducible replace hg := not_t hg) | (with_reducible replace hg := not_f hg) | skip); (first | (with_reducible replace hg := dec_t hg) | (with_reducible replace hg := dec_f hg) | skip); (first | (with_reducible exact absurd rfl hg) | skip); (repeat rw [List.length_map] at hg); try (exfalso; omega))))
  apply ResOk.n1; exact rfl; exact rfl
set_option maxRecDepth 100000 in
theorem rfGetN (x : Ref) : Pure Try.prog 21 [.v nilP, .v x.v] (.tup [.v blankV.w, .v (.int .i64 1)]) := by
  refine pure_of_wt Try.func21 rfl (by decide) _ Try.ntmps21 rfl Try.results21 fun w0 => ?_
  repeat' (first
    | (apply RunK.bin; exact rfl; exact rfl; exact rfl; first | exact BinRun.eqlP0 ⟨_, Try.underlying24⟩ | exact BinRun.eqlP0 ⟨_, Try.underlying28⟩ | exact BinRun.eqlP1 ⟨_, Try.underlying24⟩ | exact BinRun.eqlP1 ⟨_, Try.underlying28⟩)
    | refine Wt.seq ?_
    | (apply Wt.regionK; exact rfl)
    | refine Wt.ret ?_
    | refine RunK.nil ?_
    | (apply RunK.moveV; exact rfl; exact rfl)
    | (apply RunK.assignV; exact rfl; exact rfl)
    | (apply RunK.box; exact rfl; exact rfl; apply Cells.eq; (first | exact Cells.agg _ | exact Cells.int _ _ | exact Cells.bool _ | exact Cells.one _ rfl); exact rfl)
    | (apply RunK.alloc; exact rfl; apply Cells.eq; (first | exact Cells.agg _ | exact Cells.int _ _ | exact Cells.bool _ | exact Cells.one _ rfl); exact rfl)
    | (apply RunK.build; exact rfl; (repeat (first | exact PartsOk.nil | (apply PartsOk.cons; exact rfl))); (repeat (first | exact fill_nil | (apply fill_cons; exact rfl; (first | exact Cells.agg _ | exact Cells.int _ _ | exact Cells.bool _ | exact Cells.one _ rfl); exact rfl; (repeat (first | exact Upd.nil _ | apply Upd.cons | apply Upd.skip))))))
    | (apply RunK.store; exact rfl; exact rfl; exact rfl; exact rfl; exact rfl; exact rfl; exact rfl; apply upd_eq; exact rfl; (first | exact Cells.agg _ | exact Cells.int _ _ | exact Cells.bool _ | exact Cells.one _ rfl); (repeat (first | exact Upd.nil _ | apply Upd.cons | apply Upd.skip)))
    | (apply Wt.cond; exact rfl; all_goals (intro hg; (first | exact absurd hg (by decide) | skip); (first | (with_reducible replace hg := not_t hg) | (with_reducible replace hg := not_f hg) | skip); (first | (with_reducible replace hg := dec_t hg) | (with_reducible replace hg := dec_f hg) | skip); (first | (with_reducible exact absurd rfl hg) | skip); (repeat rw [List.length_map] at hg); try (exfalso; omega))))
  apply ResOk.cv; exact rfl; exact rfl; exact loadRow rfl rfl; exact rfl; exact rfl; exact rfl
set_option maxRecDepth 100000 in
theorem rfInN (R : Rect) : Pure Try.prog 23 [.v nilP, .v R.v] (.tup [cellsR [], .v (.int .i64 1)]) := by
  refine pure_of_wt Try.func23 rfl (by decide) _ Try.ntmps23 rfl Try.results23 fun w0 => ?_
  repeat' (first
    | (apply RunK.bin; exact rfl; exact rfl; exact rfl; first | exact BinRun.eqlP0 ⟨_, Try.underlying24⟩ | exact BinRun.eqlP0 ⟨_, Try.underlying28⟩ | exact BinRun.eqlP1 ⟨_, Try.underlying24⟩ | exact BinRun.eqlP1 ⟨_, Try.underlying28⟩)
    | refine Wt.seq ?_
    | (apply Wt.regionK; exact rfl)
    | refine Wt.ret ?_
    | refine RunK.nil ?_
    | (apply RunK.moveV; exact rfl; exact rfl)
    | (apply RunK.assignV; exact rfl; exact rfl)
    | (apply RunK.box; exact rfl; exact rfl; apply Cells.eq; (first | exact Cells.agg _ | exact Cells.int _ _ | exact Cells.bool _ | exact Cells.one _ rfl); exact rfl)
    | (apply RunK.assignN; exact rfl; exact rfl)
    | (apply Wt.cond; exact rfl; all_goals (intro hg; (first | exact absurd hg (by decide) | skip); (first | (with_reducible replace hg := not_t hg) | (with_reducible replace hg := not_f hg) | skip); (first | (with_reducible replace hg := dec_t hg) | (with_reducible replace hg := dec_f hg) | skip); (first | (with_reducible exact absurd rfl hg) | skip); (repeat rw [List.length_map] at hg); try (exfalso; omega))))
  apply ResOk.nv; exact rfl; exact rfl; exact rfl; exact rfl
set_option maxRecDepth 100000 in
theorem rfSetN (x : Ref) (v : Val) : Pure Try.prog 24 [.v nilP, .v x.v, .v v.w] (.s (.v (.int .i64 1))) := by
  refine pure_of_wt Try.func24 rfl (by decide) _ Try.ntmps24 rfl Try.results24 fun w0 => ?_
  repeat' (first
    | (apply RunK.bin; exact rfl; exact rfl; exact rfl; first | exact BinRun.eqlP0 ⟨_, Try.underlying24⟩ | exact BinRun.eqlP0 ⟨_, Try.underlying28⟩ | exact BinRun.eqlP1 ⟨_, Try.underlying24⟩ | exact BinRun.eqlP1 ⟨_, Try.underlying28⟩)
    | refine Wt.seq ?_
    | (apply Wt.regionK; exact rfl)
    | refine Wt.ret ?_
    | refine RunK.nil ?_
    | (apply RunK.moveV; exact rfl; exact rfl)
    | (apply RunK.assignV; exact rfl; exact rfl)
    | (apply RunK.box; exact rfl; exact rfl; apply Cells.eq; (first | exact Cells.agg _ | exact Cells.int _ _ | exact Cells.bool _ | exact Cells.one _ rfl); exact rfl)
    | (apply Wt.cond; exact rfl; all_goals (intro hg; (first | exact absurd hg (by decide) | skip); (first | (with_reducible replace hg := not_t hg) | (with_reducible replace hg := not_f hg) | skip); (first | (with_reducible replace hg := dec_t hg) | (with_reducible replace hg := dec_f hg) | skip); (first | (with_reducible exact absurd rfl hg) | skip); (repeat rw [List.length_map] at hg); try (exfalso; omega))))
  apply ResOk.v1; exact rfl; exact rfl
set_option maxRecDepth 100000 in
theorem judge_num {x : Ref} {n : Int} (hx : refOk x = true) (hn : n ≠ -9223372036854775808) : judgeE x ⟨1, n, noText⟩ = 0 := by
  unfold judgeE; rw [if_pos hx]
  exact chkV_t (.inr (.inl ⟨rfl, hn, rfl⟩))
set_option maxRecDepth 100000 in
theorem judge_numV {x : Ref} {n : Int} (hx : refOk x = true) : judgeE x (numV n) = 0 := by
  unfold numV
  split
  · unfold judgeE; rw [if_pos hx]; exact chkV_t (.inl ⟨rfl, rfl, rfl⟩)
  · refine judge_num hx ?_
    have := Int.tmod_lt_of_pos n (show (0 : Int) < 1000 by decide)
    have h2 := Int.lt_tmod_of_pos n (show (0 : Int) < 1000 by decide)
    omega
set_option maxRecDepth 100000 in
theorem judge_out {x : Ref} {v : Val} (hx : ¬refOk x = true) : judgeE x v = 3 := by unfold judgeE; rw [if_neg hx]
def known5 : List Cell := [cellN 3 4 5]
set_option maxRecDepth 100000 in
theorem known_new : newE [] known5 = 0 := by
  unfold known5 newE errAt
  rw [show judgeE (cellN 3 4 5).at_ (cellN 3 4 5).v = 0 from judge_num (by decide) (by decide)]
  simp [newE]
set_option maxRecDepth 100000 in
theorem known_put : putAll known5 = known5 := rfl
set_option maxRecDepth 100000 in
theorem lawKnown : Pure Try.prog 9 [] (.s (.v (.bool true))) := by
  have hn := shNew known5 (by decide)
  have hc := lawCell 3 4 5
  refine pure_of_wt Try.func9 rfl (by decide) _ Try.ntmps9 rfl Try.results9 fun w0 => ?_
  repeat' (first
    | (apply RunK.callS; exact rfl; exact rfl; exact hc; (repeat (first | exact ArgsLe.nil | refine ArgsLe.cons ?_ ?_ | exact ArgLe.v _ | exact ArgLe.sl _ _ _ _ | exact ArgLe.nil _ | exact ArgLe.nil' | (apply ArgLe.bsl; exact rfl; (first | exact rfl | (rw [List.length_map]; done) | (simp only [List.length_map]; done) | (simp; done) | (simp; omega)); (first | assumption | exact map_len (fun _ => rfl))))); exact rfl) | (apply RunK.actF [2000010, 2000011] 900001 hn; (case hw => exact rfl); (case he => first | exact (fun h => by cases h) | exact fun _ => rfl); (case hx => exact rfl); (case ha => exact .cons (.sl _ _ _ _) .nil); (case hng => exact noNest_nil _); (case hf => exact .nil); (case hap => exact ApartE.nil _))
    | refine Wt.seq ?_
    | (apply Wt.regionK; exact rfl)
    | refine RunK.nil ?_
    | (apply RunK.assignV; exact rfl; exact rfl)
    | (apply RunK.rows; exact rfl; (repeat (first | exact PartsOk.nil | (apply PartsOk.cons; exact rfl))); (repeat (first | exact Rows.nil _ | (apply Rows.cons; (first | exact Cells.agg _ | exact Cells.int _ _ | exact Cells.bool _ | exact Cells.one _ rfl); exact rfl))); exact rfl; exact rfl))
  intro r fs hK _
  unfold NewK at hK
  rw [if_pos known_new] at hK
  obtain ⟨pb, b, es, cl, hS, hne, rfl, rfl⟩ := hK
  rw [known_put] at hS
  have hg0 := shGet pb b es cl _ hS ⟨3, 4⟩ (by decide)
  rw [show getL known5 ⟨3, 4⟩ = ⟨1, 5, noText⟩ from rfl] at hg0
  have hl := shLen pb b es cl _ hS
  repeat' (first
    | (apply RunK.bin; exact rfl; exact rfl; exact rfl; first | exact BinRun.eqlP0 ⟨_, Try.underlying24⟩ | exact BinRun.eqlP0 ⟨_, Try.underlying28⟩ | exact BinRun.eqlP1 ⟨_, Try.underlying24⟩ | exact BinRun.eqlP1 ⟨_, Try.underlying28⟩) | (apply RunK.bin; exact rfl; exact rfl; exact rfl; exact eqlVal ⟨1, 5, noText⟩ ⟨1, 5, noText⟩) | (apply RunK.actR _ hg0 (fun _ _ h => h.1); (case hn => exact rfl); (case hw => exact rfl); (case he => exact rfl); (case hx => exact rfl); (case ha => (repeat (first | exact ArgsLe.nil | refine ArgsLe.cons ?_ ?_ | exact ArgLe.v _ | exact ArgLe.sl _ _ _ _ | exact ArgLe.nil _ | exact ArgLe.nil' | (apply ArgLe.bsl; exact rfl; (first | exact rfl | (rw [List.length_map]; done) | (simp only [List.length_map]; done) | (simp; done) | (simp; omega)); (first | assumption | exact map_len (fun _ => rfl)))))); (case hgs => exact rfl); (case hf => exact .kept 2000010 rfl rfl (.kept 2000011 rfl rfl .nil))) | (apply RunK.actR _ hl (fun _ _ h => h.1); (case hn => exact rfl); (case hw => exact rfl); (case he => exact rfl); (case hx => exact rfl); (case ha => (repeat (first | exact ArgsLe.nil | refine ArgsLe.cons ?_ ?_ | exact ArgLe.v _ | exact ArgLe.sl _ _ _ _ | exact ArgLe.nil _ | exact ArgLe.nil' | (apply ArgLe.bsl; exact rfl; (first | exact rfl | (rw [List.length_map]; done) | (simp only [List.length_map]; done) | (simp; done) | (simp; omega)); (first | assumption | exact map_len (fun _ => rfl)))))); (case hgs => exact rfl); (case hf => exact .kept 2000010 rfl rfl (.kept 2000011 rfl rfl .nil)))
    | refine Wt.seq ?_
    | (apply Wt.regionK; exact rfl)
    | refine Wt.ret ?_
    | refine Wt.skip ?_
    | refine RunK.nil ?_
    | (apply RunK.moveV; exact rfl; exact rfl)
    | (apply RunK.assignV; exact rfl; exact rfl)
    | (apply RunK.alloc; exact rfl; apply Cells.eq; (first | exact Cells.agg _ | exact Cells.int _ _ | exact Cells.bool _ | exact Cells.one _ rfl); exact rfl)
    | (apply RunK.moveT; exact rfl; exact rfl)
    | (apply RunK.loadR; exact rfl; exact rfl; exact rfl; exact rfl; (apply cut_eq; repeat (first | exact Cut.nil _ | apply Cut.cons | apply Cut.skip)))
    | (apply RunK.pickT; exact rfl; exact rfl; exact rfl)
    | (apply RunK.pickF; exact rfl; exact rfl; exact rfl)
    | (apply RunK.eql; exact rfl; exact rfl; exact rfl)
    | (apply RunK.neq; exact rfl; exact rfl; exact rfl)
    | (apply RunK.extract; exact rfl; exact rfl; exact rfl)
    | (apply RunK.build; exact rfl; (repeat (first | exact PartsOk.nil | (apply PartsOk.cons; exact rfl))); (repeat (first | exact fill_nil | (apply fill_cons; exact rfl; (first | exact Cells.agg _ | exact Cells.int _ _ | exact Cells.bool _ | exact Cells.one _ rfl); exact rfl; (repeat (first | exact Upd.nil _ | apply Upd.cons | apply Upd.skip))))))
    | (apply RunK.store; exact rfl; exact rfl; exact rfl; exact rfl; exact rfl; exact rfl; exact rfl; apply upd_eq; exact rfl; (first | exact Cells.agg _ | exact Cells.int _ _ | exact Cells.bool _ | exact Cells.one _ rfl); (repeat (first | exact Upd.nil _ | apply Upd.cons | apply Upd.skip)))
    | (apply Wt.cond; exact rfl; all_goals (intro hg; (first | exact absurd hg (by decide) | skip); (first | (with_reducible replace hg := not_t hg) | (with_reducible replace hg := not_f hg) | skip); (first | (with_reducible replace hg := dec_t hg) | (with_reducible replace hg := dec_f hg) | skip); (first | (with_reducible exact absurd rfl hg) | skip); (repeat rw [List.length_map] at hg); try (exfalso; omega))))
  all_goals (apply ResOk.v1; exact rfl; exact rfl)
/-! ### Copy -/
set_option maxRecDepth 100000 in
theorem cloneK (b : Nat) (es : Array MapEntry) (cl : Nat) (w : World) (hb : w.heap[b]? = some (.map es cl)) : Calls Try.prog 41 #[.map (some b)] w fun e w' => e = .returned (.map (some w.heap.size)) ∧ w' = w.alloc (.map es cl) := by
  have hq := fun w => Go.Proofs.run_eql_map_nil_sl (P := Try.prog) w 64 _ _ (some b) Try.underlying64
  go_enter Try.func41, Try.ntmps41
  go_wp2
  rw [run_callFunc_extern Try.func52 (by kernel_rfl) (by kernel_rfl) (by kernel_rfl) (e := Extern.MapsClone.clone) (by kernel_rfl), Go.Proofs.run_maps_clone_sl w 64 hb]
  simp only [Result.andThen]
  rw [Oper.upon_value]
  go_wp2
  rw [Go.Proofs.run_typeAssert_map_sl _ 64 20 _ _ _ Try.underlying64]
  simp only [Result.andThen]
  rw [Oper.upon_value]
  go_wp2
  go_ret
  exact ⟨rfl, rfl⟩
set_option maxRecDepth 100000 in
theorem shClone (b : Nat) (es : Array MapEntry) (cl : Nat) : Acts Try.prog 41 [.v (.map (some b))] [mapO b es cl] [] (fun r fs => ∃ b', b' ≠ b ∧ r = .s (.v (.map (some b'))) ∧ fs = [mapO b' es cl]) := by
  refine ⟨⟨_, Try.func41, by decide, rfl⟩, fun _ h => (by cases h), fun vs w hvs hfs => ?_⟩
  have hk := hfs _ (List.mem_cons_self ..)
  have hb : w.heap[b]? = some (.map es cl) := hk.2.2
  match vs, hvs with
  | [v], ⟨hv, _⟩ =>
    have hv' : v = .map (some b) := hv
    subst hv'
    refine (cloneK b es cl w hb).mono ?_
    rintro e w' ⟨rfl, rfl⟩
    refine ⟨_, fun c => if c = w.heap.size then .obj 0 else tag0 (ownOf [mapO b es cl]) c, fun _ => 0, .s (.v (.map (some w.heap.size))), [mapO w.heap.size es cl], ⟨w.heap.size, fun e => ?_, rfl, rfl⟩, rfl, (Below.refl 0 w).alloc (Nat.zero_le _) _, fun c hc _ _ => heap_alloc_old w _ hc, fun c hc _ => if_neg (Nat.ne_of_lt hc), rfl, rfl, fun p hp => ?_⟩
    · have := hk.2.1
      rw [← e] at this
      exact absurd this (Nat.lt_irrefl _)
    · rw [List.mem_singleton.1 hp]
      exact ⟨rfl, if_pos rfl, by simp, heap_alloc_new w _⟩
set_option maxRecDepth 100000 in
theorem shCopyN : Pure Try.prog 25 [.v nilP] (.s (.v nilP)) := by
  refine pure_of_wt Try.func25 rfl (by decide) _ Try.ntmps25 rfl Try.results25 fun w0 => ?_
  repeat' (first
    | (apply RunK.bin; exact rfl; exact rfl; exact rfl; first | exact BinRun.eqlP0 ⟨_, Try.underlying24⟩ | exact BinRun.eqlP0 ⟨_, Try.underlying28⟩ | exact BinRun.eqlP1 ⟨_, Try.underlying24⟩ | exact BinRun.eqlP1 ⟨_, Try.underlying28⟩)
    | refine Wt.seq ?_
    | (apply Wt.regionK; exact rfl)
    | refine Wt.ret ?_
    | refine RunK.nil ?_
    | (apply RunK.moveV; exact rfl; exact rfl)
    | (apply RunK.assignV; exact rfl; exact rfl)
    | (apply Wt.cond; exact rfl; all_goals (intro hg; (first | exact absurd hg (by decide) | skip); (first | (with_reducible replace hg := not_t hg) | (with_reducible replace hg := not_f hg) | skip); (first | (with_reducible replace hg := dec_t hg) | (with_reducible replace hg := dec_f hg) | skip); (first | (with_reducible exact absurd rfl hg) | skip); (repeat rw [List.length_map] at hg); try (exfalso; omega))))
  apply ResOk.v1; exact rfl; exact rfl
set_option maxRecDepth 100000 in
theorem shCopy (pb b : Nat) (es : Array MapEntry) (cl : Nat) :
    Acts Try.prog 25 [.v (ptr pb)] [ptrO pb b, mapO b es cl] [] (fun r fs => ∃ pb' b', pb' ≠ b' ∧ r = .s (.v (ptr pb')) ∧ fs = [ptrO pb' b', mapO b' es cl] ∧ pb' ≠ pb ∧ pb' ≠ b ∧ b' ≠ pb ∧ b' ≠ b) := by
  have hc := shClone b es cl
  refine acts_of_wt Try.func25 rfl (by decide) _ Try.ntmps25 rfl Try.results25 rfl (by simp [ownOf]) fun w0 W => ?_
  repeat' (first
    | (apply RunK.nilCheckP; exact rfl; exact rfl) | (apply RunK.fieldP; exact rfl; exact rfl) | (apply RunK.loadP 2000000; exact rfl; exact rfl; exact rfl; exact rfl; exact rfl) | (apply RunK.bin; exact rfl; exact rfl; exact rfl; first | exact BinRun.eqlM1 ⟨_, _, Try.underlying64⟩ | exact BinRun.eqlP1 ⟨_, Try.underlying24⟩) | (apply RunK.actF [2000010] 900001 hc; (case hw => exact rfl); (case he => first | exact (fun h => by cases h) | exact fun _ => rfl); (case hx => exact rfl); (case ha => (repeat (first | exact ArgsLe.nil | refine ArgsLe.cons ?_ ?_ | exact ArgLe.v _ | exact ArgLe.sl _ _ _ _ | exact ArgLe.nil _ | exact ArgLe.nil' | (apply ArgLe.bsl; exact rfl; (first | exact rfl | (rw [List.length_map]; done) | (simp only [List.length_map]; done) | (simp; done) | (simp; omega)); (first | assumption | exact map_len (fun _ => rfl)))))); (case hng => exact noNest_nil _); (case hf => exact .kept 2000001 rfl rfl .nil); (case hap => exact ApartE.nil _))
    | refine Wt.seq ?_
    | (apply Wt.regionK; exact rfl)
    | refine Wt.skip ?_
    | refine RunK.nil ?_
    | (apply RunK.moveV; exact rfl; exact rfl)
    | (apply RunK.assignV; exact rfl; exact rfl)
    | (apply Wt.cond; exact rfl; all_goals (intro hg; (first | exact absurd hg (by decide) | skip); (first | (with_reducible replace hg := not_t hg) | (with_reducible replace hg := not_f hg) | skip); (first | (with_reducible replace hg := dec_t hg) | (with_reducible replace hg := dec_f hg) | skip); (first | (with_reducible exact absurd rfl hg) | skip); (repeat rw [List.length_map] at hg); try (exfalso; omega))))
  rintro _ _ ⟨b', hb', rfl, rfl⟩ hfr
  have h1 : b' ≠ pb := by
    rcases hfr 2000000 _ _ rfl b' _ (List.mem_cons_self ..) with h | h
    · exact absurd (List.mem_singleton.1 h) hb'
    · exact h.symm
  repeat' (first
    | (apply RunK.boxK (t := 66) 2000011; exact rfl; exact rfl)
    | (apply RunK.build; exact rfl; (repeat (first | exact PartsOk.nil | (apply PartsOk.cons; exact rfl))); (repeat (first | exact fill_nil | (apply fill_cons; exact rfl; (first | exact Cells.agg _ | exact Cells.int _ _ | exact Cells.bool _ | exact Cells.one _ rfl); exact rfl; (repeat (first | exact Upd.nil _ | apply Upd.cons | apply Upd.skip)))))))
  intro pb' hfp
  have h2 : pb ≠ pb' := hfp 2000000 _ _ rfl
  have h3 : b ≠ pb' := hfp 2000001 _ _ rfl
  have h4 : b' ≠ pb' := hfp 2000010 _ _ rfl
  repeat' (first
    | refine Wt.seq ?_
    | refine Wt.ret ?_
    | refine RunK.nil ?_
    | (apply RunK.assignV; exact rfl; exact rfl))
  exact ActEnd.mk (.s (.v (ptr pb'))) [ptrO pb' b', mapO b' es cl] ⟨pb', b', h4.symm, rfl, rfl, h2.symm, h3.symm, h1, hb'⟩ (.v1 rfl rfl) rfl rfl (.kept 2000011 rfl (.kept 2000010 rfl .nil)) (.same 2000000 rfl (.same 2000001 rfl .nil))
/-! ### Equal -/
set_option maxRecDepth 100000 in
theorem len_sub : ∀ (A B : List Cell), A.Nodup → (∀ c ∈ A, c ∈ B) → A.length ≤ B.length
  | [], B, _, _ => Nat.zero_le _
  | a :: A, B, hA, hs => by
    obtain ⟨a1, a2⟩ := List.nodup_cons.1 hA
    obtain ⟨s, t, rfl⟩ := List.append_of_mem (hs a (List.mem_cons_self ..))
    have := len_sub A (s ++ t) a2 fun c hc => by
      have h1 := hs c (List.mem_cons_of_mem _ hc)
      rw [List.mem_append, List.mem_cons] at h1
      rw [List.mem_append]
      rcases h1 with h1 | h1 | h1
      · exact .inl h1
      · rw [h1] at hc; exact absurd hc a1
      · exact .inr h1
    rw [List.length_append] at this
    rw [List.length_cons, List.length_append, List.length_cons]
    omega
set_option maxRecDepth 100000 in
theorem sub_eq {A B : List Cell} (hA : Srt A) (hB : Srt B) (hl : A.length = B.length) (hs : ∀ c ∈ A, c ∈ B) : A = B := by
  refine srt_ext hA hB fun y => ⟨hs y, fun hy => Classical.byContradiction fun hn => ?_⟩
  obtain ⟨s, t, rfl⟩ := List.append_of_mem hy
  have := len_sub A (s ++ t) (srt_nodup hA) fun c hc => by
    have h1 := hs c hc
    rw [List.mem_append, List.mem_cons] at h1
    rw [List.mem_append]
    rcases h1 with h1 | h1 | h1
    · exact .inl h1
    · rw [h1] at hc; exact absurd hc hn
    · exact .inr h1
  rw [List.length_append, List.length_cons] at hl
  rw [List.length_append] at this
  omega
set_option maxRecDepth 100000 in
theorem mapsEqual (b b2 : Nat) (es es2 : Array MapEntry) (cl cl2 : Nat) (L L2 : List Cell) (h : ShOk es cl L) (h2 : ShOk es2 cl2 L2) :
    Acts Try.prog 42 [.v (.map (some b)), .v (.map (some b2))] [mapO b es cl, mapO b2 es2 cl2] [] (fun r fs => r = .s (.v (.bool (decide (L = L2)))) ∧ fs = []) := by
  have hs1 := h.size
  have hs2 := h2.size
  refine acts_of_wt Try.func42 rfl (by decide) _ Try.ntmps42 rfl Try.results42 rfl (by simp [ownOf]) fun w0 W => ?_
  repeat' (first
    | (apply RunK.lenM Try.underlying64 2000000; exact rfl; exact rfl; exact rfl; exact rfl; rw [hs1]) | (apply RunK.lenM Try.underlying64 2000001; exact rfl; exact rfl; exact rfl; exact rfl; rw [hs2]) | (apply RunK.rangeM Try.underlying64 2000005 2000000; exact rfl; exact rfl; exact rfl; exact rfl)
    | refine Wt.seq ?_
    | (apply Wt.regionK; exact rfl)
    | refine Wt.ret ?_
    | refine Wt.skip ?_
    | refine RunK.nil ?_
    | (apply RunK.moveV; exact rfl; exact rfl)
    | (apply RunK.assignV; exact rfl; exact rfl)
    | (apply RunK.neq; exact rfl; exact rfl; exact rfl)
    | (apply Wt.cond; exact rfl; all_goals (intro hg; (first | exact absurd hg (by decide) | skip); (first | (with_reducible replace hg := not_t hg) | (with_reducible replace hg := not_f hg) | skip); (first | (with_reducible replace hg := dec_t hg) | (with_reducible replace hg := dec_f hg) | skip); (first | (with_reducible exact absurd rfl hg) | skip); (repeat rw [List.length_map] at hg); try (exfalso; omega))))
  · rw [decide_eq_false (fun e : L = L2 => hg (by rw [e]))]
    exact ActEnd.mk (.s (.v (.bool false))) [] ⟨rfl, rfl⟩ (.v1 rfl rfl) rfl rfl .nil (.same 2000000 rfl (.same 2000001 rfl .nil))
  intro Lb hfr
  have hb : b ≠ Lb := hfr 2000000 _ _ rfl
  have hb2 : b2 ≠ Lb := hfr 2000001 _ _ rfl
  have hlen : L.length = L2.length := by omega
  repeat' (first
    | refine Wt.seq ?_
    | refine Wt.block ?_
    | refine RunK.nil ?_)
  refine Wt.loop (fun i : Array Nat × List Cell => ⟨[(1, .s (.v (.map (some b2)))), (15, .s (.v (ptr Lb))), (2000000, mapO b es cl), (2000001, mapO b2 es2 cl2), (2000005, .kept Lb (.mapIter (some b) cl i.1 cl)), (2999999, .old W (keptOf [mapO b es cl, mapO b2 es2 cl2]))], []⟩) (fun i => Run es L i.1 i.2 ∧ ∀ c ∈ i.2, c ∈ L2) (fun i => (leftOf es i.1).size) (#[], []) ⟨Run.start es L, fun _ h => (by cases h)⟩ ?_ ?_
  · (refine Le.mk ?_ ?_; (repeat' (first | exact LeEnv.done | refine LeEnv.cons ?_ ?_ | exact PVLe.refl _ | exact PVLe.s (SVLe.nil _ _ _) | exact PVLe.s (SVLe.no _ _ _ _) | (refine PVLe.int ?_; first | rfl | omega | (simp; done) | (simp; omega)) | (refine PVLe.els ?_; first | rfl | assumption | (simp; done)) | (refine PVLe.bool ?_; first | rfl | assumption) | (refine PVLe.bsl ?_; first | rfl | assumption | (simp; done))));  (repeat' (first | exact LeBox.done | refine LeBox.cons ?_ ?_ | exact rfl)))
  · rintro ⟨seen, C⟩ ⟨hR, hG⟩
    dsimp only at hR hG ⊢
    repeat' (first
    | (apply RunK.nextM 2000005 2000000; (case hw => exact rfl); (case hx => exact rfl); (case hk => exact rfl); (case hh => exact rfl); (case hkm => exact rfl); (case hold => exact h.at_.old); (case hap => (repeat' (first | exact trivial | first | exact not_one hb | exact not_one hb2 | refine And.intro ?_ ?_))))
    | refine Wt.seq ?_
    | (apply Wt.regionK; exact rfl))
    · intro h0
      have hp := hR.stop h h0
      rw [decide_eq_true (sub_eq h.srt h2.srt hlen fun c hc => hG c (hp.mem_iff.2 hc))]
      repeat' (first
    | refine Wt.seq ?_
    | (apply Wt.regionK; exact rfl)
    | refine Wt.ret ?_
    | refine Wt.exit ?_
    | refine RunK.nil ?_
    | (apply RunK.assignV; exact rfl; exact rfl)
    | (apply RunK.extract; exact rfl; exact rfl; exact rfl)
    | (apply Wt.cond; exact rfl; all_goals (intro hg; (first | exact absurd hg (by decide) | skip); (first | (with_reducible replace hg := not_t hg) | (with_reducible replace hg := not_f hg) | skip); (first | (with_reducible replace hg := dec_t hg) | (with_reducible replace hg := dec_f hg) | skip); (first | (with_reducible exact absurd rfl hg) | skip); (repeat rw [List.length_map] at hg); try (exfalso; omega))))
      exact ActEnd.mk (.s (.v (.bool true))) [] ⟨rfl, rfl⟩ (.v1 rfl rfl) rfl rfl .nil (.same 2000000 rfl (.same 2000001 rfl .nil))
    · intro e he
      have hem := (mem_left he).1
      obtain ⟨c, hc, e1, e2⟩ := h.entry hem
      obtain ⟨hR', hcC⟩ := hR.step h he hc e1
      have hsh := left_shrinks es seen e he
      rcases e with ⟨k, v, bn⟩
      dsimp only at e1 e2 hR' hsh
      subst e1 e2
      by_cases hd : ∃ d ∈ L2, d.at_ = c.at_
      · obtain ⟨d, hd, hdc⟩ := hd
        have hhas : Has es2 c.at_.v d.v.w := (h2.has _ _).2 ⟨d, hd, by rw [hdc], rfl⟩
        repeat' (first
    | (apply RunK.entryM (e := ⟨c.at_.v, c.v.w, bn⟩) 2000005 2000000; (case hw => exact rfl); (case hx => exact rfl); (case hh' => exact rfl); (case hk => exact rfl); (case hh => exact rfl); (case hkm => exact rfl); (case he => exact hem); (case hn => exact h.at_.born)) | (apply RunK.lookupOk1 keyRef Try.underlying64 2000001; exact rfl; exact rfl; exact rfl; exact rfl; exact rfl; exact h2.at_; exact ⟨c.at_, rfl⟩; exact hhas) | (apply RunK.bin; exact rfl; exact rfl; exact rfl; exact neqVal c.v d.v)
    | refine Wt.seq ?_
    | (apply Wt.regionK; exact rfl)
    | refine Wt.ret ?_
    | refine Wt.block ?_
    | refine Wt.skip ?_
    | refine RunK.nil ?_
    | (apply RunK.moveV; exact rfl; exact rfl)
    | (apply RunK.assignV; exact rfl; exact rfl)
    | (apply RunK.alloc; exact rfl; apply Cells.eq; (first | exact Cells.agg _ | exact Cells.int _ _ | exact Cells.bool _ | exact Cells.one _ rfl); exact rfl)
    | (apply RunK.moveT; exact rfl; exact rfl)
    | (apply RunK.loadR; exact rfl; exact rfl; exact rfl; exact rfl; (apply cut_eq; repeat (first | exact Cut.nil _ | apply Cut.cons | apply Cut.skip)))
    | (apply RunK.pickF; exact rfl; exact rfl; exact rfl)
    | (apply RunK.not; exact rfl; exact rfl)
    | (apply RunK.extract; exact rfl; exact rfl; exact rfl)
    | (apply RunK.store; exact rfl; exact rfl; exact rfl; exact rfl; exact rfl; exact rfl; exact rfl; apply upd_eq; exact rfl; (first | exact Cells.agg _ | exact Cells.int _ _ | exact Cells.bool _ | exact Cells.one _ rfl); (repeat (first | exact Upd.nil _ | apply Upd.cons | apply Upd.skip)))
    | (apply Wt.cond; exact rfl; all_goals (intro hg; (first | exact absurd hg (by decide) | skip); (first | (with_reducible replace hg := not_t hg) | (with_reducible replace hg := not_f hg) | skip); (first | (with_reducible replace hg := dec_t hg) | (with_reducible replace hg := dec_f hg) | skip); (first | (with_reducible exact absurd rfl hg) | skip); (repeat rw [List.length_map] at hg); try (exfalso; omega))))
        · have hv : ¬c.v = d.v := hg
          have hne : ¬L = L2 := fun e => by
            rw [← e] at hd
            exact hv (by rw [srt_at h.srt hc hd hdc.symm])
          rw [decide_eq_false hne]
          exact ActEnd.mk (.s (.v (.bool false))) [] ⟨rfl, rfl⟩ (.v1 rfl rfl) rfl rfl .nil (.same 2000000 rfl (.same 2000001 rfl .nil))
        · have hcd : c = d := by
            rcases c with ⟨c1, c2⟩; rcases d with ⟨d1, d2⟩
            dsimp only at hg hdc
            rw [hg, hdc]
          refine ⟨(seen.push bn, C ++ [c]), ⟨hR', fun y hy => ?_⟩, hsh, ?_⟩
          · rcases List.mem_append.1 hy with hy | hy
            · exact hG y hy
            · rw [List.mem_singleton.1 hy, hcd]; exact hd
          · (refine Le.mk ?_ ?_; (repeat' (first | exact LeEnv.done | refine LeEnv.cons ?_ ?_ | exact PVLe.refl _ | exact PVLe.s (SVLe.nil _ _ _) | exact PVLe.s (SVLe.no _ _ _ _) | (refine PVLe.int ?_; first | rfl | omega | (simp; done) | (simp; omega)) | (refine PVLe.els ?_; first | rfl | assumption | (simp; done)) | (refine PVLe.bool ?_; first | rfl | assumption) | (refine PVLe.bsl ?_; first | rfl | assumption | (simp; done))));  (repeat' (first | exact LeBox.done | refine LeBox.cons ?_ ?_ | exact rfl)))
      · have hno : ∀ v, ¬Has es2 c.at_.v v := fun v hv => by
          obtain ⟨d, hd', e, _⟩ := (h2.has _ _).1 hv
          exact hd ⟨d, hd', (Ref.v_inj e).symm⟩
        rw [decide_eq_false (fun e : L = L2 => hd ⟨c, e ▸ hc, rfl⟩)]
        repeat' (first
    | (apply RunK.entryM (e := ⟨c.at_.v, c.v.w, bn⟩) 2000005 2000000; (case hw => exact rfl); (case hx => exact rfl); (case hh' => exact rfl); (case hk => exact rfl); (case hh => exact rfl); (case hkm => exact rfl); (case he => exact hem); (case hn => exact h.at_.born)) | (apply RunK.lookupOk0 keyRef Try.underlying64 2000001; exact rfl; exact rfl; exact rfl; exact rfl; exact rfl; exact h2.at_; exact ⟨c.at_, rfl⟩; exact hno)
    | refine Wt.seq ?_
    | (apply Wt.regionK; exact rfl)
    | refine Wt.ret ?_
    | refine Wt.block ?_
    | refine Wt.skip ?_
    | refine RunK.nil ?_
    | (apply RunK.moveV; exact rfl; exact rfl)
    | (apply RunK.assignV; exact rfl; exact rfl)
    | (apply RunK.alloc; exact rfl; apply Cells.eq; (first | exact Cells.agg _ | exact Cells.int _ _ | exact Cells.bool _ | exact Cells.one _ rfl); exact rfl)
    | (apply RunK.moveT; exact rfl; exact rfl)
    | (apply RunK.loadR; exact rfl; exact rfl; exact rfl; exact rfl; (apply cut_eq; repeat (first | exact Cut.nil _ | apply Cut.cons | apply Cut.skip)))
    | (apply RunK.pickT; exact rfl; exact rfl; exact rfl)
    | (apply RunK.not; exact rfl; exact rfl)
    | (apply RunK.extract; exact rfl; exact rfl; exact rfl)
    | (apply RunK.store; exact rfl; exact rfl; exact rfl; exact rfl; exact rfl; exact rfl; exact rfl; apply upd_eq; exact rfl; (first | exact Cells.agg _ | exact Cells.int _ _ | exact Cells.bool _ | exact Cells.one _ rfl); (repeat (first | exact Upd.nil _ | apply Upd.cons | apply Upd.skip)))
    | (apply RunK.skip; exact rfl; exact rfl)
    | (apply Wt.cond; exact rfl; all_goals (intro hg; (first | exact absurd hg (by decide) | skip); (first | (with_reducible replace hg := not_t hg) | (with_reducible replace hg := not_f hg) | skip); (first | (with_reducible replace hg := dec_t hg) | (with_reducible replace hg := dec_f hg) | skip); (first | (with_reducible exact absurd rfl hg) | skip); (repeat rw [List.length_map] at hg); try (exfalso; omega))))
        exact ActEnd.mk (.s (.v (.bool false))) [] ⟨rfl, rfl⟩ (.v1 rfl rfl) rfl rfl .nil (.same 2000000 rfl (.same 2000001 rfl .nil))
set_option maxRecDepth 100000 in
theorem shEqual (pb b pb2 b2 : Nat) (es es2 : Array MapEntry) (cl cl2 : Nat) (L L2 : List Cell) (h : ShOk es cl L) (h2 : ShOk es2 cl2 L2) :
    Acts Try.prog 26 [.v (ptr pb), .v (ptr pb2)] [ptrO pb b, mapO b es cl, ptrO pb2 b2, mapO b2 es2 cl2] [] (fun r fs => r = .s (.v (.bool (decide (L = L2)))) ∧ fs = []) := by
  have he := mapsEqual b b2 es es2 cl cl2 L L2 h h2
  generalize decide (L = L2) = B at *
  refine acts_of_wt Try.func26 rfl (by decide) _ Try.ntmps26 rfl Try.results26 rfl (by simp [ownOf]) fun w0 W => ?_
  repeat' (first
    | (apply RunK.nilCheckP; exact rfl; exact rfl) | (apply RunK.fieldP; exact rfl; exact rfl) | (apply RunK.loadP 2000000; exact rfl; exact rfl; exact rfl; exact rfl; exact rfl) | (apply RunK.bin; exact rfl; exact rfl; exact rfl; first | exact BinRun.eqlM1 ⟨_, _, Try.underlying64⟩ | exact BinRun.eqlP1 ⟨_, Try.underlying24⟩) | (apply RunK.loadP 2000002; exact rfl; exact rfl; exact rfl; exact rfl; exact rfl) | (apply RunK.actR _ he (fun _ _ h => h.1); (case hn => exact rfl); (case hw => exact rfl); (case he => exact rfl); (case hx => exact rfl); (case ha => (repeat (first | exact ArgsLe.nil | refine ArgsLe.cons ?_ ?_ | exact ArgLe.v _ | exact ArgLe.sl _ _ _ _ | exact ArgLe.nil _ | exact ArgLe.nil' | (apply ArgLe.bsl; exact rfl; (first | exact rfl | (rw [List.length_map]; done) | (simp only [List.length_map]; done) | (simp; done) | (simp; omega)); (first | assumption | exact map_len (fun _ => rfl)))))); (case hgs => exact rfl); (case hf => exact .kept 2000001 rfl rfl (.kept 2000003 rfl rfl .nil)))
    | refine Wt.seq ?_
    | (apply Wt.regionK; exact rfl)
    | (apply Wt.regionD; kernel_rfl; kernel_rfl; exact rfl; exact rfl)
    | refine Wt.ret ?_
    | refine Wt.skip ?_
    | refine RunK.nil ?_
    | (apply RunK.moveV; exact rfl; exact rfl)
    | (apply RunK.assignV; exact rfl; exact rfl)
    | (apply RunK.pickF; exact rfl; exact rfl; exact rfl)
    | (apply Wt.cond; exact rfl; all_goals (intro hg; (first | exact absurd hg (by decide) | skip); (first | (with_reducible replace hg := not_t hg) | (with_reducible replace hg := not_f hg) | skip); (first | (with_reducible replace hg := dec_t hg) | (with_reducible replace hg := dec_f hg) | skip); (first | (with_reducible exact absurd rfl hg) | skip); (repeat rw [List.length_map] at hg); try (exfalso; omega))))
  exact ActEnd.mk (.s (.v (.bool B))) [] ⟨rfl, rfl⟩ (.v1 rfl rfl) rfl rfl .nil (.same 2000000 rfl (.same 2000001 rfl (.same 2000002 rfl (.same 2000003 rfl .nil))))
set_option maxRecDepth 100000 in
theorem shEqualNN : Pure Try.prog 26 [.v nilP, .v nilP] (.s (.v (.bool true))) := by
  refine pure_of_wt Try.func26 rfl (by decide) _ Try.ntmps26 rfl Try.results26 fun w0 => ?_
  repeat' (first
    | (apply RunK.bin; exact rfl; exact rfl; exact rfl; first | exact BinRun.eqlP0 ⟨_, Try.underlying24⟩ | exact BinRun.eqlP0 ⟨_, Try.underlying28⟩ | exact BinRun.eqlP1 ⟨_, Try.underlying24⟩ | exact BinRun.eqlP1 ⟨_, Try.underlying28⟩)
    | refine Wt.seq ?_
    | (apply Wt.regionK; exact rfl)
    | refine Wt.ret ?_
    | refine RunK.nil ?_
    | (apply RunK.moveV; exact rfl; exact rfl)
    | (apply RunK.assignV; exact rfl; exact rfl)
    | (apply RunK.pickT; exact rfl; exact rfl; exact rfl)
    | (apply RunK.skip; exact rfl; exact rfl)
    | (apply Wt.cond; exact rfl; all_goals (intro hg; (first | exact absurd hg (by decide) | skip); (first | (with_reducible replace hg := not_t hg) | (with_reducible replace hg := not_f hg) | skip); (first | (with_reducible replace hg := dec_t hg) | (with_reducible replace hg := dec_f hg) | skip); (first | (with_reducible exact absurd rfl hg) | skip); (repeat rw [List.length_map] at hg); try (exfalso; omega))))
  apply ResOk.v1; exact rfl; exact rfl
set_option maxRecDepth 100000 in
theorem shEqualNS (pb : Nat) : Pure Try.prog 26 [.v nilP, .v (ptr pb)] (.s (.v (.bool false))) := by
  refine pure_of_wt Try.func26 rfl (by decide) _ Try.ntmps26 rfl Try.results26 fun w0 => ?_
  repeat' (first
    | (apply RunK.bin; exact rfl; exact rfl; exact rfl; first | exact BinRun.eqlP0 ⟨_, Try.underlying24⟩ | exact BinRun.eqlP0 ⟨_, Try.underlying28⟩ | exact BinRun.eqlP1 ⟨_, Try.underlying24⟩ | exact BinRun.eqlP1 ⟨_, Try.underlying28⟩)
    | refine Wt.seq ?_
    | (apply Wt.regionK; exact rfl)
    | refine Wt.ret ?_
    | refine RunK.nil ?_
    | (apply RunK.moveV; exact rfl; exact rfl)
    | (apply RunK.assignV; exact rfl; exact rfl)
    | (apply RunK.pickT; exact rfl; exact rfl; exact rfl)
    | (apply RunK.skip; exact rfl; exact rfl)
    | (apply Wt.cond; exact rfl; all_goals (intro hg; (first | exact absurd hg (by decide) | skip); (first | (with_reducible replace hg := not_t hg) | (with_reducible replace hg := not_f hg) | skip); (first | (with_reducible replace hg := dec_t hg) | (with_reducible replace hg := dec_f hg) | skip); (first | (with_reducible exact absurd rfl hg) | skip); (repeat rw [List.length_map] at hg); try (exfalso; omega))))
  apply ResOk.v1; exact rfl; exact rfl
set_option maxRecDepth 100000 in
theorem shEqualSN (pb : Nat) : Pure Try.prog 26 [.v (ptr pb), .v nilP] (.s (.v (.bool false))) := by
  refine pure_of_wt Try.func26 rfl (by decide) _ Try.ntmps26 rfl Try.results26 fun w0 => ?_
  repeat' (first
    | (apply RunK.bin; exact rfl; exact rfl; exact rfl; first | exact BinRun.eqlP0 ⟨_, Try.underlying24⟩ | exact BinRun.eqlP0 ⟨_, Try.underlying28⟩ | exact BinRun.eqlP1 ⟨_, Try.underlying24⟩ | exact BinRun.eqlP1 ⟨_, Try.underlying28⟩)
    | refine Wt.seq ?_
    | (apply Wt.regionK; exact rfl)
    | refine Wt.ret ?_
    | refine RunK.nil ?_
    | (apply RunK.moveV; exact rfl; exact rfl)
    | (apply RunK.assignV; exact rfl; exact rfl)
    | (apply RunK.pickF; exact rfl; exact rfl; exact rfl)
    | (apply Wt.cond; exact rfl; all_goals (intro hg; (first | exact absurd hg (by decide) | skip); (first | (with_reducible replace hg := not_t hg) | (with_reducible replace hg := not_f hg) | skip); (first | (with_reducible replace hg := dec_t hg) | (with_reducible replace hg := dec_f hg) | skip); (first | (with_reducible exact absurd rfl hg) | skip); (repeat rw [List.length_map] at hg); try (exfalso; omega))))
  apply ResOk.v1; exact rfl; exact rfl
end Go.Proofs.Ytnpbnlmhmjejhaa
