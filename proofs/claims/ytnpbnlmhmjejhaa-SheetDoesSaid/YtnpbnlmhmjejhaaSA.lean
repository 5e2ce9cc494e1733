/- The walks of the sheet's methods: put, Set, Get, Len. -/
import Derived.Test.YtnpbnlmhmjejhaaSM
import Derived.Test.YtnpbnlmhmjejhaaSN
namespace Go.Proofs.Ytnpbnlmhmjejhaa
open Pv Go.RowKit
abbrev ptr (b : Nat) : Value := .pointer (some ⟨b, 0, none⟩)
abbrev ptrO (pb b : Nat) : PV := .kept pb (.cells #[.map (some b)] 66 (0, 0))
abbrev mapO (b : Nat) (es : Array MapEntry) (cl : Nat) : PV := .kept b (.map es cl)
set_option maxRecDepth 100000 in
theorem not_one {a b : Nat} (h : a ≠ b) : a ∉ [b] := fun hm => h (List.mem_singleton.1 hm)
set_option maxRecDepth 100000 in
theorem shPut (pb b : Nat) (es : Array MapEntry) (cl : Nat) (L : List Cell) (h : ShOk es cl L) (x : Ref) (v : Val) :
    Acts Try.prog 29 [.v (ptr pb), .v x.v, .v v.w] [ptrO pb b, mapO b es cl] [b] (fun r fs => ∃ es' cl', ShOk es' cl' (putL L ⟨x, v⟩) ∧ r = .tup [] ∧ fs = [mapO b es' cl']) := by
  have hm2 : Try.prog.follows .mixedOrders = true := by kernel_rfl
  refine acts_of_wt Try.func29 rfl (by decide) _ Try.ntmps29 rfl Try.results29 rfl (by simp [ownOf]) fun w0 W => ?_
  refine Wt.kne (t1 := 2000000) (t2 := 2000001) rfl rfl (by intro h; cases h) (fun hne => ?_)
  repeat' (first
    | (apply RunK.nilCheckP; exact rfl; exact rfl) | (apply RunK.fieldP; exact rfl; exact rfl) | (apply RunK.loadP 2000000; exact rfl; exact rfl; exact rfl; exact rfl; exact rfl) | (apply RunK.bin; exact rfl; exact rfl; exact rfl; first | exact BinRun.eqlM1 ⟨_, _, Try.underlying64⟩ | exact BinRun.eqlP1 ⟨_, Try.underlying24⟩) | (refine Wt.regionP (i := 4) 5 1 hm2 (by decide +kernel) rfl rfl rfl (by kernel_rfl) rfl (fun K hK hN => ?_)) | (refine Wt.regionP (i := 5) 6 1 hm2 (by decide +kernel) rfl rfl rfl (by kernel_rfl) rfl (fun K hK hN => ?_)) | (refine AnyA.go [5] hK (wf_of (by kernel_rfl)) (by decide +kernel) rfl ?_) | (refine AnyA.go [6] hK (wf_of (by kernel_rfl)) (by decide +kernel) rfl ?_) | (refine AnyA.fin (by decide +kernel) (hN _ ?_)) | (refine AllJ.cons ?_ ?_) | exact AllJ.nil | (refine ⟨_, rfl, rfl, ?_⟩)
    | refine Wt.seq ?_
    | (apply Wt.regionK; exact rfl)
    | refine Wt.skip ?_
    | refine RunK.nil ?_
    | (apply RunK.moveV; exact rfl; exact rfl)
    | (apply RunK.load1; exact rfl; exact rfl; exact rfl; exact rfl)
    | (apply RunK.field; exact rfl; exact rfl)
    | (apply RunK.box; exact rfl; exact rfl; apply Cells.eq; (first | exact Cells.agg _ | exact Cells.int _ _ | exact Cells.bool _ | exact Cells.one _ rfl); exact rfl)
    | (apply RunK.loadR; exact rfl; exact rfl; exact rfl; exact rfl; (apply cut_eq; repeat (first | exact Cut.nil _ | apply Cut.cons | apply Cut.skip)))
    | (apply RunK.eql; exact rfl; exact rfl; exact rfl)
    | (apply Wt.cond; exact rfl; all_goals (intro hg; (first | exact absurd hg (by decide) | skip); (first | (with_reducible replace hg := not_t hg) | (with_reducible replace hg := not_f hg) | skip); (first | (with_reducible replace hg := dec_t hg) | (with_reducible replace hg := dec_f hg) | skip); (first | (with_reducible exact absurd rfl hg) | skip); (repeat rw [List.length_map] at hg); try (exfalso; omega))))
  · apply RunK.delete keyRef Try.underlying64 2000001 (u := x.v) (es := es) (clock := cl) (b := b)
    · exact rfl
    · exact rfl
    · exact rfl
    · exact rfl
    · exact rfl
    · exact h.at_
    · exact ⟨x, rfl⟩
    · (repeat' (first | exact trivial | (exact not_one hne) | refine And.intro ?_ ?_))
    intro es' hM hh
    repeat' (first
    | (refine AnyA.fin (by decide +kernel) (hN _ ?_))
    | refine Wt.ret ?_
    | refine RunK.nil ?_)
    exact ActEnd.mk (.tup []) [mapO b es' cl] ⟨es', cl, h.del (by omega) hM hh, rfl, rfl⟩ .zero rfl rfl (.kept 2000001 rfl .nil) (.same 2000000 rfl (.turn 2000001 rfl (List.mem_singleton_self _) .nil))
  · apply RunK.mapUpdate keyRef Try.underlying64 2000001 (u := x.v) (v := v.w) (es := es) (clock := cl) (b := b)
    · exact rfl
    · exact rfl
    · exact rfl
    · exact rfl
    · exact rfl
    · exact rfl
    · exact h.at_
    · exact ⟨x, rfl⟩
    · (repeat' (first | exact trivial | (exact not_one hne) | refine And.intro ?_ ?_))
    intro es' cl' hM hh
    repeat' (first
    | (refine AnyA.fin (by decide +kernel) (hN _ ?_))
    | refine RunK.nil ?_)
    exact ActEnd.mk (.tup []) [mapO b es' cl'] ⟨es', cl', h.put (by omega) hM hh, rfl, rfl⟩ .zero rfl rfl (.kept 2000001 rfl .nil) (.same 2000000 rfl (.turn 2000001 rfl (List.mem_singleton_self _) .nil))
set_option maxRecDepth 100000 in
theorem shSet (pb b : Nat) (es : Array MapEntry) (cl : Nat) (L : List Cell) (h : ShOk es cl L) (x : Ref) (v : Val) (hj : judgeE x v = 0) :
    Acts Try.prog 17 [.v (ptr pb), .v x.v, .v v.w] [ptrO pb b, mapO b es cl] [b] (fun r fs => ∃ es' cl', ShOk es' cl' (putL L ⟨x, v⟩) ∧ r = .s (.v (.int .i64 0)) ∧ fs = [mapO b es' cl']) := by
  have hp := shPut pb b es cl L h x v
  have hjj := judge x v
  rw [hj] at hjj
  refine acts_of_wt Try.func17 rfl (by decide) _ Try.ntmps17 rfl Try.results17 rfl (by simp [ownOf]) fun w0 W => ?_
  refine Wt.kne (t1 := 2000000) (t2 := 2000001) rfl rfl (by intro h; cases h) (fun hne => ?_)
  repeat' (first
    | (apply RunK.nilCheckP; exact rfl; exact rfl) | (apply RunK.fieldP; exact rfl; exact rfl) | (apply RunK.loadP 2000000; exact rfl; exact rfl; exact rfl; exact rfl; exact rfl) | (apply RunK.bin; exact rfl; exact rfl; exact rfl; first | exact BinRun.eqlM1 ⟨_, _, Try.underlying64⟩ | exact BinRun.eqlP1 ⟨_, Try.underlying24⟩) | (apply RunK.callS; exact rfl; exact rfl; exact hjj; (repeat (first | exact ArgsLe.nil | refine ArgsLe.cons ?_ ?_ | exact ArgLe.v _ | exact ArgLe.sl _ _ _ _ | exact ArgLe.nil _ | exact ArgLe.nil' | (apply ArgLe.bsl; exact rfl; (first | exact rfl | (rw [List.length_map]; done) | (simp only [List.length_map]; done) | (simp; done) | (simp; omega)); (first | assumption | exact map_len (fun _ => rfl))))); exact rfl) | (apply RunK.actF [2000001] 900001 hp; (case hw => exact rfl); (case he => first | exact (fun h => by cases h) | exact fun _ => rfl); (case hx => exact rfl); (case ha => (repeat (first | exact ArgsLe.nil | refine ArgsLe.cons ?_ ?_ | exact ArgLe.v _ | exact ArgLe.sl _ _ _ _ | exact ArgLe.nil _ | exact ArgLe.nil' | (apply ArgLe.bsl; exact rfl; (first | exact rfl | (rw [List.length_map]; done) | (simp only [List.length_map]; done) | (simp; done) | (simp; omega)); (first | assumption | exact map_len (fun _ => rfl)))))); (case hng => exact noNest_nil _); (case hf => exact .kept 2000000 rfl rfl (.kept 2000001 rfl rfl .nil)); (case hap => (repeat' (first | exact trivial | (exact not_one hne) | refine And.intro ?_ ?_))))
    | refine Wt.seq ?_
    | (apply Wt.regionK; exact rfl)
    | refine Wt.skip ?_
    | refine RunK.nil ?_
    | (apply RunK.moveV; exact rfl; exact rfl)
    | (apply RunK.assignV; exact rfl; exact rfl)
    | (apply RunK.box; exact rfl; exact rfl; apply Cells.eq; (first | exact Cells.agg _ | exact Cells.int _ _ | exact Cells.bool _ | exact Cells.one _ rfl); exact rfl)
    | (apply RunK.loadR; exact rfl; exact rfl; exact rfl; exact rfl; (apply cut_eq; repeat (first | exact Cut.nil _ | apply Cut.cons | apply Cut.skip)))
    | (apply RunK.neq; exact rfl; exact rfl; exact rfl)
    | (apply Wt.cond; exact rfl; all_goals (intro hg; (first | exact absurd hg (by decide) | skip); (first | (with_reducible replace hg := not_t hg) | (with_reducible replace hg := not_f hg) | skip); (first | (with_reducible replace hg := dec_t hg) | (with_reducible replace hg := dec_f hg) | skip); (first | (with_reducible exact absurd rfl hg) | skip); (repeat rw [List.length_map] at hg); try (exfalso; omega))))
  rintro _ _ ⟨es', cl', hS, rfl, rfl⟩ _
  repeat' (first
    | refine Wt.seq ?_
    | (apply Wt.regionK; exact rfl)
    | refine Wt.ret ?_
    | refine RunK.nil ?_
    | (apply RunK.assignV; exact rfl; exact rfl))
  exact ActEnd.mk (.s (.v (.int .i64 0))) [mapO b es' cl'] ⟨es', cl', hS, rfl, rfl⟩ (.v1 rfl rfl) rfl rfl (.kept 2000001 rfl .nil) (.same 2000000 rfl (.turn 2000001 rfl (List.mem_singleton_self _) .nil))
set_option maxRecDepth 100000 in
theorem shSetE (pb b : Nat) (es : Array MapEntry) (cl : Nat) (x : Ref) (v : Val) (hj : judgeE x v ≠ 0) :
    Acts Try.prog 17 [.v (ptr pb), .v x.v, .v v.w] [ptrO pb b, mapO b es cl] [] (fun r fs => r = .s (.v (.int .i64 (judgeE x v))) ∧ fs = []) := by
  have hjj := judge x v
  generalize judgeE x v = J at *
  refine acts_of_wt Try.func17 rfl (by decide) _ Try.ntmps17 rfl Try.results17 rfl (by simp [ownOf]) fun w0 W => ?_
  repeat' (first
    | (apply RunK.nilCheckP; exact rfl; exact rfl) | (apply RunK.fieldP; exact rfl; exact rfl) | (apply RunK.loadP 2000000; exact rfl; exact rfl; exact rfl; exact rfl; exact rfl) | (apply RunK.bin; exact rfl; exact rfl; exact rfl; first | exact BinRun.eqlM1 ⟨_, _, Try.underlying64⟩ | exact BinRun.eqlP1 ⟨_, Try.underlying24⟩) | (apply RunK.callS; exact rfl; exact rfl; exact hjj; (repeat (first | exact ArgsLe.nil | refine ArgsLe.cons ?_ ?_ | exact ArgLe.v _ | exact ArgLe.sl _ _ _ _ | exact ArgLe.nil _ | exact ArgLe.nil' | (apply ArgLe.bsl; exact rfl; (first | exact rfl | (rw [List.length_map]; done) | (simp only [List.length_map]; done) | (simp; done) | (simp; omega)); (first | assumption | exact map_len (fun _ => rfl))))); exact rfl)
    | refine Wt.seq ?_
    | (apply Wt.regionK; exact rfl)
    | refine Wt.ret ?_
    | refine Wt.skip ?_
    | refine RunK.nil ?_
    | (apply RunK.moveV; exact rfl; exact rfl)
    | (apply RunK.assignV; exact rfl; exact rfl)
    | (apply RunK.box; exact rfl; exact rfl; apply Cells.eq; (first | exact Cells.agg _ | exact Cells.int _ _ | exact Cells.bool _ | exact Cells.one _ rfl); exact rfl)
    | (apply RunK.loadR; exact rfl; exact rfl; exact rfl; exact rfl; (apply cut_eq; repeat (first | exact Cut.nil _ | apply Cut.cons | apply Cut.skip)))
    | (apply RunK.neq; exact rfl; exact rfl; exact rfl)
    | (apply Wt.cond; exact rfl; all_goals (intro hg; (first | exact absurd hg (by decide) | skip); (first | (with_reducible replace hg := not_t hg) | (with_reducible replace hg := not_f hg) | skip); (first | (with_reducible replace hg := dec_t hg) | (with_reducible replace hg := dec_f hg) | skip); (first | (with_reducible exact absurd rfl hg) | skip); (repeat rw [List.length_map] at hg); try (exfalso; omega))))
  exact ActEnd.mk (.s (.v (.int .i64 J))) [] ⟨rfl, rfl⟩ (.v1 rfl rfl) rfl rfl .nil (.same 2000000 rfl (.same 2000001 rfl .nil))
set_option maxRecDepth 100000 in
theorem shLen (pb b : Nat) (es : Array MapEntry) (cl : Nat) (L : List Cell) (h : ShOk es cl L) :
    Acts Try.prog 15 [.v (ptr pb)] [ptrO pb b, mapO b es cl] [] (fun r fs => r = .s (.v (.int .i64 (L.length : Int))) ∧ fs = []) := by
  have hs := h.size
  refine acts_of_wt Try.func15 rfl (by decide) _ Try.ntmps15 rfl Try.results15 rfl (by simp [ownOf]) fun w0 W => ?_
  repeat' (first
    | (apply RunK.nilCheckP; exact rfl; exact rfl) | (apply RunK.fieldP; exact rfl; exact rfl) | (apply RunK.loadP 2000000; exact rfl; exact rfl; exact rfl; exact rfl; exact rfl) | (apply RunK.bin; exact rfl; exact rfl; exact rfl; first | exact BinRun.eqlM1 ⟨_, _, Try.underlying64⟩ | exact BinRun.eqlP1 ⟨_, Try.underlying24⟩) | (apply RunK.lenM Try.underlying64 2000001; exact rfl; exact rfl; exact rfl; exact rfl; rw [hs])
    | refine Wt.seq ?_
    | (apply Wt.regionK; exact rfl)
    | refine Wt.ret ?_
    | refine Wt.skip ?_
    | refine RunK.nil ?_
    | (apply RunK.moveV; exact rfl; exact rfl)
    | (apply RunK.assignV; exact rfl; exact rfl)
    | (apply Wt.cond; exact rfl; all_goals (intro hg; (first | exact absurd hg (by decide) | skip); (first | (with_reducible replace hg := not_t hg) | (with_reducible replace hg := not_f hg) | skip); (first | (with_reducible replace hg := dec_t hg) | (with_reducible replace hg := dec_f hg) | skip); (first | (with_reducible exact absurd rfl hg) | skip); (repeat rw [List.length_map] at hg); try (exfalso; omega))))
  exact ActEnd.mk (.s (.v (.int .i64 (L.length : Int)))) [] ⟨rfl, rfl⟩ (.v1 rfl rfl) rfl rfl .nil (.same 2000000 rfl (.same 2000001 rfl .nil))
set_option maxRecDepth 100000 in
theorem shGetE (pb b : Nat) (es : Array MapEntry) (cl : Nat) (x : Ref) (hj : refOk x = false) :
    Acts Try.prog 19 [.v (ptr pb), .v x.v] [ptrO pb b, mapO b es cl] [] (fun r fs => r = .tup [.v blankV.w, .v (.int .i64 3)] ∧ fs = []) := by
  have hv := valid x
  rw [hj] at hv
  refine acts_of_wt Try.func19 rfl (by decide) _ Try.ntmps19 rfl Try.results19 rfl (by simp [ownOf]) fun w0 W => ?_
  repeat' (first
    | (apply RunK.nilCheckP; exact rfl; exact rfl) | (apply RunK.fieldP; exact rfl; exact rfl) | (apply RunK.loadP 2000000; exact rfl; exact rfl; exact rfl; exact rfl; exact rfl) | (apply RunK.bin; exact rfl; exact rfl; exact rfl; first | exact BinRun.eqlM1 ⟨_, _, Try.underlying64⟩ | exact BinRun.eqlP1 ⟨_, Try.underlying24⟩) | (apply RunK.callS; exact rfl; exact rfl; exact hv; (repeat (first | exact ArgsLe.nil | refine ArgsLe.cons ?_ ?_ | exact ArgLe.v _ | exact ArgLe.sl _ _ _ _ | exact ArgLe.nil _ | exact ArgLe.nil' | (apply ArgLe.bsl; exact rfl; (first | exact rfl | (rw [List.length_map]; done) | (simp only [List.length_map]; done) | (simp; done) | (simp; omega)); (first | assumption | exact map_len (fun _ => rfl))))); exact rfl)
    | refine Wt.seq ?_
    | (apply Wt.regionK; exact rfl)
    | refine Wt.ret ?_
    | refine Wt.skip ?_
    | refine RunK.nil ?_
    | (apply RunK.moveV; exact rfl; exact rfl)
    | (apply RunK.assignV; exact rfl; exact rfl)
    | (apply RunK.box; exact rfl; exact rfl; apply Cells.eq; (first | exact Cells.agg _ | exact Cells.int _ _ | exact Cells.bool _ | exact Cells.one _ rfl); exact rfl)
    | (apply RunK.alloc; exact rfl; apply Cells.eq; (first | exact Cells.agg _ | exact Cells.int _ _ | exact Cells.bool _ | exact Cells.one _ rfl); exact rfl)
    | (apply RunK.loadR; exact rfl; exact rfl; exact rfl; exact rfl; (apply cut_eq; repeat (first | exact Cut.nil _ | apply Cut.cons | apply Cut.skip)))
    | (apply RunK.not; exact rfl; exact rfl)
    | (apply RunK.build; exact rfl; (repeat (first | exact PartsOk.nil | (apply PartsOk.cons; exact rfl))); (repeat (first | exact fill_nil | (apply fill_cons; exact rfl; (first | exact Cells.agg _ | exact Cells.int _ _ | exact Cells.bool _ | exact Cells.one _ rfl); exact rfl; (repeat (first | exact Upd.nil _ | apply Upd.cons | apply Upd.skip))))))
    | (apply RunK.store; exact rfl; exact rfl; exact rfl; exact rfl; exact rfl; exact rfl; exact rfl; apply upd_eq; exact rfl; (first | exact Cells.agg _ | exact Cells.int _ _ | exact Cells.bool _ | exact Cells.one _ rfl); (repeat (first | exact Upd.nil _ | apply Upd.cons | apply Upd.skip)))
    | (apply Wt.cond; exact rfl; all_goals (intro hg; (first | exact absurd hg (by decide) | skip); (first | (with_reducible replace hg := not_t hg) | (with_reducible replace hg := not_f hg) | skip); (first | (with_reducible replace hg := dec_t hg) | (with_reducible replace hg := dec_f hg) | skip); (first | (with_reducible exact absurd rfl hg) | skip); (repeat rw [List.length_map] at hg); try (exfalso; omega))))
  refine ActEnd.mk (.tup [.v blankV.w, .v (.int .i64 3)]) [] ⟨rfl, rfl⟩ ?_ rfl rfl .nil (.same 2000000 rfl (.same 2000001 rfl .nil))
  apply ResOk.cv; exact rfl; exact rfl; exact loadRow rfl rfl; exact rfl; exact rfl; exact rfl
set_option maxRecDepth 100000 in
theorem shGet (pb b : Nat) (es : Array MapEntry) (cl : Nat) (L : List Cell) (h : ShOk es cl L) (x : Ref) (hj : refOk x = true) :
    Acts Try.prog 19 [.v (ptr pb), .v x.v] [ptrO pb b, mapO b es cl] [] (fun r fs => r = .tup [.v (getL L x).w, .v (.int .i64 0)] ∧ fs = []) := by
  have hm2 : Try.prog.follows .mixedOrders = true := by kernel_rfl
  have hv := valid x
  rw [hj] at hv
  rcases h.get x with hg0 | ⟨hg1, hg0⟩
  · generalize getL L x = G at *
    refine acts_of_wt Try.func19 rfl (by decide) _ Try.ntmps19 rfl Try.results19 rfl (by simp [ownOf]) fun w0 W => ?_
    repeat' (first
    | (apply RunK.nilCheckP; exact rfl; exact rfl) | (apply RunK.fieldP; exact rfl; exact rfl) | (apply RunK.loadP 2000000; exact rfl; exact rfl; exact rfl; exact rfl; exact rfl) | (apply RunK.bin; exact rfl; exact rfl; exact rfl; first | exact BinRun.eqlM1 ⟨_, _, Try.underlying64⟩ | exact BinRun.eqlP1 ⟨_, Try.underlying24⟩) | (apply RunK.callS; exact rfl; exact rfl; exact hv; (repeat (first | exact ArgsLe.nil | refine ArgsLe.cons ?_ ?_ | exact ArgLe.v _ | exact ArgLe.sl _ _ _ _ | exact ArgLe.nil _ | exact ArgLe.nil' | (apply ArgLe.bsl; exact rfl; (first | exact rfl | (rw [List.length_map]; done) | (simp only [List.length_map]; done) | (simp; done) | (simp; omega)); (first | assumption | exact map_len (fun _ => rfl))))); exact rfl) | (apply RunK.lookup1 keyRef Try.underlying64 2000001; exact rfl; exact rfl; exact rfl; exact rfl; exact rfl; exact h.at_; exact ⟨x, rfl⟩; exact hg0) | (refine Wt.regionP (i := 5) 6 2 hm2 (by decide +kernel) rfl rfl rfl (by kernel_rfl) rfl (fun K hK hN => ?_)) | (refine AnyA.go [6, 7] hK (wf_of (by kernel_rfl)) (by decide +kernel) rfl ?_) | (refine AnyA.go [6, 8] hK (wf_of (by kernel_rfl)) (by decide +kernel) rfl ?_) | (refine AnyA.go [6] hK (wf_of (by kernel_rfl)) (by decide +kernel) rfl ?_) | (refine AnyA.go [7] hK (wf_of (by kernel_rfl)) (by decide +kernel) rfl ?_) | (refine AnyA.go [8] hK (wf_of (by kernel_rfl)) (by decide +kernel) rfl ?_) | (refine AnyA.go [9] hK (wf_of (by kernel_rfl)) (by decide +kernel) rfl ?_) | (refine AnyA.fin (by decide +kernel) (hN _ ?_)) | (refine AllJ.cons ?_ ?_) | exact AllJ.nil | (refine ⟨_, rfl, rfl, ?_⟩)
    | refine Wt.seq ?_
    | (apply Wt.regionK; exact rfl)
    | refine Wt.ret ?_
    | refine Wt.skip ?_
    | refine RunK.nil ?_
    | (apply RunK.moveV; exact rfl; exact rfl)
    | (apply RunK.assignV; exact rfl; exact rfl)
    | (apply RunK.box; exact rfl; exact rfl; apply Cells.eq; (first | exact Cells.agg _ | exact Cells.int _ _ | exact Cells.bool _ | exact Cells.one _ rfl); exact rfl)
    | (apply RunK.alloc; exact rfl; apply Cells.eq; (first | exact Cells.agg _ | exact Cells.int _ _ | exact Cells.bool _ | exact Cells.one _ rfl); exact rfl)
    | (apply RunK.loadR; exact rfl; exact rfl; exact rfl; exact rfl; (apply cut_eq; repeat (first | exact Cut.nil _ | apply Cut.cons | apply Cut.skip)))
    | (apply RunK.not; exact rfl; exact rfl)
    | (apply RunK.store; exact rfl; exact rfl; exact rfl; exact rfl; exact rfl; exact rfl; exact rfl; apply upd_eq; exact rfl; (first | exact Cells.agg _ | exact Cells.int _ _ | exact Cells.bool _ | exact Cells.one _ rfl); (repeat (first | exact Upd.nil _ | apply Upd.cons | apply Upd.skip)))
    | (apply Wt.cond; exact rfl; all_goals (intro hg; (first | exact absurd hg (by decide) | skip); (first | (with_reducible replace hg := not_t hg) | (with_reducible replace hg := not_f hg) | skip); (first | (with_reducible replace hg := dec_t hg) | (with_reducible replace hg := dec_f hg) | skip); (first | (with_reducible exact absurd rfl hg) | skip); (repeat rw [List.length_map] at hg); try (exfalso; omega))))
    all_goals refine ActEnd.mk (.tup [.v G.w, .v (.int .i64 0)]) [] ⟨rfl, rfl⟩ ?_ rfl rfl .nil (.same 2000000 rfl (.same 2000001 rfl .nil))
    all_goals (apply ResOk.cv; exact rfl; exact rfl; exact loadRow rfl rfl; exact rfl; exact rfl; exact rfl)
  · rw [hg1]
    refine acts_of_wt Try.func19 rfl (by decide) _ Try.ntmps19 rfl Try.results19 rfl (by simp [ownOf]) fun w0 W => ?_
    repeat' (first
    | (apply RunK.nilCheckP; exact rfl; exact rfl) | (apply RunK.fieldP; exact rfl; exact rfl) | (apply RunK.loadP 2000000; exact rfl; exact rfl; exact rfl; exact rfl; exact rfl) | (apply RunK.bin; exact rfl; exact rfl; exact rfl; first | exact BinRun.eqlM1 ⟨_, _, Try.underlying64⟩ | exact BinRun.eqlP1 ⟨_, Try.underlying24⟩) | (apply RunK.callS; exact rfl; exact rfl; exact hv; (repeat (first | exact ArgsLe.nil | refine ArgsLe.cons ?_ ?_ | exact ArgLe.v _ | exact ArgLe.sl _ _ _ _ | exact ArgLe.nil _ | exact ArgLe.nil' | (apply ArgLe.bsl; exact rfl; (first | exact rfl | (rw [List.length_map]; done) | (simp only [List.length_map]; done) | (simp; done) | (simp; omega)); (first | assumption | exact map_len (fun _ => rfl))))); exact rfl) | (apply RunK.lookup0 keyRef Try.underlying64 2000001; exact rfl; exact rfl; exact rfl; exact rfl; exact rfl; exact h.at_; exact ⟨x, rfl⟩; exact hg0) | (refine Wt.regionP (i := 5) 6 2 hm2 (by decide +kernel) rfl rfl rfl (by kernel_rfl) rfl (fun K hK hN => ?_)) | (refine AnyA.go [6, 7] hK (wf_of (by kernel_rfl)) (by decide +kernel) rfl ?_) | (refine AnyA.go [6, 8] hK (wf_of (by kernel_rfl)) (by decide +kernel) rfl ?_) | (refine AnyA.go [6] hK (wf_of (by kernel_rfl)) (by decide +kernel) rfl ?_) | (refine AnyA.go [7] hK (wf_of (by kernel_rfl)) (by decide +kernel) rfl ?_) | (refine AnyA.go [8] hK (wf_of (by kernel_rfl)) (by decide +kernel) rfl ?_) | (refine AnyA.go [9] hK (wf_of (by kernel_rfl)) (by decide +kernel) rfl ?_) | (refine AnyA.fin (by decide +kernel) (hN _ ?_)) | (refine AllJ.cons ?_ ?_) | exact AllJ.nil | (refine ⟨_, rfl, rfl, ?_⟩)
    | refine Wt.seq ?_
    | (apply Wt.regionK; exact rfl)
    | refine Wt.ret ?_
    | refine Wt.skip ?_
    | refine RunK.nil ?_
    | (apply RunK.moveV; exact rfl; exact rfl)
    | (apply RunK.assignV; exact rfl; exact rfl)
    | (apply RunK.box; exact rfl; exact rfl; apply Cells.eq; (first | exact Cells.agg _ | exact Cells.int _ _ | exact Cells.bool _ | exact Cells.one _ rfl); exact rfl)
    | (apply RunK.alloc; exact rfl; apply Cells.eq; (first | exact Cells.agg _ | exact Cells.int _ _ | exact Cells.bool _ | exact Cells.one _ rfl); exact rfl)
    | (apply RunK.loadR; exact rfl; exact rfl; exact rfl; exact rfl; (apply cut_eq; repeat (first | exact Cut.nil _ | apply Cut.cons | apply Cut.skip)))
    | (apply RunK.not; exact rfl; exact rfl)
    | (apply RunK.store; exact rfl; exact rfl; exact rfl; exact rfl; exact rfl; exact rfl; exact rfl; apply upd_eq; exact rfl; (first | exact Cells.agg _ | exact Cells.int _ _ | exact Cells.bool _ | exact Cells.one _ rfl); (repeat (first | exact Upd.nil _ | apply Upd.cons | apply Upd.skip)))
    | (apply Wt.cond; exact rfl; all_goals (intro hg; (first | exact absurd hg (by decide) | skip); (first | (with_reducible replace hg := not_t hg) | (with_reducible replace hg := not_f hg) | skip); (first | (with_reducible replace hg := dec_t hg) | (with_reducible replace hg := dec_f hg) | skip); (first | (with_reducible exact absurd rfl hg) | skip); (repeat rw [List.length_map] at hg); try (exfalso; omega))))
    all_goals refine ActEnd.mk (.tup [.v blankV.w, .v (.int .i64 0)]) [] ⟨rfl, rfl⟩ ?_ rfl rfl .nil (.same 2000000 rfl (.same 2000001 rfl .nil))
    all_goals (apply ResOk.cv; exact rfl; exact rfl; exact loadRow rfl rfl; exact rfl; exact rfl; exact rfl)
end Go.Proofs.Ytnpbnlmhmjejhaa
