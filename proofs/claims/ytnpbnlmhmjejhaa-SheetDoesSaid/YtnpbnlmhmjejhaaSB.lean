/- The walk of the sheet's sorted: a loop over the map, a closure, the library's sort. -/
import Derived.Test.YtnpbnlmhmjejhaaSA
namespace Go.Proofs.Ytnpbnlmhmjejhaa
open Pv Go.RowKit Go.Shelf
set_option maxRecDepth 100000 in
theorem cell_len (x : Cell) : (Cell.vals x).length = 5 := rfl
set_option maxRecDepth 100000 in
theorem shSorted (pb b : Nat) (es : Array MapEntry) (cl : Nat) (L : List Cell) (h : ShOk es cl L) (hL : L.length ≤ 1000000) (p : Ref → Bool) (f : FuncId) (caps : List Value) (xb : Nat) (xo : Obj)
    (hk : ∀ x : Ref, Acts Try.prog f ([.v x.v] ++ caps.map SV.v) [.kept xb xo] [] (fun r _ => r = .s (.v (.bool (p x))))) :
    Acts Try.prog 33 [.v (ptr pb), .v (.func (.func f) #[] caps.toArray)] [ptrO pb b, mapO b es cl, .kept xb xo] [] (fun r fs => r = .s (cellsR (L.filter fun c => p c.at_)) ∧ fs = []) := by
  refine acts_of_wt Try.func33 rfl (by decide) _ Try.ntmps33 rfl Try.results33 rfl (by simp [ownOf]) fun w0 W => ?_
  repeat' (first
    | (apply RunK.nilCheckP; exact rfl; exact rfl) | (apply RunK.fieldP; exact rfl; exact rfl) | (apply RunK.loadP 2000000; exact rfl; exact rfl; exact rfl; exact rfl; exact rfl) | (apply RunK.bin; exact rfl; exact rfl; exact rfl; first | exact BinRun.eqlM1 ⟨_, _, Try.underlying64⟩ | exact BinRun.eqlP1 ⟨_, Try.underlying24⟩) | (apply RunK.rangeM Try.underlying64 2000005 2000001; exact rfl; exact rfl; exact rfl; exact rfl)
    | refine Wt.seq ?_
    | (apply Wt.regionK; exact rfl)
    | refine RunK.nil ?_
    | (apply RunK.moveV; exact rfl; exact rfl)
    | (apply RunK.assignN; exact rfl; exact rfl))
  intro Lb hfr
  have hb : b ≠ Lb := hfr 2000001 _ _ rfl
  have hpb : pb ≠ Lb := hfr 2000000 _ _ rfl
  have hxb : xb ≠ Lb := hfr 2000002 _ _ rfl
  repeat' (first
    | refine Wt.seq ?_
    | refine Wt.block ?_
    | refine RunK.nil ?_)
  refine Wt.loop (fun i : Array Nat × List Cell => ⟨[(1, .s (.v (.func (.func f) #[] caps.toArray))), (5, .s (cellsR (i.2.filter fun c => p c.at_))), (12, .s (.v (ptr Lb))), (2000000, ptrO pb b), (2000001, mapO b es cl), (2000002, .kept xb xo), (2000005, .kept Lb (.mapIter (some b) cl i.1 cl)), (2999999, .old W (keptOf [ptrO pb b, mapO b es cl, .kept xb xo]))], []⟩) (fun i => Run es L i.1 i.2) (fun i => (leftOf es i.1).size) (#[], []) (Run.start es L) ?_ ?_
  · (refine Le.mk ?_ ?_; (repeat' (first | exact LeEnv.done | refine LeEnv.cons ?_ ?_ | exact PVLe.refl _ | exact PVLe.s (SVLe.nil _ _ _) | exact PVLe.s (SVLe.no _ _ _ _) | (refine PVLe.int ?_; first | rfl | omega | (simp; done) | (simp; omega)) | (refine PVLe.els ?_; first | rfl | assumption | (simp; done)) | (refine PVLe.bool ?_; first | rfl | assumption) | (refine PVLe.bsl ?_; first | rfl | assumption | (simp; done))));  (repeat' (first | exact LeBox.done | refine LeBox.cons ?_ ?_ | exact rfl)))
  · rintro ⟨seen, C⟩ hR
    dsimp only at hR ⊢
    have hC := hR.len
    repeat' (first
    | (apply RunK.nextM 2000005 2000001; (case hw => exact rfl); (case hx => exact rfl); (case hk => exact rfl); (case hh => exact rfl); (case hkm => exact rfl); (case hold => exact h.at_.old); (case hap => (repeat' (first | exact trivial | first | exact not_one hb | exact not_one hpb | exact not_one hxb | refine And.intro ?_ ?_))))
    | refine Wt.seq ?_
    | (apply Wt.regionK; exact rfl))
    · intro h0
      have hp := (hR.stop h h0).filter fun c => p c.at_
      have hs : Srt (L.filter fun c => p c.at_) := srt_sub h.srt List.filter_sublist
      have hA : (C.filter fun c => p c.at_).length ≤ C.length := List.length_filter_le ..
      generalize (L.filter fun c => p c.at_) = M at *
      generalize (C.filter fun c => p c.at_) = A at *
      by_cases hA0 : A = []
      · subst hA0
        have hM : M = [] := hp.symm.eq_nil
        subst hM
        repeat' (first
    | (apply RunK.callT; exact rfl; exact rfl; exact sortNil; (repeat (first | exact ArgsLe.nil | refine ArgsLe.cons ?_ ?_ | exact ArgLe.v _ | exact ArgLe.sl _ _ _ _ | exact ArgLe.nil _ | exact ArgLe.nil' | (apply ArgLe.bsl; exact rfl; (first | exact rfl | (rw [List.length_map]; done) | (simp only [List.length_map]; done) | (simp; done) | (simp; omega)); (first | assumption | exact map_len (fun _ => rfl))))); exact rfl)
    | refine Wt.seq ?_
    | (apply Wt.regionK; exact rfl)
    | refine Wt.ret ?_
    | refine Wt.exit ?_
    | refine RunK.nil ?_
    | (apply RunK.moveS; exact rfl; exact rfl)
    | (apply RunK.assignS; exact rfl; exact rfl)
    | (apply RunK.extract; exact rfl; exact rfl; exact rfl)
    | (apply Wt.cond; exact rfl; all_goals (intro hg; (first | exact absurd hg (by decide) | skip); (first | (with_reducible replace hg := not_t hg) | (with_reducible replace hg := not_f hg) | skip); (first | (with_reducible replace hg := dec_t hg) | (with_reducible replace hg := dec_f hg) | skip); (first | (with_reducible exact absurd rfl hg) | skip); (repeat rw [List.length_map] at hg); try (exfalso; omega))))
        exact ActEnd.mk (.s (cellsR [])) [] ⟨rfl, rfl⟩ (.s1 rfl rfl) rfl rfl .nil (.same 2000000 rfl (.same 2000001 rfl (.same 2000002 rfl .nil)))
      · repeat' (first
    | (refine Wt.thaw 5 5 rfl rfl rfl ?_) | (apply RunK.sortK (l := A) sortCall sortsC cell_len (by decide); (case hw => exact rfl); (case hx => exact rfl); (case hy => exact rfl); (case hb => exact rfl); (case hn => rw [List.length_map]); (case hne => exact hA0); (case hsz => omega))
    | refine Wt.seq ?_
    | (apply Wt.regionK; exact rfl)
    | refine Wt.exit ?_
    | refine RunK.nil ?_
    | (apply RunK.moveBs; exact rfl; exact rfl)
    | (apply RunK.extract; exact rfl; exact rfl; exact rfl)
    | (apply Wt.cond; exact rfl; all_goals (intro hg; (first | exact absurd hg (by decide) | skip); (first | (with_reducible replace hg := not_t hg) | (with_reducible replace hg := not_f hg) | skip); (first | (with_reducible replace hg := dec_t hg) | (with_reducible replace hg := dec_f hg) | skip); (first | (with_reducible exact absurd rfl hg) | skip); (repeat rw [List.length_map] at hg); try (exfalso; omega))))
        intro l' hl hl2
        have hlen : A.length = l'.length := hl.length_eq.symm
        obtain rfl := sort_eq (hl.trans hp) hl2 hs
        repeat' (first
    | (apply Wt.retF 4 0 38; exact rfl; exact rfl; (rw [List.length_map, List.length_map, hlen]); (first | assumption | exact map_len (fun _ => rfl)))
    | refine Wt.seq ?_
    | (apply Wt.regionK; exact rfl)
    | refine RunK.nil ?_
    | (apply RunK.moveBs; exact rfl; exact rfl)
    | (apply RunK.assignBs; exact rfl; exact rfl))
        exact ActEnd.mk (.s (cellsR l')) [] ⟨rfl, rfl⟩ (.s1 rfl rfl) rfl rfl .nil (.same 2000000 rfl (.same 2000001 rfl (.same 2000002 rfl .nil)))
    · intro e he
      have hem := (mem_left he).1
      obtain ⟨c, hc, e1, e2⟩ := h.entry hem
      obtain ⟨hR', hcC⟩ := hR.step h he hc e1
      have hsh := left_shrinks es seen e he
      rcases e with ⟨k, v, bn⟩
      dsimp only at e1 e2 hR' hsh
      subst e1 e2
      have hkc := hk c.at_
      have hA : (C.filter fun c => p c.at_).length ≤ C.length := List.length_filter_le ..
      have hF : (C ++ [c]).filter (fun c => p c.at_) = (C.filter fun c => p c.at_) ++ if p c.at_ = true then [c] else [] := by
        rw [List.filter_append]; congr 1; simp only [List.filter_cons, List.filter_nil]
      generalize p c.at_ = B at *
      generalize (C.filter fun c => p c.at_) = A at *
      repeat' (first
    | (apply RunK.entryM (e := ⟨c.at_.v, c.v.w, bn⟩) 2000005 2000001; (case hw => exact rfl); (case hx => exact rfl); (case hh' => exact rfl); (case hk => exact rfl); (case hh => exact rfl); (case hkm => exact rfl); (case he => exact hem); (case hn => exact h.at_.born)) | (apply RunK.actC 900002 (.s (.v (.bool B))) («as» := [.v c.at_.v]) (caps := caps) hkc (fun _ _ h => h); (case hw => exact rfl); (case hx => exact rfl); (case ha => (repeat (first | exact ArgsLe.nil | refine ArgsLe.cons ?_ ?_ | exact ArgLe.v _ | exact ArgLe.sl _ _ _ _ | exact ArgLe.nil _ | exact ArgLe.nil' | (apply ArgLe.bsl; exact rfl; (first | exact rfl | (rw [List.length_map]; done) | (simp only [List.length_map]; done) | (simp; done) | (simp; omega)); (first | assumption | exact map_len (fun _ => rfl)))))); (case hgs => exact rfl); (case hf => exact .kept 2000002 rfl rfl .nil)) | (first | (apply RunK.append; exact rfl; exact rfl; exact rfl; (first | exact ReadLe.sl _ _ _ _ | exact ReadLe.nil _); exact rfl; (first | exact one_rows rfl | exact one_map (fun _ => rfl) _); (first | exact app_b1 (by omega) | exact app_b2 (by omega) | exact app_b3 (by omega) | exact app_b4 (by omega) | exact app_b5 (by omega))) | (apply RunK.appendN; exact rfl; exact rfl; exact rfl; (first | exact ReadLe.sl _ _ _ _ | exact ReadLe.nil _); exact rfl; (first | exact one_rows rfl | exact one_map (fun _ => rfl) _); (first | exact app_b1 (by omega) | exact app_b2 (by omega) | exact app_b3 (by omega) | exact app_b4 (by omega) | exact app_b5 (by omega))) | (apply RunK.appendF; exact rfl; exact rfl; exact rfl; (first | exact ReadLe.sl _ _ _ _ | exact ReadLe.nil _); (first | exact one_rows rfl | exact one_map (fun _ => rfl) _); (first | exact app_b1 (by omega) | exact app_b2 (by omega) | exact app_b3 (by omega) | exact app_b4 (by omega) | exact app_b5 (by omega))))
    | refine Wt.seq ?_
    | (apply Wt.regionK; exact rfl)
    | refine Wt.block ?_
    | refine Wt.skip ?_
    | refine RunK.nil ?_
    | (apply RunK.moveV; exact rfl; exact rfl)
    | (apply RunK.alloc; exact rfl; apply Cells.eq; (first | exact Cells.agg _ | exact Cells.int _ _ | exact Cells.bool _ | exact Cells.one _ rfl); exact rfl)
    | (apply RunK.moveS; exact rfl; exact rfl)
    | (apply RunK.assignS; exact rfl; exact rfl)
    | (apply RunK.loadR; exact rfl; exact rfl; exact rfl; exact rfl; (apply cut_eq; repeat (first | exact Cut.nil _ | apply Cut.cons | apply Cut.skip)))
    | (apply RunK.extract; exact rfl; exact rfl; exact rfl)
    | (apply RunK.build; exact rfl; (repeat (first | exact PartsOk.nil | (apply PartsOk.cons; exact rfl))); (repeat (first | exact fill_nil | (apply fill_cons; exact rfl; (first | exact Cells.agg _ | exact Cells.int _ _ | exact Cells.bool _ | exact Cells.one _ rfl); exact rfl; (repeat (first | exact Upd.nil _ | apply Upd.cons | apply Upd.skip))))))
    | (apply RunK.rows; exact rfl; (repeat (first | exact PartsOk.nil | (apply PartsOk.cons; exact rfl))); (repeat (first | exact Rows.nil _ | (apply Rows.cons; (first | exact Cells.agg _ | exact Cells.int _ _ | exact Cells.bool _ | exact Cells.one _ rfl); exact rfl))); exact rfl; exact rfl)
    | (apply RunK.store; exact rfl; exact rfl; exact rfl; exact rfl; exact rfl; exact rfl; exact rfl; apply upd_eq; exact rfl; (first | exact Cells.agg _ | exact Cells.int _ _ | exact Cells.bool _ | exact Cells.one _ rfl); (repeat (first | exact Upd.nil _ | apply Upd.cons | apply Upd.skip)))
    | (apply Wt.cond; exact rfl; all_goals (intro hg; (first | exact absurd hg (by decide) | skip); (first | (with_reducible replace hg := not_t hg) | (with_reducible replace hg := not_f hg) | skip); (first | (with_reducible replace hg := dec_t hg) | (with_reducible replace hg := dec_f hg) | skip); (first | (with_reducible exact absurd rfl hg) | skip); (repeat rw [List.length_map] at hg); try (exfalso; omega))))
      · refine ⟨(seen.push bn, C ++ [c]), hR', hsh, ?_⟩
        dsimp only
        rw [hF, if_pos hg]
        have hq : (A ++ [c]).map Cell.vals = A.map Cell.vals ++ [c.vals] := by rw [List.map_append]; rfl
        have hq2 := hq.symm
        (refine Le.mk ?_ ?_; (repeat' (first | exact LeEnv.done | refine LeEnv.cons ?_ ?_ | exact PVLe.refl _ | exact PVLe.s (SVLe.nil _ _ _) | exact PVLe.s (SVLe.no _ _ _ _) | (refine PVLe.int ?_; first | rfl | omega | (simp; done) | (simp; omega)) | (refine PVLe.els ?_; first | rfl | assumption | (simp; done)) | (refine PVLe.bool ?_; first | rfl | assumption) | (refine PVLe.bsl ?_; first | rfl | assumption | (simp; done))));  (repeat' (first | exact LeBox.done | refine LeBox.cons ?_ ?_ | exact rfl)))
      · refine ⟨(seen.push bn, C ++ [c]), hR', hsh, ?_⟩
        dsimp only
        rw [hF, if_neg (by rw [hg]; decide), List.append_nil]
        (refine Le.mk ?_ ?_; (repeat' (first | exact LeEnv.done | refine LeEnv.cons ?_ ?_ | exact PVLe.refl _ | exact PVLe.s (SVLe.nil _ _ _) | exact PVLe.s (SVLe.no _ _ _ _) | (refine PVLe.int ?_; first | rfl | omega | (simp; done) | (simp; omega)) | (refine PVLe.els ?_; first | rfl | assumption | (simp; done)) | (refine PVLe.bool ?_; first | rfl | assumption) | (refine PVLe.bsl ?_; first | rfl | assumption | (simp; done))));  (repeat' (first | exact LeBox.done | refine LeBox.cons ?_ ?_ | exact rfl)))
set_option maxRecDepth 100000 in
theorem cloAll (x : Ref) (xb : Nat) (xo : Obj) : Acts Try.prog 34 ([.v x.v] ++ ([] : List Value).map SV.v) [.kept xb xo] [] (fun r _ => r = .s (.v (.bool true))) := by
  refine acts_of_wt Try.func34 rfl (by decide) _ Try.ntmps34 rfl Try.results34 rfl (by simp [ownOf]) fun w0 W => ?_
  repeat' (first
    | refine Wt.seq ?_
    | (apply Wt.regionK; exact rfl)
    | refine Wt.ret ?_
    | refine RunK.nil ?_
    | (apply RunK.assignV; exact rfl; exact rfl)
    | (apply RunK.box; exact rfl; exact rfl; apply Cells.eq; (first | exact Cells.agg _ | exact Cells.int _ _ | exact Cells.bool _ | exact Cells.one _ rfl); exact rfl))
  exact ActEnd.mk (.s (.v (.bool true))) [] rfl (.v1 rfl rfl) rfl rfl .nil (.same 2000000 rfl .nil)
set_option maxRecDepth 100000 in
theorem cloHas (R : Rect) (x : Ref) (xb : Nat) : Acts Try.prog 37 ([.v x.v] ++ [ptr xb].map SV.v) [.kept xb (.cells R.vals.toArray 53 (0, 0))] [] (fun r _ => r = .s (.v (.bool (hasB R x)))) := by
  have hh := rectHas R x
  generalize hasB R x = B at *
  refine acts_of_wt Try.func37 rfl (by decide) _ Try.ntmps37 rfl Try.results37 rfl (by simp [ownOf]) fun w0 W => ?_
  repeat' (first
    | (apply RunK.loadPR (C := R.vals) (l := R.vals) 2000000; exact rfl; exact rfl; exact rfl; exact rfl; exact Nat.le_of_ble_eq_true rfl; exact rfl) | (apply RunK.callS; exact rfl; exact rfl; exact hh; (repeat (first | exact ArgsLe.nil | refine ArgsLe.cons ?_ ?_ | exact ArgLe.v _ | exact ArgLe.sl _ _ _ _ | exact ArgLe.nil _ | exact ArgLe.nil' | (apply ArgLe.bsl; exact rfl; (first | exact rfl | (rw [List.length_map]; done) | (simp only [List.length_map]; done) | (simp; done) | (simp; omega)); (first | assumption | exact map_len (fun _ => rfl))))); exact rfl)
    | refine Wt.seq ?_
    | (apply Wt.regionK; exact rfl)
    | refine Wt.ret ?_
    | refine RunK.nil ?_
    | (apply RunK.assignV; exact rfl; exact rfl)
    | (apply RunK.box; exact rfl; exact rfl; apply Cells.eq; (first | exact Cells.agg _ | exact Cells.int _ _ | exact Cells.bool _ | exact Cells.one _ rfl); exact rfl)
    | (apply RunK.loadR; exact rfl; exact rfl; exact rfl; exact rfl; (apply cut_eq; repeat (first | exact Cut.nil _ | apply Cut.cons | apply Cut.skip))))
  exact ActEnd.mk (.s (.v (.bool B))) [] rfl (.v1 rfl rfl) rfl rfl .nil (.same 2000000 rfl .nil)
set_option maxRecDepth 100000 in
theorem shCells (pb b : Nat) (es : Array MapEntry) (cl : Nat) (L : List Cell) (h : ShOk es cl L) (hL : L.length ≤ 1000000) :
    Acts Try.prog 13 [.v (ptr pb)] [ptrO pb b, mapO b es cl] [] (fun r fs => r = .s (cellsR L) ∧ fs = []) := by
  have hs := shSorted pb b es cl L h hL (fun _ => true) 34 [] pb _ (fun x => cloAll x pb (.cells #[.map (some b)] 66 (0, 0)))
  rw [show (L.filter fun c => true) = L from List.filter_eq_self.2 fun _ _ => rfl] at hs
  refine acts_of_wt Try.func13 rfl (by decide) _ Try.ntmps13 rfl Try.results13 rfl (by simp [ownOf]) fun w0 W => ?_
  repeat' (first
    | (apply RunK.nilCheckP; exact rfl; exact rfl) | (apply RunK.fieldP; exact rfl; exact rfl) | (apply RunK.loadP 2000000; exact rfl; exact rfl; exact rfl; exact rfl; exact rfl) | (apply RunK.bin; exact rfl; exact rfl; exact rfl; first | exact BinRun.eqlM1 ⟨_, _, Try.underlying64⟩ | exact BinRun.eqlP1 ⟨_, Try.underlying24⟩) | (apply RunK.actR (.s (cellsR L)) hs (fun _ _ h => h.1); (case hn => exact rfl); (case hw => exact rfl); (case he => exact rfl); (case hx => exact rfl); (case ha => (repeat (first | exact ArgsLe.nil | refine ArgsLe.cons ?_ ?_ | exact ArgLe.v _ | exact ArgLe.sl _ _ _ _ | exact ArgLe.nil _ | exact ArgLe.nil' | (apply ArgLe.bsl; exact rfl; (first | exact rfl | (rw [List.length_map]; done) | (simp only [List.length_map]; done) | (simp; done) | (simp; omega)); (first | assumption | exact map_len (fun _ => rfl)))))); (case hgs => exact rfl); (case hf => exact .kept 2000000 rfl rfl (.kept 2000001 rfl rfl (.kept 2000000 rfl rfl .nil))))
    | refine Wt.seq ?_
    | (apply Wt.regionK; exact rfl)
    | refine Wt.ret ?_
    | refine Wt.skip ?_
    | refine RunK.nil ?_
    | (apply RunK.moveV; exact rfl; exact rfl)
    | (apply RunK.assignS; exact rfl; exact rfl)
    | (apply RunK.assignN; exact rfl; exact rfl)
    | (apply Wt.cond; exact rfl; all_goals (intro hg; (first | exact absurd hg (by decide) | skip); (first | (with_reducible replace hg := not_t hg) | (with_reducible replace hg := not_f hg) | skip); (first | (with_reducible replace hg := dec_t hg) | (with_reducible replace hg := dec_f hg) | skip); (first | (with_reducible exact absurd rfl hg) | skip); (repeat rw [List.length_map] at hg); try (exfalso; omega))))
  exact ActEnd.mk (.s (cellsR L)) [] ⟨rfl, rfl⟩ (.s1 rfl rfl) rfl rfl .nil (.same 2000000 rfl (.same 2000001 rfl .nil))
set_option maxRecDepth 100000 in
theorem shInE (pb b : Nat) (es : Array MapEntry) (cl : Nat) (R : Rect) (hR : rectOk R = false) :
    Acts Try.prog 22 [.v (ptr pb), .v R.v] [ptrO pb b, mapO b es cl] [] (fun r fs => r = .tup [cellsR [], .v (.int .i64 3)] ∧ fs = []) := by
  have hc := rectCheck R
  rw [show chk R = 3 by unfold chk; rw [hR]; rfl] at hc
  refine acts_of_wt Try.func22 rfl (by decide) _ Try.ntmps22 rfl Try.results22 rfl (by simp [ownOf]) fun w0 W => ?_
  repeat' (first
    | (apply RunK.nilCheckP; exact rfl; exact rfl) | (apply RunK.fieldP; exact rfl; exact rfl) | (apply RunK.loadP 2000000; exact rfl; exact rfl; exact rfl; exact rfl; exact rfl) | (apply RunK.bin; exact rfl; exact rfl; exact rfl; first | exact BinRun.eqlM1 ⟨_, _, Try.underlying64⟩ | exact BinRun.eqlP1 ⟨_, Try.underlying24⟩) | (apply RunK.callS; exact rfl; exact rfl; exact hc; (repeat (first | exact ArgsLe.nil | refine ArgsLe.cons ?_ ?_ | exact ArgLe.v _ | exact ArgLe.sl _ _ _ _ | exact ArgLe.nil _ | exact ArgLe.nil' | (apply ArgLe.bsl; exact rfl; (first | exact rfl | (rw [List.length_map]; done) | (simp only [List.length_map]; done) | (simp; done) | (simp; omega)); (first | assumption | exact map_len (fun _ => rfl))))); exact rfl)
    | refine Wt.seq ?_
    | (apply Wt.regionK; exact rfl)
    | refine Wt.ret ?_
    | refine Wt.skip ?_
    | refine RunK.nil ?_
    | (apply RunK.moveV; exact rfl; exact rfl)
    | (apply RunK.assignV; exact rfl; exact rfl)
    | (apply RunK.box; exact rfl; exact rfl; apply Cells.eq; (first | exact Cells.agg _ | exact Cells.int _ _ | exact Cells.bool _ | exact Cells.one _ rfl); exact rfl)
    | (apply RunK.assignN; exact rfl; exact rfl)
    | (apply RunK.loadR; exact rfl; exact rfl; exact rfl; exact rfl; (apply cut_eq; repeat (first | exact Cut.nil _ | apply Cut.cons | apply Cut.skip)))
    | (apply RunK.neq; exact rfl; exact rfl; exact rfl)
    | (apply Wt.cond; exact rfl; all_goals (intro hg; (first | exact absurd hg (by decide) | skip); (first | (with_reducible replace hg := not_t hg) | (with_reducible replace hg := not_f hg) | skip); (first | (with_reducible replace hg := dec_t hg) | (with_reducible replace hg := dec_f hg) | skip); (first | (with_reducible exact absurd rfl hg) | skip); (repeat rw [List.length_map] at hg); try (exfalso; omega))))
  exact ActEnd.mk (.tup [cellsR [], .v (.int .i64 3)]) [] ⟨rfl, rfl⟩ (.nv rfl rfl rfl rfl) rfl rfl .nil (.same 2000000 rfl (.same 2000001 rfl .nil))
set_option maxRecDepth 100000 in
theorem shIn (pb b : Nat) (es : Array MapEntry) (cl : Nat) (L : List Cell) (h : ShOk es cl L) (hL : L.length ≤ 1000000) (R : Rect) (hR : rectOk R = true) :
    Acts Try.prog 22 [.v (ptr pb), .v R.v] [ptrO pb b, mapO b es cl] [] (fun r fs => r = .tup [cellsR (L.filter fun c => hasB R c.at_), .v (.int .i64 0)] ∧ fs = []) := by
  have hc := rectCheck R
  rw [show chk R = 0 by unfold chk; rw [hR]; rfl] at hc
  have hs := fun rb => shSorted pb b es cl L h hL (hasB R) 37 [ptr rb] rb _ (fun x => cloHas R x rb)
  generalize (L.filter fun c => hasB R c.at_) = M at *
  refine acts_of_wt Try.func22 rfl (by decide) _ Try.ntmps22 rfl Try.results22 rfl (by simp [ownOf]) fun w0 W => ?_
  repeat' (first
    | (apply RunK.boxK (t := 53) 2000003; exact rfl; exact rfl)
    | refine Wt.seq ?_
    | (apply Wt.regionK; exact rfl))
  intro rb _
  have hs := hs rb
  repeat' (first
    | (apply RunK.nilCheckP; exact rfl; exact rfl) | (apply RunK.fieldP; exact rfl; exact rfl) | (apply RunK.loadP 2000000; exact rfl; exact rfl; exact rfl; exact rfl; exact rfl) | (apply RunK.bin; exact rfl; exact rfl; exact rfl; first | exact BinRun.eqlM1 ⟨_, _, Try.underlying64⟩ | exact BinRun.eqlP1 ⟨_, Try.underlying24⟩) | (apply RunK.callS; exact rfl; exact rfl; exact hc; (repeat (first | exact ArgsLe.nil | refine ArgsLe.cons ?_ ?_ | exact ArgLe.v _ | exact ArgLe.sl _ _ _ _ | exact ArgLe.nil _ | exact ArgLe.nil' | (apply ArgLe.bsl; exact rfl; (first | exact rfl | (rw [List.length_map]; done) | (simp only [List.length_map]; done) | (simp; done) | (simp; omega)); (first | assumption | exact map_len (fun _ => rfl))))); exact rfl) | (apply RunK.loadPR (C := R.vals) (l := R.vals) 2000003; exact rfl; exact rfl; exact rfl; exact rfl; exact Nat.le_of_ble_eq_true rfl; exact rfl) | (apply RunK.makeFuncV [ptr rb]; exact rfl; exact rfl) | (apply RunK.actR (.s (cellsR M)) hs (fun _ _ h => h.1); (case hn => exact rfl); (case hw => exact rfl); (case he => exact rfl); (case hx => exact rfl); (case ha => (repeat (first | exact ArgsLe.nil | refine ArgsLe.cons ?_ ?_ | exact ArgLe.v _ | exact ArgLe.sl _ _ _ _ | exact ArgLe.nil _ | exact ArgLe.nil' | (apply ArgLe.bsl; exact rfl; (first | exact rfl | (rw [List.length_map]; done) | (simp only [List.length_map]; done) | (simp; done) | (simp; omega)); (first | assumption | exact map_len (fun _ => rfl)))))); (case hgs => exact rfl); (case hf => exact .kept 2000000 rfl rfl (.kept 2000001 rfl rfl (.kept 2000003 rfl rfl .nil))))
    | refine Wt.seq ?_
    | (apply Wt.regionK; exact rfl)
    | refine Wt.ret ?_
    | refine Wt.skip ?_
    | refine RunK.nil ?_
    | (apply RunK.moveV; exact rfl; exact rfl)
    | (apply RunK.assignV; exact rfl; exact rfl)
    | (apply RunK.assignS; exact rfl; exact rfl)
    | (apply RunK.assignN; exact rfl; exact rfl)
    | (apply RunK.neq; exact rfl; exact rfl; exact rfl)
    | (apply Wt.cond; exact rfl; all_goals (intro hg; (first | exact absurd hg (by decide) | skip); (first | (with_reducible replace hg := not_t hg) | (with_reducible replace hg := not_f hg) | skip); (first | (with_reducible replace hg := dec_t hg) | (with_reducible replace hg := dec_f hg) | skip); (first | (with_reducible exact absurd rfl hg) | skip); (repeat rw [List.length_map] at hg); try (exfalso; omega))))
  exact ActEnd.mk (.tup [cellsR M, .v (.int .i64 0)]) [] ⟨rfl, rfl⟩ (.sv rfl rfl rfl rfl) rfl rfl .nil (.same 2000000 rfl (.same 2000001 rfl .nil))
end Go.Proofs.Ytnpbnlmhmjejhaa
