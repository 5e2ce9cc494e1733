/- The walks of the reference's loops and condensed graph. No condition. -/
import Derived.Test.YtfokjpmcifkoeaaCF
import Derived.Test.YtfokjpmcifkoeaaPlain
namespace Go.Proofs.Ytfokjpmcifkoeaa
open Pv Go.RowKit Scc
set_option maxRecDepth 100000 in
theorem rows_ok {N : G} (hr : ∀ r ∈ N, r.length < 10000000000) : ∀ r ∈ intG N, r.length < 10000000000 := fun r h => by
  obtain ⟨q, hq, rfl⟩ := List.mem_map.1 h
  simpa [intR] using hr q hq
def loopsUp (N : G) (i : Nat) : List Nat := (List.range i).filter fun i => R N i i
set_option maxRecDepth 100000 in
theorem loopsUp_succ (N : G) (i : Nat) : loopsUp N (i + 1) = if R N i i then loopsUp N i ++ [i] else loopsUp N i := by
  unfold loopsUp
  rw [List.range_succ, List.filter_append]
  cases hs : R N i i <;> simp [hs]
set_option maxRecDepth 100000 in
theorem refLoops (N : G) (hN : GOk N) (hn : N.length ≤ 1000000) (hr : ∀ r ∈ N, r.length < 10000000000) : Pure Try.prog 28 [graph (intG N)] (.tup [intsR (intR (loopsN N)), .v (.int .i64 0)]) := by
  have hv := refValid (intG N) (by simp; omega) (rows_ok hr)
  rw [valid_intG hN] at hv
  have hm := refReaches N hN hn hr
  have hD := reach_dim hN
  have hR : ∀ i k, gB (reachM N) i k = R N i k := fun _ _ => rfl
  generalize reachM N = M at *
  have hlen : (gE (intG N)).length = N.length := by simp [gE, intG]
  refine pure_of_wt Try.func28 rfl (by decide) _ Try.ntmps28 rfl Try.results28 fun w0 => ?_
  repeat' (first
    | (apply RunK.indexN; exact rfl; exact rfl; exact rfl; (first | exact rfl | exact (rfl : (0 : Int) = ((0 : Nat) : Int)) | exact (rfl : (1 : Int) = ((1 : Nat) : Int)) | exact (rfl : (2 : Int) = ((2 : Nat) : Int)) | exact (rfl : (3 : Int) = ((3 : Nat) : Int)) | assumption); (first | omega | exact lt_of_get ‹_› | (rw [List.length_map]; omega) | (simp; omega))) | (apply RunK.loadNS; exact rfl; exact rfl; assumption; exact rfl) | (apply RunK.lenNs; exact rfl; exact rfl) | (apply RunK.moveNs; exact rfl; exact rfl) | (apply RunK.assignNs; exact rfl; exact rfl) | (apply RunK.callS; exact rfl; exact rfl; exact hv; (repeat (first | exact ArgsLe.nil | refine ArgsLe.cons ?_ ?_ | exact ArgLe.v _ | exact ArgLe.sl _ _ _ _ | exact ArgLe.nil _ | exact ArgLe.nil' | exact ArgLe.nsl _ _ _ _ _ | exact ArgLe.nsn _ | (apply ArgLe.bsl; exact rfl; (first | exact rfl | (rw [List.length_map]; done) | (simp only [List.length_map]; done) | (simp; done) | (simp; omega)); (first | assumption | exact map_len (fun _ => rfl))))); exact rfl) | (apply RunK.callS; exact rfl; exact rfl; exact hm; (repeat (first | exact ArgsLe.nil | refine ArgsLe.cons ?_ ?_ | exact ArgLe.v _ | exact ArgLe.sl _ _ _ _ | exact ArgLe.nil _ | exact ArgLe.nil' | exact ArgLe.nsl _ _ _ _ _ | exact ArgLe.nsn _ | (apply ArgLe.bsl; exact rfl; (first | exact rfl | (rw [List.length_map]; done) | (simp only [List.length_map]; done) | (simp; done) | (simp; omega)); (first | assumption | exact map_len (fun _ => rfl))))); exact rfl)
    | refine Wt.seq ?_
    | (apply Wt.regionK; exact rfl)
    | refine Wt.block ?_
    | refine Wt.skip ?_
    | refine RunK.nil ?_
    | (apply RunK.assignV; exact rfl; exact rfl)
    | (apply RunK.assignN; exact rfl; exact rfl)
    | (apply RunK.not; exact rfl; exact rfl)
    | (apply Wt.cond; exact rfl; all_goals (intro hg; (first | exact absurd hg (by decide) | skip); (first | (with_reducible replace hg := not_t hg) | (with_reducible replace hg := not_f hg) | skip); (first | (with_reducible replace hg := dec_t hg) | (with_reducible replace hg := dec_f hg) | skip); (first | (with_reducible exact absurd rfl hg) | skip); (repeat rw [List.length_map] at hg); try (exfalso; omega))))
  refine Wt.loop (fun i : Nat => ⟨[(0, .s (graph (intG N))), (4, .s (.nsl (some 11) [some 11] true 1 (mE M))), (5, .s (.sl (some 0) (.front 3) 1 ((intR (loopsUp N i)).map ival))), (6, .s (.v (.int .i64 i)))], []⟩) (fun i => i ≤ N.length) (fun i => N.length - i) 0 (Nat.zero_le _) ?_ ?_
  · (refine Le.mk ?_ ?_; (repeat' (first | exact LeEnv.done | refine LeEnv.cons ?_ ?_ | exact PVLe.refl _ | exact PVLe.s (SVLe.nil _ _ _) | exact PVLe.s (SVLe.no _ _ _ _) | (refine PVLe.int ?_; first | rfl | omega | (simp; done) | (simp; omega)) | (refine PVLe.els ?_; first | rfl | assumption | (simp; done)) | (refine PVLe.bool ?_; first | rfl | assumption) | (refine PVLe.bsl ?_; first | rfl | assumption | (simp; done))));  (repeat' (first | exact LeBox.done | refine LeBox.cons ?_ ?_ | exact rfl)))
  · rintro i hi
    by_cases hlt : i < N.length
    · have m1 := mE_at hD hlt
      have c1 := mE_cell hD hlt hlt
      have hcl : (loopsUp N i).length ≤ i := by unfold loopsUp; exact Nat.le_trans (List.length_filter_le ..) (by simp)
      have hil : (intR (loopsUp N i)).length = (loopsUp N i).length := by simp [intR]
      have hsnoc := intR_snoc (loopsUp N i) i
      have hsu := loopsUp_succ N i
      rw [hR] at c1
      cases hb : R N i i with
      | true =>
        rw [hb] at c1 hsu
        repeat' (first
    | (apply RunK.indexN; exact rfl; exact rfl; exact rfl; (first | exact rfl | exact (rfl : (0 : Int) = ((0 : Nat) : Int)) | exact (rfl : (1 : Int) = ((1 : Nat) : Int)) | exact (rfl : (2 : Int) = ((2 : Nat) : Int)) | exact (rfl : (3 : Int) = ((3 : Nat) : Int)) | assumption); (first | omega | exact lt_of_get ‹_› | (rw [List.length_map]; omega) | (simp; omega))) | (apply RunK.loadNS; exact rfl; exact rfl; assumption; exact rfl) | (apply RunK.lenNs; exact rfl; exact rfl) | (apply RunK.moveNs; exact rfl; exact rfl) | (apply RunK.assignNs; exact rfl; exact rfl) | (first | (apply RunK.append; exact rfl; exact rfl; exact rfl; (first | exact ReadLe.sl _ _ _ _ | exact ReadLe.nil _); exact rfl; (first | exact one_rows rfl | exact one_map (fun _ => rfl) _); (first | exact app_b1 (by omega) | exact app_b2 (by omega) | exact app_b3 (by omega) | exact app_b4 (by omega) | exact app_b5 (by omega))) | (apply RunK.appendN; exact rfl; exact rfl; exact rfl; (first | exact ReadLe.sl _ _ _ _ | exact ReadLe.nil _); exact rfl; (first | exact one_rows rfl | exact one_map (fun _ => rfl) _); (first | exact app_b1 (by omega) | exact app_b2 (by omega) | exact app_b3 (by omega) | exact app_b4 (by omega) | exact app_b5 (by omega))) | (apply RunK.appendF; exact rfl; exact rfl; exact rfl; (first | exact ReadLe.sl _ _ _ _ | exact ReadLe.nil _); (first | exact one_rows rfl | exact one_map (fun _ => rfl) _); (first | exact app_b1 (by omega) | exact app_b2 (by omega) | exact app_b3 (by omega) | exact app_b4 (by omega) | exact app_b5 (by omega))))
    | refine Wt.seq ?_
    | (apply Wt.regionK; exact rfl)
    | refine Wt.block ?_
    | refine Wt.skip ?_
    | refine RunK.nil ?_
    | (apply RunK.moveV; exact rfl; exact rfl)
    | (apply RunK.index; exact rfl; exact rfl; exact rfl; (first | exact rfl | exact (rfl : (0 : Int) = ((0 : Nat) : Int)) | exact (rfl : (1 : Int) = ((1 : Nat) : Int)) | exact (rfl : (2 : Int) = ((2 : Nat) : Int)) | exact (rfl : (3 : Int) = ((3 : Nat) : Int)) | assumption); (first | omega | exact lt_of_get ‹_› | (rw [List.length_map]; omega) | (simp; omega)))
    | (apply RunK.loadE1; exact rfl; exact rfl; assumption; exact rfl)
    | (apply RunK.assignV; exact rfl; exact rfl)
    | (apply RunK.moveS; exact rfl; exact rfl)
    | (apply RunK.assignS; exact rfl; exact rfl)
    | (apply RunK.lss; exact rfl; exact rfl; exact rfl)
    | (apply RunK.add; exact rfl; exact rfl; exact rfl; (first | omega | (simp only [List.length_map]; omega)))
    | (apply RunK.rows; exact rfl; exact rfl; (repeat (first | exact PartsOk.nil | (apply PartsOk.cons; exact rfl) | (apply PartsOk.consN; exact rfl))); (repeat (first | exact Rows.nil _ | (apply Rows.cons; (first | exact Cells.agg _ | exact Cells.int _ _ | exact Cells.bool _ | exact Cells.one _ rfl); exact rfl))); exact rfl; exact rfl)
    | (apply Wt.cond; exact rfl; all_goals (intro hg; (first | exact absurd hg (by decide) | skip); (first | (with_reducible replace hg := not_t hg) | (with_reducible replace hg := not_f hg) | skip); (first | (with_reducible replace hg := dec_t hg) | (with_reducible replace hg := dec_f hg) | skip); (first | (with_reducible exact absurd rfl hg) | skip); (repeat rw [List.length_map] at hg); try (exfalso; omega))))
        refine ⟨i + 1, hlt, by omega, ?_⟩
        rw [hsu, if_pos rfl, ← hsnoc]
        (refine Le.mk ?_ ?_; (repeat' (first | exact LeEnv.done | refine LeEnv.cons ?_ ?_ | exact PVLe.refl _ | exact PVLe.s (SVLe.nil _ _ _) | exact PVLe.s (SVLe.no _ _ _ _) | (refine PVLe.int ?_; first | rfl | omega | (simp; done) | (simp; omega)) | (refine PVLe.els ?_; first | rfl | assumption | (simp; done)) | (refine PVLe.bool ?_; first | rfl | assumption) | (refine PVLe.bsl ?_; first | rfl | assumption | (simp; done))));  (repeat' (first | exact LeBox.done | refine LeBox.cons ?_ ?_ | exact rfl)))
      | false =>
        rw [hb] at c1 hsu
        repeat' (first
    | (apply RunK.indexN; exact rfl; exact rfl; exact rfl; (first | exact rfl | exact (rfl : (0 : Int) = ((0 : Nat) : Int)) | exact (rfl : (1 : Int) = ((1 : Nat) : Int)) | exact (rfl : (2 : Int) = ((2 : Nat) : Int)) | exact (rfl : (3 : Int) = ((3 : Nat) : Int)) | assumption); (first | omega | exact lt_of_get ‹_› | (rw [List.length_map]; omega) | (simp; omega))) | (apply RunK.loadNS; exact rfl; exact rfl; assumption; exact rfl) | (apply RunK.lenNs; exact rfl; exact rfl) | (apply RunK.moveNs; exact rfl; exact rfl) | (apply RunK.assignNs; exact rfl; exact rfl) | (first | (apply RunK.append; exact rfl; exact rfl; exact rfl; (first | exact ReadLe.sl _ _ _ _ | exact ReadLe.nil _); exact rfl; (first | exact one_rows rfl | exact one_map (fun _ => rfl) _); (first | exact app_b1 (by omega) | exact app_b2 (by omega) | exact app_b3 (by omega) | exact app_b4 (by omega) | exact app_b5 (by omega))) | (apply RunK.appendN; exact rfl; exact rfl; exact rfl; (first | exact ReadLe.sl _ _ _ _ | exact ReadLe.nil _); exact rfl; (first | exact one_rows rfl | exact one_map (fun _ => rfl) _); (first | exact app_b1 (by omega) | exact app_b2 (by omega) | exact app_b3 (by omega) | exact app_b4 (by omega) | exact app_b5 (by omega))) | (apply RunK.appendF; exact rfl; exact rfl; exact rfl; (first | exact ReadLe.sl _ _ _ _ | exact ReadLe.nil _); (first | exact one_rows rfl | exact one_map (fun _ => rfl) _); (first | exact app_b1 (by omega) | exact app_b2 (by omega) | exact app_b3 (by omega) | exact app_b4 (by omega) | exact app_b5 (by omega))))
    | refine Wt.seq ?_
    | (apply Wt.regionK; exact rfl)
    | refine Wt.block ?_
    | refine Wt.skip ?_
    | refine RunK.nil ?_
    | (apply RunK.moveV; exact rfl; exact rfl)
    | (apply RunK.index; exact rfl; exact rfl; exact rfl; (first | exact rfl | exact (rfl : (0 : Int) = ((0 : Nat) : Int)) | exact (rfl : (1 : Int) = ((1 : Nat) : Int)) | exact (rfl : (2 : Int) = ((2 : Nat) : Int)) | exact (rfl : (3 : Int) = ((3 : Nat) : Int)) | assumption); (first | omega | exact lt_of_get ‹_› | (rw [List.length_map]; omega) | (simp; omega)))
    | (apply RunK.loadE1; exact rfl; exact rfl; assumption; exact rfl)
    | (apply RunK.assignV; exact rfl; exact rfl)
    | (apply RunK.lss; exact rfl; exact rfl; exact rfl)
    | (apply RunK.add; exact rfl; exact rfl; exact rfl; (first | omega | (simp only [List.length_map]; omega)))
    | (apply Wt.cond; exact rfl; all_goals (intro hg; (first | exact absurd hg (by decide) | skip); (first | (with_reducible replace hg := not_t hg) | (with_reducible replace hg := not_f hg) | skip); (first | (with_reducible replace hg := dec_t hg) | (with_reducible replace hg := dec_f hg) | skip); (first | (with_reducible exact absurd rfl hg) | skip); (repeat rw [List.length_map] at hg); try (exfalso; omega))))
        refine ⟨i + 1, hlt, by omega, ?_⟩
        rw [hsu, if_neg (by simp)]
        (refine Le.mk ?_ ?_; (repeat' (first | exact LeEnv.done | refine LeEnv.cons ?_ ?_ | exact PVLe.refl _ | exact PVLe.s (SVLe.nil _ _ _) | exact PVLe.s (SVLe.no _ _ _ _) | (refine PVLe.int ?_; first | rfl | omega | (simp; done) | (simp; omega)) | (refine PVLe.els ?_; first | rfl | assumption | (simp; done)) | (refine PVLe.bool ?_; first | rfl | assumption) | (refine PVLe.bsl ?_; first | rfl | assumption | (simp; done))));  (repeat' (first | exact LeBox.done | refine LeBox.cons ?_ ?_ | exact rfl)))
    · obtain rfl : i = N.length := by omega
      repeat' (first
    | (apply RunK.indexN; exact rfl; exact rfl; exact rfl; (first | exact rfl | exact (rfl : (0 : Int) = ((0 : Nat) : Int)) | exact (rfl : (1 : Int) = ((1 : Nat) : Int)) | exact (rfl : (2 : Int) = ((2 : Nat) : Int)) | exact (rfl : (3 : Int) = ((3 : Nat) : Int)) | assumption); (first | omega | exact lt_of_get ‹_› | (rw [List.length_map]; omega) | (simp; omega))) | (apply RunK.loadNS; exact rfl; exact rfl; assumption; exact rfl) | (apply RunK.lenNs; exact rfl; exact rfl) | (apply RunK.moveNs; exact rfl; exact rfl) | (apply RunK.assignNs; exact rfl; exact rfl)
    | refine Wt.seq ?_
    | (apply Wt.regionK; exact rfl)
    | refine Wt.ret ?_
    | refine Wt.exit ?_
    | refine RunK.nil ?_
    | (apply RunK.moveV; exact rfl; exact rfl)
    | (apply RunK.assignV; exact rfl; exact rfl)
    | (apply RunK.moveS; exact rfl; exact rfl)
    | (apply RunK.assignS; exact rfl; exact rfl)
    | (apply RunK.lss; exact rfl; exact rfl; exact rfl)
    | (apply Wt.cond; exact rfl; all_goals (intro hg; (first | exact absurd hg (by decide) | skip); (first | (with_reducible replace hg := not_t hg) | (with_reducible replace hg := not_f hg) | skip); (first | (with_reducible replace hg := dec_t hg) | (with_reducible replace hg := dec_f hg) | skip); (first | (with_reducible exact absurd rfl hg) | skip); (repeat rw [List.length_map] at hg); try (exfalso; omega))))
      all_goals (apply ResOk.sv; exact rfl; exact rfl; exact rfl; exact rfl)
set_option maxRecDepth 100000 in
theorem refLoopsE (g : List (List Int)) (hg1 : g.length < 1000000000) (hg2 : ∀ r ∈ g, r.length < 10000000000) (hv : validG g = false) : Pure Try.prog 28 [graph g] (.tup [intsR [], .v (.int .i64 3)]) := by
  have h := refValid g hg1 hg2
  rw [hv] at h
  refine pure_of_wt Try.func28 rfl (by decide) _ Try.ntmps28 rfl Try.results28 fun w0 => ?_
  repeat' (first
    | (apply RunK.indexN; exact rfl; exact rfl; exact rfl; (first | exact rfl | exact (rfl : (0 : Int) = ((0 : Nat) : Int)) | exact (rfl : (1 : Int) = ((1 : Nat) : Int)) | exact (rfl : (2 : Int) = ((2 : Nat) : Int)) | exact (rfl : (3 : Int) = ((3 : Nat) : Int)) | assumption); (first | omega | exact lt_of_get ‹_› | (rw [List.length_map]; omega) | (simp; omega))) | (apply RunK.loadNS; exact rfl; exact rfl; assumption; exact rfl) | (apply RunK.lenNs; exact rfl; exact rfl) | (apply RunK.moveNs; exact rfl; exact rfl) | (apply RunK.assignNs; exact rfl; exact rfl) | (apply RunK.callS; exact rfl; exact rfl; exact h; (repeat (first | exact ArgsLe.nil | refine ArgsLe.cons ?_ ?_ | exact ArgLe.v _ | exact ArgLe.sl _ _ _ _ | exact ArgLe.nil _ | exact ArgLe.nil' | exact ArgLe.nsl _ _ _ _ _ | exact ArgLe.nsn _ | (apply ArgLe.bsl; exact rfl; (first | exact rfl | (rw [List.length_map]; done) | (simp only [List.length_map]; done) | (simp; done) | (simp; omega)); (first | assumption | exact map_len (fun _ => rfl))))); exact rfl)
    | refine Wt.seq ?_
    | (apply Wt.regionK; exact rfl)
    | refine Wt.ret ?_
    | refine RunK.nil ?_
    | (apply RunK.assignV; exact rfl; exact rfl)
    | (apply RunK.assignN; exact rfl; exact rfl)
    | (apply RunK.not; exact rfl; exact rfl)
    | (apply Wt.cond; exact rfl; all_goals (intro hg; (first | exact absurd hg (by decide) | skip); (first | (with_reducible replace hg := not_t hg) | (with_reducible replace hg := not_f hg) | skip); (first | (with_reducible replace hg := dec_t hg) | (with_reducible replace hg := dec_f hg) | skip); (first | (with_reducible exact absurd rfl hg) | skip); (repeat rw [List.length_map] at hg); try (exfalso; omega))))
  all_goals (apply ResOk.nv; exact rfl; exact rfl; exact rfl; exact rfl)
end Go.Proofs.Ytfokjpmcifkoeaa
