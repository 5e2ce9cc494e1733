/- The walk of the law SheetSame. -/
import Derived.Test.YtnpbnlmhmjejhaaSQ
namespace Go.Proofs.Ytnpbnlmhmjejhaa
open Pv Go.RowKit
set_option maxRecDepth 100000 in
theorem two_not {a b c : Nat} (h1 : a ≠ b) (h2 : a ≠ c) : a ∉ [b, c] := fun h => by
  rcases List.mem_cons.1 h with h | h
  · exact h1 h
  · exact h2 (List.mem_singleton.1 h)
set_option maxRecDepth 100000 in
theorem setP_in {L : List Cell} {p : Put} (h : refOk p.at_ = true) : setP L p = putL L ⟨p.at_, numV p.n⟩ := if_pos h
set_option maxHeartbeats 2000000 in
set_option maxRecDepth 100000 in
theorem lawSSame (l : List Put) (_hl : l.length * 24 ≤ 140737488351232) (_hok : ∀ p ∈ l, p.ok) (x : Put) (_hx : x.ok) (y : Put) (_hy : y.ok) : Pure Try.prog 7 [puts l, .v x.w, .v y.w] (.s (.v (.bool true))) := by
  have hm2 : Try.prog.follows .mixedOrders = true := by kernel_rfl
  have hf1 := lawFits x.at_
  have hf2 := lawFits y.at_
  have hxy := fun u v => eqlRef (x := u) (y := v) x.at_ y.at_
  by_cases hgood : l.length ≤ 60 ∧ refOk x.at_ = true ∧ refOk y.at_ = true ∧ x.at_ ≠ y.at_
  · obtain ⟨h60, hb1, hb2, hne0⟩ := hgood
    rw [hb1] at hf1
    rw [hb2] at hf2
    rw [decide_eq_false hne0] at hxy
    refine pure_of_wt Try.func7 rfl (by decide) _ Try.ntmps7 rfl Try.results7 fun w0 => ?_
    repeat' (first
    | (apply RunK.callS; exact rfl; exact rfl; exact hf1; (repeat (first | exact ArgsLe.nil | refine ArgsLe.cons ?_ ?_ | exact ArgLe.v _ | exact ArgLe.sl _ _ _ _ | exact ArgLe.nil _ | exact ArgLe.nil' | (apply ArgLe.bsl; exact rfl; (first | exact rfl | (rw [List.length_map]; done) | (simp only [List.length_map]; done) | (simp; done) | (simp; omega)); (first | assumption | exact map_len (fun _ => rfl))))); exact rfl) | (apply RunK.callS; exact rfl; exact rfl; exact hf2; (repeat (first | exact ArgsLe.nil | refine ArgsLe.cons ?_ ?_ | exact ArgLe.v _ | exact ArgLe.sl _ _ _ _ | exact ArgLe.nil _ | exact ArgLe.nil' | (apply ArgLe.bsl; exact rfl; (first | exact rfl | (rw [List.length_map]; done) | (simp only [List.length_map]; done) | (simp; done) | (simp; omega)); (first | assumption | exact map_len (fun _ => rfl))))); exact rfl) | (apply RunK.bin; exact rfl; exact rfl; exact rfl; exact hxy _ _) | (apply RunK.actF [2000010, 2000011] 900001 shNew0; (case hw => exact rfl); (case he => first | exact fun _ => rfl | exact (fun h => nomatch h)); (case hx => exact rfl); (case ha => (repeat (first | exact ArgsLe.nil | refine ArgsLe.cons ?_ ?_ | exact ArgLe.v _ | exact ArgLe.sl _ _ _ _ | exact ArgLe.nil _ | exact ArgLe.nil' | (apply ArgLe.bsl; exact rfl; (first | exact rfl | (rw [List.length_map]; done) | (simp only [List.length_map]; done) | (simp; done) | (simp; omega)); (first | assumption | exact map_len (fun _ => rfl)))))); (case hf => exact .nil); (case hap => exact ApartE.nil _))
    | refine Wt.seq ?_
    | (apply Wt.regionK; exact rfl)
    | (apply Wt.regionD; kernel_rfl; kernel_rfl; exact rfl; exact rfl)
    | refine Wt.ret ?_
    | refine Wt.block ?_
    | refine Wt.scope ?_
    | refine Wt.skip ?_
    | refine Wt.label ?_
    | refine Wt.exit ?_
    | refine RunK.nil ?_
    | (apply RunK.moveV; exact rfl; exact rfl)
    | (apply RunK.index; exact rfl; exact rfl; exact rfl; (first | exact rfl | exact (rfl : (0 : Int) = ((0 : Nat) : Int)) | exact (rfl : (1 : Int) = ((1 : Nat) : Int)) | exact (rfl : (2 : Int) = ((2 : Nat) : Int)) | exact (rfl : (3 : Int) = ((3 : Nat) : Int)) | assumption); (first | omega | exact lt_of_get ‹_› | (rw [List.length_map]; omega) | (simp; omega)))
    | (apply RunK.indexB; exact rfl; exact rfl; exact rfl; (first | exact rfl | exact (rfl : (0 : Int) = ((0 : Nat) : Int)) | exact (rfl : (1 : Int) = ((1 : Nat) : Int)) | exact (rfl : (2 : Int) = ((2 : Nat) : Int)) | exact (rfl : (3 : Int) = ((3 : Nat) : Int)) | assumption); exact rfl)
    | (apply RunK.indexA; exact rfl; exact rfl; exact rfl; (first | exact rfl | exact (rfl : (0 : Int) = ((0 : Nat) : Int)) | exact (rfl : (1 : Int) = ((1 : Nat) : Int)) | exact (rfl : (2 : Int) = ((2 : Nat) : Int)) | exact (rfl : (3 : Int) = ((3 : Nat) : Int)) | assumption); exact rfl)
    | (apply RunK.load1; exact rfl; exact rfl; exact rfl; exact rfl)
    | (apply RunK.loadE1; exact rfl; exact rfl; assumption; exact rfl)
    | (apply RunK.field; exact rfl; exact rfl)
    | (apply RunK.fieldE; exact rfl; exact rfl)
    | (apply RunK.assignV; exact rfl; exact rfl)
    | (apply RunK.box; exact rfl; exact rfl; apply Cells.eq; (first | exact Cells.agg _ | exact Cells.int _ _ | exact Cells.bool _ | exact Cells.one _ rfl); exact rfl)
    | (apply RunK.alloc; exact rfl; apply Cells.eq; (first | exact Cells.agg _ | exact Cells.int _ _ | exact Cells.bool _ | exact Cells.one _ rfl); exact rfl)
    | (apply RunK.moveS; exact rfl; exact rfl)
    | (apply RunK.moveN; exact rfl; exact rfl)
    | (apply RunK.moveT; exact rfl; exact rfl)
    | (apply RunK.moveB; exact rfl; exact rfl)
    | (apply RunK.moveBs; exact rfl; exact rfl)
    | (apply RunK.assignBs; exact rfl; exact rfl)
    | (apply RunK.indexS; exact rfl; exact rfl; exact rfl; (first | exact rfl | exact (rfl : (0 : Int) = ((0 : Nat) : Int)) | exact (rfl : (1 : Int) = ((1 : Nat) : Int)) | exact (rfl : (2 : Int) = ((2 : Nat) : Int)) | exact (rfl : (3 : Int) = ((3 : Nat) : Int)) | assumption); (first | omega | exact lt_of_get ‹_› | (rw [List.length_map]; omega) | (simp; omega)))
    | (apply RunK.lenS; exact rfl; exact rfl)
    | (apply RunK.assignS; exact rfl; exact rfl)
    | (apply RunK.assignN; exact rfl; exact rfl)
    | (apply RunK.loadR; exact rfl; exact rfl; exact rfl; exact rfl; (apply cut_eq; repeat (first | exact Cut.nil _ | apply Cut.cons | apply Cut.skip)))
    | (apply RunK.loadER; exact rfl; exact rfl; assumption; exact rfl; (apply cut_eq; repeat (first | exact Cut.nil _ | apply Cut.cons | apply Cut.skip)))
    | (apply RunK.moveC; exact rfl; exact rfl; exact rfl)
    | (apply RunK.assignC; exact rfl; exact rfl; exact rfl)
    | (apply RunK.makeFunc; exact rfl; (repeat (first | exact CapsOk.nil | (apply CapsOk.cons; exact rfl))))
    | (apply RunK.loadF1; exact rfl; exact rfl; exact rfl; (first | exact off0 _ _ | exact off1 _ _ _ | exact off2 _ _ _ _ | exact off3 _ _ _ _ _ | omega); (first | assumption | exact map_len (fun _ => rfl)); assumption; exact rfl)
    | (apply RunK.loadFR; exact rfl; exact rfl; exact rfl; (first | exact off0 _ _ | exact off1 _ _ _ | exact off2 _ _ _ _ | exact off3 _ _ _ _ _ | omega); (first | assumption | exact map_len (fun _ => rfl)); assumption; exact rfl; (apply cut_eq; repeat (first | exact Cut.nil _ | apply Cut.cons | apply Cut.skip)))
    | (apply RunK.pickT; exact rfl; exact rfl; exact rfl)
    | (apply RunK.pickF; exact rfl; exact rfl; exact rfl)
    | (apply RunK.pick; exact rfl; exact rfl; exact rfl; exact rfl)
    | (apply RunK.geq; exact rfl; exact rfl; exact rfl)
    | (apply RunK.leq; exact rfl; exact rfl; exact rfl)
    | (apply RunK.lss; exact rfl; exact rfl; exact rfl)
    | (apply RunK.gtr; exact rfl; exact rfl; exact rfl)
    | (apply RunK.eql; exact rfl; exact rfl; exact rfl)
    | (apply RunK.neq; exact rfl; exact rfl; exact rfl)
    | (apply RunK.add; exact rfl; exact rfl; exact rfl; (first | omega | (simp only [List.length_map]; omega)))
    | (apply RunK.sub; exact rfl; exact rfl; exact rfl; (first | omega | (simp only [List.length_map]; omega)))
    | (apply RunK.not; exact rfl; exact rfl)
    | (apply RunK.len; exact rfl; exact rfl)
    | (apply RunK.sliceFrom; exact rfl; exact rfl; exact rfl; (first | exact rfl | exact (rfl : (0 : Int) = ((0 : Nat) : Int)) | exact (rfl : (1 : Int) = ((1 : Nat) : Int)) | exact (rfl : (2 : Int) = ((2 : Nat) : Int)) | exact (rfl : (3 : Int) = ((3 : Nat) : Int)) | assumption); (first | omega | (simp only [List.length_map]; omega)))
    | (apply RunK.sliceTo; exact rfl; exact rfl; exact rfl; (first | exact rfl | exact (rfl : (0 : Int) = ((0 : Nat) : Int)) | exact (rfl : (1 : Int) = ((1 : Nat) : Int)) | exact (rfl : (2 : Int) = ((2 : Nat) : Int)) | exact (rfl : (3 : Int) = ((3 : Nat) : Int)) | assumption); (first | omega | (simp only [List.length_map]; omega)))
    | (apply RunK.sliceFull; exact rfl; exact rfl; exact rfl; exact rfl; (first | exact rfl | exact (rfl : (0 : Int) = ((0 : Nat) : Int)) | exact (rfl : (1 : Int) = ((1 : Nat) : Int)) | exact (rfl : (2 : Int) = ((2 : Nat) : Int)) | exact (rfl : (3 : Int) = ((3 : Nat) : Int)) | assumption); (first | exact rfl | exact (rfl : (0 : Int) = ((0 : Nat) : Int)) | exact (rfl : (1 : Int) = ((1 : Nat) : Int)) | exact (rfl : (2 : Int) = ((2 : Nat) : Int)) | exact (rfl : (3 : Int) = ((3 : Nat) : Int)) | assumption); (first | omega | (simp only [List.length_map]; omega)))
    | (apply RunK.lenN; exact rfl; exact rfl)
    | (apply RunK.extract; exact rfl; exact rfl; exact rfl)
    | (apply RunK.max; exact rfl; exact rfl; exact rfl)
    | (apply RunK.min; exact rfl; exact rfl; exact rfl)
    | (apply RunK.build; exact rfl; (repeat (first | exact PartsOk.nil | (apply PartsOk.cons; exact rfl))); (repeat (first | exact fill_nil | (apply fill_cons; exact rfl; (first | exact Cells.agg _ | exact Cells.int _ _ | exact Cells.bool _ | exact Cells.one _ rfl); exact rfl; (repeat (first | exact Upd.nil _ | apply Upd.cons | apply Upd.skip))))))
    | (apply RunK.buildA; exact rfl; (repeat (first | exact PartsOk.nil | (apply PartsOk.cons; exact rfl))); (repeat (first | exact fill_nil | (apply fill_cons; exact rfl; (first | exact Cells.agg _ | exact Cells.int _ _ | exact Cells.bool _ | exact Cells.one _ rfl); exact rfl; (repeat (first | exact Upd.nil _ | apply Upd.cons | apply Upd.skip))))))
    | (apply RunK.rows; exact rfl; (repeat (first | exact PartsOk.nil | (apply PartsOk.cons; exact rfl))); (repeat (first | exact Rows.nil _ | (apply Rows.cons; (first | exact Cells.agg _ | exact Cells.int _ _ | exact Cells.bool _ | exact Cells.one _ rfl); exact rfl))); exact rfl; exact rfl)
    | (apply RunK.store; exact rfl; exact rfl; exact rfl; exact rfl; exact rfl; exact rfl; exact rfl; apply upd_eq; exact rfl; (first | exact Cells.agg _ | exact Cells.int _ _ | exact Cells.bool _ | exact Cells.one _ rfl); (repeat (first | exact Upd.nil _ | apply Upd.cons | apply Upd.skip)))
    | (apply RunK.storeF; exact rfl; exact rfl; exact rfl; exact rfl; (first | exact off0 _ _ | exact off1 _ _ _ | exact off2 _ _ _ _ | exact off3 _ _ _ _ _ | omega); (first | assumption | exact map_len (fun _ => rfl)); assumption; exact rfl; exact rfl; exact rfl; (first | exact Cells.agg _ | exact Cells.int _ _ | exact Cells.bool _ | exact Cells.one _ rfl); (repeat (first | exact Upd.nil _ | apply Upd.cons | apply Upd.skip)))
    | (apply RunK.skip; exact rfl; exact rfl)
    | (apply RunK.skipN; exact rfl; exact rfl)
    | (apply RunK.guard; exact rfl; exact rfl; exact rfl; all_goals (intro hg; (first | exact absurd hg (by decide) | skip); (first | (with_reducible replace hg := not_t hg) | (with_reducible replace hg := not_f hg) | skip); (first | (with_reducible replace hg := dec_t hg) | (with_reducible replace hg := dec_f hg) | skip); (first | (with_reducible exact absurd rfl hg) | skip); (repeat rw [List.length_map] at hg); try (exfalso; omega)))
    | (apply Wt.cond; exact rfl; all_goals (intro hg; (first | exact absurd hg (by decide) | skip); (first | (with_reducible replace hg := not_t hg) | (with_reducible replace hg := not_f hg) | skip); (first | (with_reducible replace hg := dec_t hg) | (with_reducible replace hg := dec_f hg) | skip); (first | (with_reducible exact absurd rfl hg) | skip); (repeat rw [List.length_map] at hg); try (exfalso; omega))))
    all_goals first | (exfalso; omega) | skip
    rintro _ _ ⟨pb, b, es, cl, hS, hne, rfl, rfl⟩ _
    repeat' (first
    | (apply RunK.bin; exact rfl; exact rfl; exact rfl; first | exact BinRun.eqlP0 ⟨_, Try.underlying24⟩ | exact BinRun.eqlP0 ⟨_, Try.underlying28⟩ | exact BinRun.eqlP1 ⟨_, Try.underlying24⟩ | exact BinRun.eqlP1 ⟨_, Try.underlying28⟩)
    | refine Wt.seq ?_
    | (apply Wt.regionK; exact rfl)
    | (apply Wt.regionD; kernel_rfl; kernel_rfl; exact rfl; exact rfl)
    | refine Wt.ret ?_
    | refine Wt.block ?_
    | refine Wt.scope ?_
    | refine Wt.skip ?_
    | refine Wt.label ?_
    | refine Wt.exit ?_
    | refine RunK.nil ?_
    | (apply RunK.moveV; exact rfl; exact rfl)
    | (apply RunK.index; exact rfl; exact rfl; exact rfl; (first | exact rfl | exact (rfl : (0 : Int) = ((0 : Nat) : Int)) | exact (rfl : (1 : Int) = ((1 : Nat) : Int)) | exact (rfl : (2 : Int) = ((2 : Nat) : Int)) | exact (rfl : (3 : Int) = ((3 : Nat) : Int)) | assumption); (first | omega | exact lt_of_get ‹_› | (rw [List.length_map]; omega) | (simp; omega)))
    | (apply RunK.indexB; exact rfl; exact rfl; exact rfl; (first | exact rfl | exact (rfl : (0 : Int) = ((0 : Nat) : Int)) | exact (rfl : (1 : Int) = ((1 : Nat) : Int)) | exact (rfl : (2 : Int) = ((2 : Nat) : Int)) | exact (rfl : (3 : Int) = ((3 : Nat) : Int)) | assumption); exact rfl)
    | (apply RunK.indexA; exact rfl; exact rfl; exact rfl; (first | exact rfl | exact (rfl : (0 : Int) = ((0 : Nat) : Int)) | exact (rfl : (1 : Int) = ((1 : Nat) : Int)) | exact (rfl : (2 : Int) = ((2 : Nat) : Int)) | exact (rfl : (3 : Int) = ((3 : Nat) : Int)) | assumption); exact rfl)
    | (apply RunK.load1; exact rfl; exact rfl; exact rfl; exact rfl)
    | (apply RunK.loadE1; exact rfl; exact rfl; assumption; exact rfl)
    | (apply RunK.field; exact rfl; exact rfl)
    | (apply RunK.fieldE; exact rfl; exact rfl)
    | (apply RunK.assignV; exact rfl; exact rfl)
    | (apply RunK.box; exact rfl; exact rfl; apply Cells.eq; (first | exact Cells.agg _ | exact Cells.int _ _ | exact Cells.bool _ | exact Cells.one _ rfl); exact rfl)
    | (apply RunK.alloc; exact rfl; apply Cells.eq; (first | exact Cells.agg _ | exact Cells.int _ _ | exact Cells.bool _ | exact Cells.one _ rfl); exact rfl)
    | (apply RunK.moveS; exact rfl; exact rfl)
    | (apply RunK.moveN; exact rfl; exact rfl)
    | (apply RunK.moveT; exact rfl; exact rfl)
    | (apply RunK.moveB; exact rfl; exact rfl)
    | (apply RunK.moveBs; exact rfl; exact rfl)
    | (apply RunK.assignBs; exact rfl; exact rfl)
    | (apply RunK.indexS; exact rfl; exact rfl; exact rfl; (first | exact rfl | exact (rfl : (0 : Int) = ((0 : Nat) : Int)) | exact (rfl : (1 : Int) = ((1 : Nat) : Int)) | exact (rfl : (2 : Int) = ((2 : Nat) : Int)) | exact (rfl : (3 : Int) = ((3 : Nat) : Int)) | assumption); (first | omega | exact lt_of_get ‹_› | (rw [List.length_map]; omega) | (simp; omega)))
    | (apply RunK.lenS; exact rfl; exact rfl)
    | (apply RunK.assignS; exact rfl; exact rfl)
    | (apply RunK.assignN; exact rfl; exact rfl)
    | (apply RunK.loadR; exact rfl; exact rfl; exact rfl; exact rfl; (apply cut_eq; repeat (first | exact Cut.nil _ | apply Cut.cons | apply Cut.skip)))
    | (apply RunK.loadER; exact rfl; exact rfl; assumption; exact rfl; (apply cut_eq; repeat (first | exact Cut.nil _ | apply Cut.cons | apply Cut.skip)))
    | (apply RunK.moveC; exact rfl; exact rfl; exact rfl)
    | (apply RunK.assignC; exact rfl; exact rfl; exact rfl)
    | (apply RunK.makeFunc; exact rfl; (repeat (first | exact CapsOk.nil | (apply CapsOk.cons; exact rfl))))
    | (apply RunK.loadF1; exact rfl; exact rfl; exact rfl; (first | exact off0 _ _ | exact off1 _ _ _ | exact off2 _ _ _ _ | exact off3 _ _ _ _ _ | omega); (first | assumption | exact map_len (fun _ => rfl)); assumption; exact rfl)
    | (apply RunK.loadFR; exact rfl; exact rfl; exact rfl; (first | exact off0 _ _ | exact off1 _ _ _ | exact off2 _ _ _ _ | exact off3 _ _ _ _ _ | omega); (first | assumption | exact map_len (fun _ => rfl)); assumption; exact rfl; (apply cut_eq; repeat (first | exact Cut.nil _ | apply Cut.cons | apply Cut.skip)))
    | (apply RunK.pickT; exact rfl; exact rfl; exact rfl)
    | (apply RunK.pickF; exact rfl; exact rfl; exact rfl)
    | (apply RunK.pick; exact rfl; exact rfl; exact rfl; exact rfl)
    | (apply RunK.geq; exact rfl; exact rfl; exact rfl)
    | (apply RunK.leq; exact rfl; exact rfl; exact rfl)
    | (apply RunK.lss; exact rfl; exact rfl; exact rfl)
    | (apply RunK.gtr; exact rfl; exact rfl; exact rfl)
    | (apply RunK.eql; exact rfl; exact rfl; exact rfl)
    | (apply RunK.neq; exact rfl; exact rfl; exact rfl)
    | (apply RunK.add; exact rfl; exact rfl; exact rfl; (first | omega | (simp only [List.length_map]; omega)))
    | (apply RunK.sub; exact rfl; exact rfl; exact rfl; (first | omega | (simp only [List.length_map]; omega)))
    | (apply RunK.not; exact rfl; exact rfl)
    | (apply RunK.len; exact rfl; exact rfl)
    | (apply RunK.sliceFrom; exact rfl; exact rfl; exact rfl; (first | exact rfl | exact (rfl : (0 : Int) = ((0 : Nat) : Int)) | exact (rfl : (1 : Int) = ((1 : Nat) : Int)) | exact (rfl : (2 : Int) = ((2 : Nat) : Int)) | exact (rfl : (3 : Int) = ((3 : Nat) : Int)) | assumption); (first | omega | (simp only [List.length_map]; omega)))
    | (apply RunK.sliceTo; exact rfl; exact rfl; exact rfl; (first | exact rfl | exact (rfl : (0 : Int) = ((0 : Nat) : Int)) | exact (rfl : (1 : Int) = ((1 : Nat) : Int)) | exact (rfl : (2 : Int) = ((2 : Nat) : Int)) | exact (rfl : (3 : Int) = ((3 : Nat) : Int)) | assumption); (first | omega | (simp only [List.length_map]; omega)))
    | (apply RunK.sliceFull; exact rfl; exact rfl; exact rfl; exact rfl; (first | exact rfl | exact (rfl : (0 : Int) = ((0 : Nat) : Int)) | exact (rfl : (1 : Int) = ((1 : Nat) : Int)) | exact (rfl : (2 : Int) = ((2 : Nat) : Int)) | exact (rfl : (3 : Int) = ((3 : Nat) : Int)) | assumption); (first | exact rfl | exact (rfl : (0 : Int) = ((0 : Nat) : Int)) | exact (rfl : (1 : Int) = ((1 : Nat) : Int)) | exact (rfl : (2 : Int) = ((2 : Nat) : Int)) | exact (rfl : (3 : Int) = ((3 : Nat) : Int)) | assumption); (first | omega | (simp only [List.length_map]; omega)))
    | (apply RunK.lenN; exact rfl; exact rfl)
    | (apply RunK.extract; exact rfl; exact rfl; exact rfl)
    | (apply RunK.max; exact rfl; exact rfl; exact rfl)
    | (apply RunK.min; exact rfl; exact rfl; exact rfl)
    | (apply RunK.build; exact rfl; (repeat (first | exact PartsOk.nil | (apply PartsOk.cons; exact rfl))); (repeat (first | exact fill_nil | (apply fill_cons; exact rfl; (first | exact Cells.agg _ | exact Cells.int _ _ | exact Cells.bool _ | exact Cells.one _ rfl); exact rfl; (repeat (first | exact Upd.nil _ | apply Upd.cons | apply Upd.skip))))))
    | (apply RunK.buildA; exact rfl; (repeat (first | exact PartsOk.nil | (apply PartsOk.cons; exact rfl))); (repeat (first | exact fill_nil | (apply fill_cons; exact rfl; (first | exact Cells.agg _ | exact Cells.int _ _ | exact Cells.bool _ | exact Cells.one _ rfl); exact rfl; (repeat (first | exact Upd.nil _ | apply Upd.cons | apply Upd.skip))))))
    | (apply RunK.rows; exact rfl; (repeat (first | exact PartsOk.nil | (apply PartsOk.cons; exact rfl))); (repeat (first | exact Rows.nil _ | (apply Rows.cons; (first | exact Cells.agg _ | exact Cells.int _ _ | exact Cells.bool _ | exact Cells.one _ rfl); exact rfl))); exact rfl; exact rfl)
    | (apply RunK.store; exact rfl; exact rfl; exact rfl; exact rfl; exact rfl; exact rfl; exact rfl; apply upd_eq; exact rfl; (first | exact Cells.agg _ | exact Cells.int _ _ | exact Cells.bool _ | exact Cells.one _ rfl); (repeat (first | exact Upd.nil _ | apply Upd.cons | apply Upd.skip)))
    | (apply RunK.storeF; exact rfl; exact rfl; exact rfl; exact rfl; (first | exact off0 _ _ | exact off1 _ _ _ | exact off2 _ _ _ _ | exact off3 _ _ _ _ _ | omega); (first | assumption | exact map_len (fun _ => rfl)); assumption; exact rfl; exact rfl; exact rfl; (first | exact Cells.agg _ | exact Cells.int _ _ | exact Cells.bool _ | exact Cells.one _ rfl); (repeat (first | exact Upd.nil _ | apply Upd.cons | apply Upd.skip)))
    | (apply RunK.skip; exact rfl; exact rfl)
    | (apply RunK.skipN; exact rfl; exact rfl)
    | (apply RunK.guard; exact rfl; exact rfl; exact rfl; all_goals (intro hg; (first | exact absurd hg (by decide) | skip); (first | (with_reducible replace hg := not_t hg) | (with_reducible replace hg := not_f hg) | skip); (first | (with_reducible replace hg := dec_t hg) | (with_reducible replace hg := dec_f hg) | skip); (first | (with_reducible exact absurd rfl hg) | skip); (repeat rw [List.length_map] at hg); try (exfalso; omega)))
    | (apply Wt.cond; exact rfl; all_goals (intro hg; (first | exact absurd hg (by decide) | skip); (first | (with_reducible replace hg := not_t hg) | (with_reducible replace hg := not_f hg) | skip); (first | (with_reducible replace hg := dec_t hg) | (with_reducible replace hg := dec_f hg) | skip); (first | (with_reducible exact absurd rfl hg) | skip); (repeat rw [List.length_map] at hg); try (exfalso; omega))))
    refine Wt.loop (fun i : SetI => ⟨[(0, .s (puts l)), (4, .box 4 0), (5, .box 5 0), (7, .s (.v (ptr pb))), (9, .s (.v (.int .i64 i.k))), (2000010, ptrO pb b), (2000011, mapO b i.es i.cl)], [(4, x.vals), (5, y.vals)]⟩) (fun i => i.k ≤ l.length ∧ ShOk i.es i.cl (setAll (l.take i.k))) (fun i => l.length - i.k) ⟨0, es, cl⟩ ⟨Nat.zero_le _, hS⟩ ?_ ?_
    · (refine Le.mk ?_ ?_; (repeat' (first | exact LeEnv.done | refine LeEnv.cons ?_ ?_ | exact PVLe.refl _ | exact PVLe.s (SVLe.nil _ _ _) | exact PVLe.s (SVLe.no _ _ _ _) | (refine PVLe.int ?_; first | rfl | omega | (simp; done) | (simp; omega)) | (refine PVLe.els ?_; first | rfl | assumption | (simp; done)) | (refine PVLe.bool ?_; first | rfl | assumption) | (refine PVLe.bsl ?_; first | rfl | assumption | (simp; done))));  (repeat' (first | exact LeBox.done | refine LeBox.cons ?_ ?_ | exact rfl)))
    · rintro ⟨k, es1, cl1⟩ ⟨hk, hS1⟩
      dsimp only at hk hS1 ⊢
      by_cases hlt : k < l.length
      · obtain ⟨p, hp0⟩ := exists_at hlt
        have hp := get_map (f := Put.vals) hp0
        have hn := lawNumber p.n
        have hset := shSetP pb b es1 cl1 _ hS1 p
        rw [← setAll_take hp0] at hset
        generalize numV p.n = V at *
        repeat' (first
    | (apply RunK.callS; exact rfl; exact rfl; exact hn; (repeat (first | exact ArgsLe.nil | refine ArgsLe.cons ?_ ?_ | exact ArgLe.v _ | exact ArgLe.sl _ _ _ _ | exact ArgLe.nil _ | exact ArgLe.nil' | (apply ArgLe.bsl; exact rfl; (first | exact rfl | (rw [List.length_map]; done) | (simp only [List.length_map]; done) | (simp; done) | (simp; omega)); (first | assumption | exact map_len (fun _ => rfl))))); exact rfl) | (refine Wt.regionP (i := 9) 12 1 hm2 (by decide +kernel) rfl rfl rfl (by kernel_rfl) rfl (fun K hK hN => ?_)) | (refine AnyA.go [12] hK (wf_of (by kernel_rfl)) (by decide +kernel) rfl ?_) | (refine AnyA.fin (by decide +kernel) (hN _ ?_)) | (refine AllJ.cons ?_ ?_) | exact AllJ.nil | (refine ⟨_, rfl, rfl, ?_⟩) | (apply RunK.actF [2000011] 900004 hset; (case hw => exact rfl); (case he => first | exact fun _ => rfl | exact (fun h => nomatch h)); (case hx => exact rfl); (case ha => (repeat (first | exact ArgsLe.nil | refine ArgsLe.cons ?_ ?_ | exact ArgLe.v _ | exact ArgLe.sl _ _ _ _ | exact ArgLe.nil _ | exact ArgLe.nil' | (apply ArgLe.bsl; exact rfl; (first | exact rfl | (rw [List.length_map]; done) | (simp only [List.length_map]; done) | (simp; done) | (simp; omega)); (first | assumption | exact map_len (fun _ => rfl)))))); (case hf => exact .kept 2000010 rfl rfl (.kept 2000011 rfl rfl .nil)); (case hap => (repeat' (first | exact trivial | exact not_one hne | refine And.intro ?_ ?_))))
    | refine Wt.seq ?_
    | (apply Wt.regionK; exact rfl)
    | (apply Wt.regionD; kernel_rfl; kernel_rfl; exact rfl; exact rfl)
    | refine Wt.ret ?_
    | refine Wt.block ?_
    | refine Wt.scope ?_
    | refine Wt.skip ?_
    | refine Wt.label ?_
    | refine Wt.exit ?_
    | refine RunK.nil ?_
    | (apply RunK.moveV; exact rfl; exact rfl)
    | (apply RunK.index; exact rfl; exact rfl; exact rfl; (first | exact rfl | exact (rfl : (0 : Int) = ((0 : Nat) : Int)) | exact (rfl : (1 : Int) = ((1 : Nat) : Int)) | exact (rfl : (2 : Int) = ((2 : Nat) : Int)) | exact (rfl : (3 : Int) = ((3 : Nat) : Int)) | assumption); (first | omega | exact lt_of_get ‹_› | (rw [List.length_map]; omega) | (simp; omega)))
    | (apply RunK.indexB; exact rfl; exact rfl; exact rfl; (first | exact rfl | exact (rfl : (0 : Int) = ((0 : Nat) : Int)) | exact (rfl : (1 : Int) = ((1 : Nat) : Int)) | exact (rfl : (2 : Int) = ((2 : Nat) : Int)) | exact (rfl : (3 : Int) = ((3 : Nat) : Int)) | assumption); exact rfl)
    | (apply RunK.indexA; exact rfl; exact rfl; exact rfl; (first | exact rfl | exact (rfl : (0 : Int) = ((0 : Nat) : Int)) | exact (rfl : (1 : Int) = ((1 : Nat) : Int)) | exact (rfl : (2 : Int) = ((2 : Nat) : Int)) | exact (rfl : (3 : Int) = ((3 : Nat) : Int)) | assumption); exact rfl)
    | (apply RunK.load1; exact rfl; exact rfl; exact rfl; exact rfl)
    | (apply RunK.loadE1; exact rfl; exact rfl; assumption; exact rfl)
    | (apply RunK.field; exact rfl; exact rfl)
    | (apply RunK.fieldE; exact rfl; exact rfl)
    | (apply RunK.assignV; exact rfl; exact rfl)
    | (apply RunK.box; exact rfl; exact rfl; apply Cells.eq; (first | exact Cells.agg _ | exact Cells.int _ _ | exact Cells.bool _ | exact Cells.one _ rfl); exact rfl)
    | (apply RunK.alloc; exact rfl; apply Cells.eq; (first | exact Cells.agg _ | exact Cells.int _ _ | exact Cells.bool _ | exact Cells.one _ rfl); exact rfl)
    | (apply RunK.moveS; exact rfl; exact rfl)
    | (apply RunK.moveN; exact rfl; exact rfl)
    | (apply RunK.moveT; exact rfl; exact rfl)
    | (apply RunK.moveB; exact rfl; exact rfl)
    | (apply RunK.moveBs; exact rfl; exact rfl)
    | (apply RunK.assignBs; exact rfl; exact rfl)
    | (apply RunK.indexS; exact rfl; exact rfl; exact rfl; (first | exact rfl | exact (rfl : (0 : Int) = ((0 : Nat) : Int)) | exact (rfl : (1 : Int) = ((1 : Nat) : Int)) | exact (rfl : (2 : Int) = ((2 : Nat) : Int)) | exact (rfl : (3 : Int) = ((3 : Nat) : Int)) | assumption); (first | omega | exact lt_of_get ‹_› | (rw [List.length_map]; omega) | (simp; omega)))
    | (apply RunK.lenS; exact rfl; exact rfl)
    | (apply RunK.assignS; exact rfl; exact rfl)
    | (apply RunK.assignN; exact rfl; exact rfl)
    | (apply RunK.loadR; exact rfl; exact rfl; exact rfl; exact rfl; (apply cut_eq; repeat (first | exact Cut.nil _ | apply Cut.cons | apply Cut.skip)))
    | (apply RunK.loadER; exact rfl; exact rfl; assumption; exact rfl; (apply cut_eq; repeat (first | exact Cut.nil _ | apply Cut.cons | apply Cut.skip)))
    | (apply RunK.moveC; exact rfl; exact rfl; exact rfl)
    | (apply RunK.assignC; exact rfl; exact rfl; exact rfl)
    | (apply RunK.makeFunc; exact rfl; (repeat (first | exact CapsOk.nil | (apply CapsOk.cons; exact rfl))))
    | (apply RunK.loadF1; exact rfl; exact rfl; exact rfl; (first | exact off0 _ _ | exact off1 _ _ _ | exact off2 _ _ _ _ | exact off3 _ _ _ _ _ | omega); (first | assumption | exact map_len (fun _ => rfl)); assumption; exact rfl)
    | (apply RunK.loadFR; exact rfl; exact rfl; exact rfl; (first | exact off0 _ _ | exact off1 _ _ _ | exact off2 _ _ _ _ | exact off3 _ _ _ _ _ | omega); (first | assumption | exact map_len (fun _ => rfl)); assumption; exact rfl; (apply cut_eq; repeat (first | exact Cut.nil _ | apply Cut.cons | apply Cut.skip)))
    | (apply RunK.pickT; exact rfl; exact rfl; exact rfl)
    | (apply RunK.pickF; exact rfl; exact rfl; exact rfl)
    | (apply RunK.pick; exact rfl; exact rfl; exact rfl; exact rfl)
    | (apply RunK.geq; exact rfl; exact rfl; exact rfl)
    | (apply RunK.leq; exact rfl; exact rfl; exact rfl)
    | (apply RunK.lss; exact rfl; exact rfl; exact rfl)
    | (apply RunK.gtr; exact rfl; exact rfl; exact rfl)
    | (apply RunK.eql; exact rfl; exact rfl; exact rfl)
    | (apply RunK.neq; exact rfl; exact rfl; exact rfl)
    | (apply RunK.add; exact rfl; exact rfl; exact rfl; (first | omega | (simp only [List.length_map]; omega)))
    | (apply RunK.sub; exact rfl; exact rfl; exact rfl; (first | omega | (simp only [List.length_map]; omega)))
    | (apply RunK.not; exact rfl; exact rfl)
    | (apply RunK.len; exact rfl; exact rfl)
    | (apply RunK.sliceFrom; exact rfl; exact rfl; exact rfl; (first | exact rfl | exact (rfl : (0 : Int) = ((0 : Nat) : Int)) | exact (rfl : (1 : Int) = ((1 : Nat) : Int)) | exact (rfl : (2 : Int) = ((2 : Nat) : Int)) | exact (rfl : (3 : Int) = ((3 : Nat) : Int)) | assumption); (first | omega | (simp only [List.length_map]; omega)))
    | (apply RunK.sliceTo; exact rfl; exact rfl; exact rfl; (first | exact rfl | exact (rfl : (0 : Int) = ((0 : Nat) : Int)) | exact (rfl : (1 : Int) = ((1 : Nat) : Int)) | exact (rfl : (2 : Int) = ((2 : Nat) : Int)) | exact (rfl : (3 : Int) = ((3 : Nat) : Int)) | assumption); (first | omega | (simp only [List.length_map]; omega)))
    | (apply RunK.sliceFull; exact rfl; exact rfl; exact rfl; exact rfl; (first | exact rfl | exact (rfl : (0 : Int) = ((0 : Nat) : Int)) | exact (rfl : (1 : Int) = ((1 : Nat) : Int)) | exact (rfl : (2 : Int) = ((2 : Nat) : Int)) | exact (rfl : (3 : Int) = ((3 : Nat) : Int)) | assumption); (first | exact rfl | exact (rfl : (0 : Int) = ((0 : Nat) : Int)) | exact (rfl : (1 : Int) = ((1 : Nat) : Int)) | exact (rfl : (2 : Int) = ((2 : Nat) : Int)) | exact (rfl : (3 : Int) = ((3 : Nat) : Int)) | assumption); (first | omega | (simp only [List.length_map]; omega)))
    | (apply RunK.lenN; exact rfl; exact rfl)
    | (apply RunK.extract; exact rfl; exact rfl; exact rfl)
    | (apply RunK.max; exact rfl; exact rfl; exact rfl)
    | (apply RunK.min; exact rfl; exact rfl; exact rfl)
    | (apply RunK.build; exact rfl; (repeat (first | exact PartsOk.nil | (apply PartsOk.cons; exact rfl))); (repeat (first | exact fill_nil | (apply fill_cons; exact rfl; (first | exact Cells.agg _ | exact Cells.int _ _ | exact Cells.bool _ | exact Cells.one _ rfl); exact rfl; (repeat (first | exact Upd.nil _ | apply Upd.cons | apply Upd.skip))))))
    | (apply RunK.buildA; exact rfl; (repeat (first | exact PartsOk.nil | (apply PartsOk.cons; exact rfl))); (repeat (first | exact fill_nil | (apply fill_cons; exact rfl; (first | exact Cells.agg _ | exact Cells.int _ _ | exact Cells.bool _ | exact Cells.one _ rfl); exact rfl; (repeat (first | exact Upd.nil _ | apply Upd.cons | apply Upd.skip))))))
    | (apply RunK.rows; exact rfl; (repeat (first | exact PartsOk.nil | (apply PartsOk.cons; exact rfl))); (repeat (first | exact Rows.nil _ | (apply Rows.cons; (first | exact Cells.agg _ | exact Cells.int _ _ | exact Cells.bool _ | exact Cells.one _ rfl); exact rfl))); exact rfl; exact rfl)
    | (apply RunK.store; exact rfl; exact rfl; exact rfl; exact rfl; exact rfl; exact rfl; exact rfl; apply upd_eq; exact rfl; (first | exact Cells.agg _ | exact Cells.int _ _ | exact Cells.bool _ | exact Cells.one _ rfl); (repeat (first | exact Upd.nil _ | apply Upd.cons | apply Upd.skip)))
    | (apply RunK.storeF; exact rfl; exact rfl; exact rfl; exact rfl; (first | exact off0 _ _ | exact off1 _ _ _ | exact off2 _ _ _ _ | exact off3 _ _ _ _ _ | omega); (first | assumption | exact map_len (fun _ => rfl)); assumption; exact rfl; exact rfl; exact rfl; (first | exact Cells.agg _ | exact Cells.int _ _ | exact Cells.bool _ | exact Cells.one _ rfl); (repeat (first | exact Upd.nil _ | apply Upd.cons | apply Upd.skip)))
    | (apply RunK.skip; exact rfl; exact rfl)
    | (apply RunK.skipN; exact rfl; exact rfl)
    | (apply RunK.guard; exact rfl; exact rfl; exact rfl; all_goals (intro hg; (first | exact absurd hg (by decide) | skip); (first | (with_reducible replace hg := not_t hg) | (with_reducible replace hg := not_f hg) | skip); (first | (with_reducible replace hg := dec_t hg) | (with_reducible replace hg := dec_f hg) | skip); (first | (with_reducible exact absurd rfl hg) | skip); (repeat rw [List.length_map] at hg); try (exfalso; omega)))
    | (apply Wt.cond; exact rfl; all_goals (intro hg; (first | exact absurd hg (by decide) | skip); (first | (with_reducible replace hg := not_t hg) | (with_reducible replace hg := not_f hg) | skip); (first | (with_reducible replace hg := dec_t hg) | (with_reducible replace hg := dec_f hg) | skip); (first | (with_reducible exact absurd rfl hg) | skip); (repeat rw [List.length_map] at hg); try (exfalso; omega))))
        rintro _ _ ⟨es2, cl2, hS2, rfl, rfl⟩ _
        repeat' (first
    | (refine AnyA.fin (by decide +kernel) (hN _ ?_))
    | refine Wt.seq ?_
    | (apply Wt.regionK; exact rfl)
    | (apply Wt.regionD; kernel_rfl; kernel_rfl; exact rfl; exact rfl)
    | refine Wt.ret ?_
    | refine Wt.block ?_
    | refine Wt.scope ?_
    | refine Wt.skip ?_
    | refine Wt.label ?_
    | refine Wt.exit ?_
    | refine RunK.nil ?_
    | (apply RunK.moveV; exact rfl; exact rfl)
    | (apply RunK.index; exact rfl; exact rfl; exact rfl; (first | exact rfl | exact (rfl : (0 : Int) = ((0 : Nat) : Int)) | exact (rfl : (1 : Int) = ((1 : Nat) : Int)) | exact (rfl : (2 : Int) = ((2 : Nat) : Int)) | exact (rfl : (3 : Int) = ((3 : Nat) : Int)) | assumption); (first | omega | exact lt_of_get ‹_› | (rw [List.length_map]; omega) | (simp; omega)))
    | (apply RunK.indexB; exact rfl; exact rfl; exact rfl; (first | exact rfl | exact (rfl : (0 : Int) = ((0 : Nat) : Int)) | exact (rfl : (1 : Int) = ((1 : Nat) : Int)) | exact (rfl : (2 : Int) = ((2 : Nat) : Int)) | exact (rfl : (3 : Int) = ((3 : Nat) : Int)) | assumption); exact rfl)
    | (apply RunK.indexA; exact rfl; exact rfl; exact rfl; (first | exact rfl | exact (rfl : (0 : Int) = ((0 : Nat) : Int)) | exact (rfl : (1 : Int) = ((1 : Nat) : Int)) | exact (rfl : (2 : Int) = ((2 : Nat) : Int)) | exact (rfl : (3 : Int) = ((3 : Nat) : Int)) | assumption); exact rfl)
    | (apply RunK.load1; exact rfl; exact rfl; exact rfl; exact rfl)
    | (apply RunK.loadE1; exact rfl; exact rfl; assumption; exact rfl)
    | (apply RunK.field; exact rfl; exact rfl)
    | (apply RunK.fieldE; exact rfl; exact rfl)
    | (apply RunK.assignV; exact rfl; exact rfl)
    | (apply RunK.box; exact rfl; exact rfl; apply Cells.eq; (first | exact Cells.agg _ | exact Cells.int _ _ | exact Cells.bool _ | exact Cells.one _ rfl); exact rfl)
    | (apply RunK.alloc; exact rfl; apply Cells.eq; (first | exact Cells.agg _ | exact Cells.int _ _ | exact Cells.bool _ | exact Cells.one _ rfl); exact rfl)
    | (apply RunK.moveS; exact rfl; exact rfl)
    | (apply RunK.moveN; exact rfl; exact rfl)
    | (apply RunK.moveT; exact rfl; exact rfl)
    | (apply RunK.moveB; exact rfl; exact rfl)
    | (apply RunK.moveBs; exact rfl; exact rfl)
    | (apply RunK.assignBs; exact rfl; exact rfl)
    | (apply RunK.indexS; exact rfl; exact rfl; exact rfl; (first | exact rfl | exact (rfl : (0 : Int) = ((0 : Nat) : Int)) | exact (rfl : (1 : Int) = ((1 : Nat) : Int)) | exact (rfl : (2 : Int) = ((2 : Nat) : Int)) | exact (rfl : (3 : Int) = ((3 : Nat) : Int)) | assumption); (first | omega | exact lt_of_get ‹_› | (rw [List.length_map]; omega) | (simp; omega)))
    | (apply RunK.lenS; exact rfl; exact rfl)
    | (apply RunK.assignS; exact rfl; exact rfl)
    | (apply RunK.assignN; exact rfl; exact rfl)
    | (apply RunK.loadR; exact rfl; exact rfl; exact rfl; exact rfl; (apply cut_eq; repeat (first | exact Cut.nil _ | apply Cut.cons | apply Cut.skip)))
    | (apply RunK.loadER; exact rfl; exact rfl; assumption; exact rfl; (apply cut_eq; repeat (first | exact Cut.nil _ | apply Cut.cons | apply Cut.skip)))
    | (apply RunK.moveC; exact rfl; exact rfl; exact rfl)
    | (apply RunK.assignC; exact rfl; exact rfl; exact rfl)
    | (apply RunK.makeFunc; exact rfl; (repeat (first | exact CapsOk.nil | (apply CapsOk.cons; exact rfl))))
    | (apply RunK.loadF1; exact rfl; exact rfl; exact rfl; (first | exact off0 _ _ | exact off1 _ _ _ | exact off2 _ _ _ _ | exact off3 _ _ _ _ _ | omega); (first | assumption | exact map_len (fun _ => rfl)); assumption; exact rfl)
    | (apply RunK.loadFR; exact rfl; exact rfl; exact rfl; (first | exact off0 _ _ | exact off1 _ _ _ | exact off2 _ _ _ _ | exact off3 _ _ _ _ _ | omega); (first | assumption | exact map_len (fun _ => rfl)); assumption; exact rfl; (apply cut_eq; repeat (first | exact Cut.nil _ | apply Cut.cons | apply Cut.skip)))
    | (apply RunK.pickT; exact rfl; exact rfl; exact rfl)
    | (apply RunK.pickF; exact rfl; exact rfl; exact rfl)
    | (apply RunK.pick; exact rfl; exact rfl; exact rfl; exact rfl)
    | (apply RunK.geq; exact rfl; exact rfl; exact rfl)
    | (apply RunK.leq; exact rfl; exact rfl; exact rfl)
    | (apply RunK.lss; exact rfl; exact rfl; exact rfl)
    | (apply RunK.gtr; exact rfl; exact rfl; exact rfl)
    | (apply RunK.eql; exact rfl; exact rfl; exact rfl)
    | (apply RunK.neq; exact rfl; exact rfl; exact rfl)
    | (apply RunK.add; exact rfl; exact rfl; exact rfl; (first | omega | (simp only [List.length_map]; omega)))
    | (apply RunK.sub; exact rfl; exact rfl; exact rfl; (first | omega | (simp only [List.length_map]; omega)))
    | (apply RunK.not; exact rfl; exact rfl)
    | (apply RunK.len; exact rfl; exact rfl)
    | (apply RunK.sliceFrom; exact rfl; exact rfl; exact rfl; (first | exact rfl | exact (rfl : (0 : Int) = ((0 : Nat) : Int)) | exact (rfl : (1 : Int) = ((1 : Nat) : Int)) | exact (rfl : (2 : Int) = ((2 : Nat) : Int)) | exact (rfl : (3 : Int) = ((3 : Nat) : Int)) | assumption); (first | omega | (simp only [List.length_map]; omega)))
    | (apply RunK.sliceTo; exact rfl; exact rfl; exact rfl; (first | exact rfl | exact (rfl : (0 : Int) = ((0 : Nat) : Int)) | exact (rfl : (1 : Int) = ((1 : Nat) : Int)) | exact (rfl : (2 : Int) = ((2 : Nat) : Int)) | exact (rfl : (3 : Int) = ((3 : Nat) : Int)) | assumption); (first | omega | (simp only [List.length_map]; omega)))
    | (apply RunK.sliceFull; exact rfl; exact rfl; exact rfl; exact rfl; (first | exact rfl | exact (rfl : (0 : Int) = ((0 : Nat) : Int)) | exact (rfl : (1 : Int) = ((1 : Nat) : Int)) | exact (rfl : (2 : Int) = ((2 : Nat) : Int)) | exact (rfl : (3 : Int) = ((3 : Nat) : Int)) | assumption); (first | exact rfl | exact (rfl : (0 : Int) = ((0 : Nat) : Int)) | exact (rfl : (1 : Int) = ((1 : Nat) : Int)) | exact (rfl : (2 : Int) = ((2 : Nat) : Int)) | exact (rfl : (3 : Int) = ((3 : Nat) : Int)) | assumption); (first | omega | (simp only [List.length_map]; omega)))
    | (apply RunK.lenN; exact rfl; exact rfl)
    | (apply RunK.extract; exact rfl; exact rfl; exact rfl)
    | (apply RunK.max; exact rfl; exact rfl; exact rfl)
    | (apply RunK.min; exact rfl; exact rfl; exact rfl)
    | (apply RunK.build; exact rfl; (repeat (first | exact PartsOk.nil | (apply PartsOk.cons; exact rfl))); (repeat (first | exact fill_nil | (apply fill_cons; exact rfl; (first | exact Cells.agg _ | exact Cells.int _ _ | exact Cells.bool _ | exact Cells.one _ rfl); exact rfl; (repeat (first | exact Upd.nil _ | apply Upd.cons | apply Upd.skip))))))
    | (apply RunK.buildA; exact rfl; (repeat (first | exact PartsOk.nil | (apply PartsOk.cons; exact rfl))); (repeat (first | exact fill_nil | (apply fill_cons; exact rfl; (first | exact Cells.agg _ | exact Cells.int _ _ | exact Cells.bool _ | exact Cells.one _ rfl); exact rfl; (repeat (first | exact Upd.nil _ | apply Upd.cons | apply Upd.skip))))))
    | (apply RunK.rows; exact rfl; (repeat (first | exact PartsOk.nil | (apply PartsOk.cons; exact rfl))); (repeat (first | exact Rows.nil _ | (apply Rows.cons; (first | exact Cells.agg _ | exact Cells.int _ _ | exact Cells.bool _ | exact Cells.one _ rfl); exact rfl))); exact rfl; exact rfl)
    | (apply RunK.store; exact rfl; exact rfl; exact rfl; exact rfl; exact rfl; exact rfl; exact rfl; apply upd_eq; exact rfl; (first | exact Cells.agg _ | exact Cells.int _ _ | exact Cells.bool _ | exact Cells.one _ rfl); (repeat (first | exact Upd.nil _ | apply Upd.cons | apply Upd.skip)))
    | (apply RunK.storeF; exact rfl; exact rfl; exact rfl; exact rfl; (first | exact off0 _ _ | exact off1 _ _ _ | exact off2 _ _ _ _ | exact off3 _ _ _ _ _ | omega); (first | assumption | exact map_len (fun _ => rfl)); assumption; exact rfl; exact rfl; exact rfl; (first | exact Cells.agg _ | exact Cells.int _ _ | exact Cells.bool _ | exact Cells.one _ rfl); (repeat (first | exact Upd.nil _ | apply Upd.cons | apply Upd.skip)))
    | (apply RunK.skip; exact rfl; exact rfl)
    | (apply RunK.skipN; exact rfl; exact rfl)
    | (apply RunK.guard; exact rfl; exact rfl; exact rfl; all_goals (intro hg; (first | exact absurd hg (by decide) | skip); (first | (with_reducible replace hg := not_t hg) | (with_reducible replace hg := not_f hg) | skip); (first | (with_reducible replace hg := dec_t hg) | (with_reducible replace hg := dec_f hg) | skip); (first | (with_reducible exact absurd rfl hg) | skip); (repeat rw [List.length_map] at hg); try (exfalso; omega)))
    | (apply Wt.cond; exact rfl; all_goals (intro hg; (first | exact absurd hg (by decide) | skip); (first | (with_reducible replace hg := not_t hg) | (with_reducible replace hg := not_f hg) | skip); (first | (with_reducible replace hg := dec_t hg) | (with_reducible replace hg := dec_f hg) | skip); (first | (with_reducible exact absurd rfl hg) | skip); (repeat rw [List.length_map] at hg); try (exfalso; omega))))
        refine ⟨⟨k + 1, es2, cl2⟩, ⟨hlt, hS2⟩, by dsimp only; omega, ?_⟩
        (refine Le.mk ?_ ?_; (repeat' (first | exact LeEnv.done | refine LeEnv.cons ?_ ?_ | exact PVLe.refl _ | exact PVLe.s (SVLe.nil _ _ _) | exact PVLe.s (SVLe.no _ _ _ _) | (refine PVLe.int ?_; first | rfl | omega | (simp; done) | (simp; omega)) | (refine PVLe.els ?_; first | rfl | assumption | (simp; done)) | (refine PVLe.bool ?_; first | rfl | assumption) | (refine PVLe.bsl ?_; first | rfl | assumption | (simp; done))));  (repeat' (first | exact LeBox.done | refine LeBox.cons ?_ ?_ | exact rfl)))
      · rw [show l.take k = l from List.take_of_length_le (by omega)] at hS1
        have hM : (setAll l).length ≤ 60 := by
          have := setAll_bound l []
          simp only [List.length_nil] at this
          show (List.foldl setP [] l).length ≤ _
          omega
        have hnums := nums_setAll l
        generalize setAll l = M at *
        clear hS
        have hcopy := shCopy pb b es1 cl1
        repeat' (first
    | (apply RunK.actF [2000012, 2000013] 900005 hcopy; (case hw => exact rfl); (case he => first | exact fun _ => rfl | exact (fun h => nomatch h)); (case hx => exact rfl); (case ha => (repeat (first | exact ArgsLe.nil | refine ArgsLe.cons ?_ ?_ | exact ArgLe.v _ | exact ArgLe.sl _ _ _ _ | exact ArgLe.nil _ | exact ArgLe.nil' | (apply ArgLe.bsl; exact rfl; (first | exact rfl | (rw [List.length_map]; done) | (simp only [List.length_map]; done) | (simp; done) | (simp; omega)); (first | assumption | exact map_len (fun _ => rfl)))))); (case hf => exact .kept 2000010 rfl rfl (.kept 2000011 rfl rfl .nil)); (case hap => exact ApartE.nil _))
    | refine Wt.seq ?_
    | (apply Wt.regionK; exact rfl)
    | (apply Wt.regionD; kernel_rfl; kernel_rfl; exact rfl; exact rfl)
    | refine Wt.ret ?_
    | refine Wt.block ?_
    | refine Wt.scope ?_
    | refine Wt.skip ?_
    | refine Wt.label ?_
    | refine Wt.exit ?_
    | refine RunK.nil ?_
    | (apply RunK.moveV; exact rfl; exact rfl)
    | (apply RunK.index; exact rfl; exact rfl; exact rfl; (first | exact rfl | exact (rfl : (0 : Int) = ((0 : Nat) : Int)) | exact (rfl : (1 : Int) = ((1 : Nat) : Int)) | exact (rfl : (2 : Int) = ((2 : Nat) : Int)) | exact (rfl : (3 : Int) = ((3 : Nat) : Int)) | assumption); (first | omega | exact lt_of_get ‹_› | (rw [List.length_map]; omega) | (simp; omega)))
    | (apply RunK.indexB; exact rfl; exact rfl; exact rfl; (first | exact rfl | exact (rfl : (0 : Int) = ((0 : Nat) : Int)) | exact (rfl : (1 : Int) = ((1 : Nat) : Int)) | exact (rfl : (2 : Int) = ((2 : Nat) : Int)) | exact (rfl : (3 : Int) = ((3 : Nat) : Int)) | assumption); exact rfl)
    | (apply RunK.indexA; exact rfl; exact rfl; exact rfl; (first | exact rfl | exact (rfl : (0 : Int) = ((0 : Nat) : Int)) | exact (rfl : (1 : Int) = ((1 : Nat) : Int)) | exact (rfl : (2 : Int) = ((2 : Nat) : Int)) | exact (rfl : (3 : Int) = ((3 : Nat) : Int)) | assumption); exact rfl)
    | (apply RunK.load1; exact rfl; exact rfl; exact rfl; exact rfl)
    | (apply RunK.loadE1; exact rfl; exact rfl; assumption; exact rfl)
    | (apply RunK.field; exact rfl; exact rfl)
    | (apply RunK.fieldE; exact rfl; exact rfl)
    | (apply RunK.assignV; exact rfl; exact rfl)
    | (apply RunK.box; exact rfl; exact rfl; apply Cells.eq; (first | exact Cells.agg _ | exact Cells.int _ _ | exact Cells.bool _ | exact Cells.one _ rfl); exact rfl)
    | (apply RunK.alloc; exact rfl; apply Cells.eq; (first | exact Cells.agg _ | exact Cells.int _ _ | exact Cells.bool _ | exact Cells.one _ rfl); exact rfl)
    | (apply RunK.moveS; exact rfl; exact rfl)
    | (apply RunK.moveN; exact rfl; exact rfl)
    | (apply RunK.moveT; exact rfl; exact rfl)
    | (apply RunK.moveB; exact rfl; exact rfl)
    | (apply RunK.moveBs; exact rfl; exact rfl)
    | (apply RunK.assignBs; exact rfl; exact rfl)
    | (apply RunK.indexS; exact rfl; exact rfl; exact rfl; (first | exact rfl | exact (rfl : (0 : Int) = ((0 : Nat) : Int)) | exact (rfl : (1 : Int) = ((1 : Nat) : Int)) | exact (rfl : (2 : Int) = ((2 : Nat) : Int)) | exact (rfl : (3 : Int) = ((3 : Nat) : Int)) | assumption); (first | omega | exact lt_of_get ‹_› | (rw [List.length_map]; omega) | (simp; omega)))
    | (apply RunK.lenS; exact rfl; exact rfl)
    | (apply RunK.assignS; exact rfl; exact rfl)
    | (apply RunK.assignN; exact rfl; exact rfl)
    | (apply RunK.loadR; exact rfl; exact rfl; exact rfl; exact rfl; (apply cut_eq; repeat (first | exact Cut.nil _ | apply Cut.cons | apply Cut.skip)))
    | (apply RunK.loadER; exact rfl; exact rfl; assumption; exact rfl; (apply cut_eq; repeat (first | exact Cut.nil _ | apply Cut.cons | apply Cut.skip)))
    | (apply RunK.moveC; exact rfl; exact rfl; exact rfl)
    | (apply RunK.assignC; exact rfl; exact rfl; exact rfl)
    | (apply RunK.makeFunc; exact rfl; (repeat (first | exact CapsOk.nil | (apply CapsOk.cons; exact rfl))))
    | (apply RunK.loadF1; exact rfl; exact rfl; exact rfl; (first | exact off0 _ _ | exact off1 _ _ _ | exact off2 _ _ _ _ | exact off3 _ _ _ _ _ | omega); (first | assumption | exact map_len (fun _ => rfl)); assumption; exact rfl)
    | (apply RunK.loadFR; exact rfl; exact rfl; exact rfl; (first | exact off0 _ _ | exact off1 _ _ _ | exact off2 _ _ _ _ | exact off3 _ _ _ _ _ | omega); (first | assumption | exact map_len (fun _ => rfl)); assumption; exact rfl; (apply cut_eq; repeat (first | exact Cut.nil _ | apply Cut.cons | apply Cut.skip)))
    | (apply RunK.pickT; exact rfl; exact rfl; exact rfl)
    | (apply RunK.pickF; exact rfl; exact rfl; exact rfl)
    | (apply RunK.pick; exact rfl; exact rfl; exact rfl; exact rfl)
    | (apply RunK.geq; exact rfl; exact rfl; exact rfl)
    | (apply RunK.leq; exact rfl; exact rfl; exact rfl)
    | (apply RunK.lss; exact rfl; exact rfl; exact rfl)
    | (apply RunK.gtr; exact rfl; exact rfl; exact rfl)
    | (apply RunK.eql; exact rfl; exact rfl; exact rfl)
    | (apply RunK.neq; exact rfl; exact rfl; exact rfl)
    | (apply RunK.add; exact rfl; exact rfl; exact rfl; (first | omega | (simp only [List.length_map]; omega)))
    | (apply RunK.sub; exact rfl; exact rfl; exact rfl; (first | omega | (simp only [List.length_map]; omega)))
    | (apply RunK.not; exact rfl; exact rfl)
    | (apply RunK.len; exact rfl; exact rfl)
    | (apply RunK.sliceFrom; exact rfl; exact rfl; exact rfl; (first | exact rfl | exact (rfl : (0 : Int) = ((0 : Nat) : Int)) | exact (rfl : (1 : Int) = ((1 : Nat) : Int)) | exact (rfl : (2 : Int) = ((2 : Nat) : Int)) | exact (rfl : (3 : Int) = ((3 : Nat) : Int)) | assumption); (first | omega | (simp only [List.length_map]; omega)))
    | (apply RunK.sliceTo; exact rfl; exact rfl; exact rfl; (first | exact rfl | exact (rfl : (0 : Int) = ((0 : Nat) : Int)) | exact (rfl : (1 : Int) = ((1 : Nat) : Int)) | exact (rfl : (2 : Int) = ((2 : Nat) : Int)) | exact (rfl : (3 : Int) = ((3 : Nat) : Int)) | assumption); (first | omega | (simp only [List.length_map]; omega)))
    | (apply RunK.sliceFull; exact rfl; exact rfl; exact rfl; exact rfl; (first | exact rfl | exact (rfl : (0 : Int) = ((0 : Nat) : Int)) | exact (rfl : (1 : Int) = ((1 : Nat) : Int)) | exact (rfl : (2 : Int) = ((2 : Nat) : Int)) | exact (rfl : (3 : Int) = ((3 : Nat) : Int)) | assumption); (first | exact rfl | exact (rfl : (0 : Int) = ((0 : Nat) : Int)) | exact (rfl : (1 : Int) = ((1 : Nat) : Int)) | exact (rfl : (2 : Int) = ((2 : Nat) : Int)) | exact (rfl : (3 : Int) = ((3 : Nat) : Int)) | assumption); (first | omega | (simp only [List.length_map]; omega)))
    | (apply RunK.lenN; exact rfl; exact rfl)
    | (apply RunK.extract; exact rfl; exact rfl; exact rfl)
    | (apply RunK.max; exact rfl; exact rfl; exact rfl)
    | (apply RunK.min; exact rfl; exact rfl; exact rfl)
    | (apply RunK.build; exact rfl; (repeat (first | exact PartsOk.nil | (apply PartsOk.cons; exact rfl))); (repeat (first | exact fill_nil | (apply fill_cons; exact rfl; (first | exact Cells.agg _ | exact Cells.int _ _ | exact Cells.bool _ | exact Cells.one _ rfl); exact rfl; (repeat (first | exact Upd.nil _ | apply Upd.cons | apply Upd.skip))))))
    | (apply RunK.buildA; exact rfl; (repeat (first | exact PartsOk.nil | (apply PartsOk.cons; exact rfl))); (repeat (first | exact fill_nil | (apply fill_cons; exact rfl; (first | exact Cells.agg _ | exact Cells.int _ _ | exact Cells.bool _ | exact Cells.one _ rfl); exact rfl; (repeat (first | exact Upd.nil _ | apply Upd.cons | apply Upd.skip))))))
    | (apply RunK.rows; exact rfl; (repeat (first | exact PartsOk.nil | (apply PartsOk.cons; exact rfl))); (repeat (first | exact Rows.nil _ | (apply Rows.cons; (first | exact Cells.agg _ | exact Cells.int _ _ | exact Cells.bool _ | exact Cells.one _ rfl); exact rfl))); exact rfl; exact rfl)
    | (apply RunK.store; exact rfl; exact rfl; exact rfl; exact rfl; exact rfl; exact rfl; exact rfl; apply upd_eq; exact rfl; (first | exact Cells.agg _ | exact Cells.int _ _ | exact Cells.bool _ | exact Cells.one _ rfl); (repeat (first | exact Upd.nil _ | apply Upd.cons | apply Upd.skip)))
    | (apply RunK.storeF; exact rfl; exact rfl; exact rfl; exact rfl; (first | exact off0 _ _ | exact off1 _ _ _ | exact off2 _ _ _ _ | exact off3 _ _ _ _ _ | omega); (first | assumption | exact map_len (fun _ => rfl)); assumption; exact rfl; exact rfl; exact rfl; (first | exact Cells.agg _ | exact Cells.int _ _ | exact Cells.bool _ | exact Cells.one _ rfl); (repeat (first | exact Upd.nil _ | apply Upd.cons | apply Upd.skip)))
    | (apply RunK.skip; exact rfl; exact rfl)
    | (apply RunK.skipN; exact rfl; exact rfl)
    | (apply RunK.guard; exact rfl; exact rfl; exact rfl; all_goals (intro hg; (first | exact absurd hg (by decide) | skip); (first | (with_reducible replace hg := not_t hg) | (with_reducible replace hg := not_f hg) | skip); (first | (with_reducible replace hg := dec_t hg) | (with_reducible replace hg := dec_f hg) | skip); (first | (with_reducible exact absurd rfl hg) | skip); (repeat rw [List.length_map] at hg); try (exfalso; omega)))
    | (apply Wt.cond; exact rfl; all_goals (intro hg; (first | exact absurd hg (by decide) | skip); (first | (with_reducible replace hg := not_t hg) | (with_reducible replace hg := not_f hg) | skip); (first | (with_reducible replace hg := dec_t hg) | (with_reducible replace hg := dec_f hg) | skip); (first | (with_reducible exact absurd rfl hg) | skip); (repeat rw [List.length_map] at hg); try (exfalso; omega))))
        rintro _ _ ⟨pb2, b2, hne2, rfl, rfl, a1, a2, a3, a4⟩ _
        repeat' (first
    | (apply RunK.actF [2000014, 2000015] 900006 hcopy; (case hw => exact rfl); (case he => first | exact fun _ => rfl | exact (fun h => nomatch h)); (case hx => exact rfl); (case ha => (repeat (first | exact ArgsLe.nil | refine ArgsLe.cons ?_ ?_ | exact ArgLe.v _ | exact ArgLe.sl _ _ _ _ | exact ArgLe.nil _ | exact ArgLe.nil' | (apply ArgLe.bsl; exact rfl; (first | exact rfl | (rw [List.length_map]; done) | (simp only [List.length_map]; done) | (simp; done) | (simp; omega)); (first | assumption | exact map_len (fun _ => rfl)))))); (case hf => exact .kept 2000010 rfl rfl (.kept 2000011 rfl rfl .nil)); (case hap => exact ApartE.nil _))
    | refine Wt.seq ?_
    | (apply Wt.regionK; exact rfl)
    | (apply Wt.regionD; kernel_rfl; kernel_rfl; exact rfl; exact rfl)
    | refine Wt.ret ?_
    | refine Wt.block ?_
    | refine Wt.scope ?_
    | refine Wt.skip ?_
    | refine Wt.label ?_
    | refine Wt.exit ?_
    | refine RunK.nil ?_
    | (apply RunK.moveV; exact rfl; exact rfl)
    | (apply RunK.index; exact rfl; exact rfl; exact rfl; (first | exact rfl | exact (rfl : (0 : Int) = ((0 : Nat) : Int)) | exact (rfl : (1 : Int) = ((1 : Nat) : Int)) | exact (rfl : (2 : Int) = ((2 : Nat) : Int)) | exact (rfl : (3 : Int) = ((3 : Nat) : Int)) | assumption); (first | omega | exact lt_of_get ‹_› | (rw [List.length_map]; omega) | (simp; omega)))
    | (apply RunK.indexB; exact rfl; exact rfl; exact rfl; (first | exact rfl | exact (rfl : (0 : Int) = ((0 : Nat) : Int)) | exact (rfl : (1 : Int) = ((1 : Nat) : Int)) | exact (rfl : (2 : Int) = ((2 : Nat) : Int)) | exact (rfl : (3 : Int) = ((3 : Nat) : Int)) | assumption); exact rfl)
    | (apply RunK.indexA; exact rfl; exact rfl; exact rfl; (first | exact rfl | exact (rfl : (0 : Int) = ((0 : Nat) : Int)) | exact (rfl : (1 : Int) = ((1 : Nat) : Int)) | exact (rfl : (2 : Int) = ((2 : Nat) : Int)) | exact (rfl : (3 : Int) = ((3 : Nat) : Int)) | assumption); exact rfl)
    | (apply RunK.load1; exact rfl; exact rfl; exact rfl; exact rfl)
    | (apply RunK.loadE1; exact rfl; exact rfl; assumption; exact rfl)
    | (apply RunK.field; exact rfl; exact rfl)
    | (apply RunK.fieldE; exact rfl; exact rfl)
    | (apply RunK.assignV; exact rfl; exact rfl)
    | (apply RunK.box; exact rfl; exact rfl; apply Cells.eq; (first | exact Cells.agg _ | exact Cells.int _ _ | exact Cells.bool _ | exact Cells.one _ rfl); exact rfl)
    | (apply RunK.alloc; exact rfl; apply Cells.eq; (first | exact Cells.agg _ | exact Cells.int _ _ | exact Cells.bool _ | exact Cells.one _ rfl); exact rfl)
    | (apply RunK.moveS; exact rfl; exact rfl)
    | (apply RunK.moveN; exact rfl; exact rfl)
    | (apply RunK.moveT; exact rfl; exact rfl)
    | (apply RunK.moveB; exact rfl; exact rfl)
    | (apply RunK.moveBs; exact rfl; exact rfl)
    | (apply RunK.assignBs; exact rfl; exact rfl)
    | (apply RunK.indexS; exact rfl; exact rfl; exact rfl; (first | exact rfl | exact (rfl : (0 : Int) = ((0 : Nat) : Int)) | exact (rfl : (1 : Int) = ((1 : Nat) : Int)) | exact (rfl : (2 : Int) = ((2 : Nat) : Int)) | exact (rfl : (3 : Int) = ((3 : Nat) : Int)) | assumption); (first | omega | exact lt_of_get ‹_› | (rw [List.length_map]; omega) | (simp; omega)))
    | (apply RunK.lenS; exact rfl; exact rfl)
    | (apply RunK.assignS; exact rfl; exact rfl)
    | (apply RunK.assignN; exact rfl; exact rfl)
    | (apply RunK.loadR; exact rfl; exact rfl; exact rfl; exact rfl; (apply cut_eq; repeat (first | exact Cut.nil _ | apply Cut.cons | apply Cut.skip)))
    | (apply RunK.loadER; exact rfl; exact rfl; assumption; exact rfl; (apply cut_eq; repeat (first | exact Cut.nil _ | apply Cut.cons | apply Cut.skip)))
    | (apply RunK.moveC; exact rfl; exact rfl; exact rfl)
    | (apply RunK.assignC; exact rfl; exact rfl; exact rfl)
    | (apply RunK.makeFunc; exact rfl; (repeat (first | exact CapsOk.nil | (apply CapsOk.cons; exact rfl))))
    | (apply RunK.loadF1; exact rfl; exact rfl; exact rfl; (first | exact off0 _ _ | exact off1 _ _ _ | exact off2 _ _ _ _ | exact off3 _ _ _ _ _ | omega); (first | assumption | exact map_len (fun _ => rfl)); assumption; exact rfl)
    | (apply RunK.loadFR; exact rfl; exact rfl; exact rfl; (first | exact off0 _ _ | exact off1 _ _ _ | exact off2 _ _ _ _ | exact off3 _ _ _ _ _ | omega); (first | assumption | exact map_len (fun _ => rfl)); assumption; exact rfl; (apply cut_eq; repeat (first | exact Cut.nil _ | apply Cut.cons | apply Cut.skip)))
    | (apply RunK.pickT; exact rfl; exact rfl; exact rfl)
    | (apply RunK.pickF; exact rfl; exact rfl; exact rfl)
    | (apply RunK.pick; exact rfl; exact rfl; exact rfl; exact rfl)
    | (apply RunK.geq; exact rfl; exact rfl; exact rfl)
    | (apply RunK.leq; exact rfl; exact rfl; exact rfl)
    | (apply RunK.lss; exact rfl; exact rfl; exact rfl)
    | (apply RunK.gtr; exact rfl; exact rfl; exact rfl)
    | (apply RunK.eql; exact rfl; exact rfl; exact rfl)
    | (apply RunK.neq; exact rfl; exact rfl; exact rfl)
    | (apply RunK.add; exact rfl; exact rfl; exact rfl; (first | omega | (simp only [List.length_map]; omega)))
    | (apply RunK.sub; exact rfl; exact rfl; exact rfl; (first | omega | (simp only [List.length_map]; omega)))
    | (apply RunK.not; exact rfl; exact rfl)
    | (apply RunK.len; exact rfl; exact rfl)
    | (apply RunK.sliceFrom; exact rfl; exact rfl; exact rfl; (first | exact rfl | exact (rfl : (0 : Int) = ((0 : Nat) : Int)) | exact (rfl : (1 : Int) = ((1 : Nat) : Int)) | exact (rfl : (2 : Int) = ((2 : Nat) : Int)) | exact (rfl : (3 : Int) = ((3 : Nat) : Int)) | assumption); (first | omega | (simp only [List.length_map]; omega)))
    | (apply RunK.sliceTo; exact rfl; exact rfl; exact rfl; (first | exact rfl | exact (rfl : (0 : Int) = ((0 : Nat) : Int)) | exact (rfl : (1 : Int) = ((1 : Nat) : Int)) | exact (rfl : (2 : Int) = ((2 : Nat) : Int)) | exact (rfl : (3 : Int) = ((3 : Nat) : Int)) | assumption); (first | omega | (simp only [List.length_map]; omega)))
    | (apply RunK.sliceFull; exact rfl; exact rfl; exact rfl; exact rfl; (first | exact rfl | exact (rfl : (0 : Int) = ((0 : Nat) : Int)) | exact (rfl : (1 : Int) = ((1 : Nat) : Int)) | exact (rfl : (2 : Int) = ((2 : Nat) : Int)) | exact (rfl : (3 : Int) = ((3 : Nat) : Int)) | assumption); (first | exact rfl | exact (rfl : (0 : Int) = ((0 : Nat) : Int)) | exact (rfl : (1 : Int) = ((1 : Nat) : Int)) | exact (rfl : (2 : Int) = ((2 : Nat) : Int)) | exact (rfl : (3 : Int) = ((3 : Nat) : Int)) | assumption); (first | omega | (simp only [List.length_map]; omega)))
    | (apply RunK.lenN; exact rfl; exact rfl)
    | (apply RunK.extract; exact rfl; exact rfl; exact rfl)
    | (apply RunK.max; exact rfl; exact rfl; exact rfl)
    | (apply RunK.min; exact rfl; exact rfl; exact rfl)
    | (apply RunK.build; exact rfl; (repeat (first | exact PartsOk.nil | (apply PartsOk.cons; exact rfl))); (repeat (first | exact fill_nil | (apply fill_cons; exact rfl; (first | exact Cells.agg _ | exact Cells.int _ _ | exact Cells.bool _ | exact Cells.one _ rfl); exact rfl; (repeat (first | exact Upd.nil _ | apply Upd.cons | apply Upd.skip))))))
    | (apply RunK.buildA; exact rfl; (repeat (first | exact PartsOk.nil | (apply PartsOk.cons; exact rfl))); (repeat (first | exact fill_nil | (apply fill_cons; exact rfl; (first | exact Cells.agg _ | exact Cells.int _ _ | exact Cells.bool _ | exact Cells.one _ rfl); exact rfl; (repeat (first | exact Upd.nil _ | apply Upd.cons | apply Upd.skip))))))
    | (apply RunK.rows; exact rfl; (repeat (first | exact PartsOk.nil | (apply PartsOk.cons; exact rfl))); (repeat (first | exact Rows.nil _ | (apply Rows.cons; (first | exact Cells.agg _ | exact Cells.int _ _ | exact Cells.bool _ | exact Cells.one _ rfl); exact rfl))); exact rfl; exact rfl)
    | (apply RunK.store; exact rfl; exact rfl; exact rfl; exact rfl; exact rfl; exact rfl; exact rfl; apply upd_eq; exact rfl; (first | exact Cells.agg _ | exact Cells.int _ _ | exact Cells.bool _ | exact Cells.one _ rfl); (repeat (first | exact Upd.nil _ | apply Upd.cons | apply Upd.skip)))
    | (apply RunK.storeF; exact rfl; exact rfl; exact rfl; exact rfl; (first | exact off0 _ _ | exact off1 _ _ _ | exact off2 _ _ _ _ | exact off3 _ _ _ _ _ | omega); (first | assumption | exact map_len (fun _ => rfl)); assumption; exact rfl; exact rfl; exact rfl; (first | exact Cells.agg _ | exact Cells.int _ _ | exact Cells.bool _ | exact Cells.one _ rfl); (repeat (first | exact Upd.nil _ | apply Upd.cons | apply Upd.skip)))
    | (apply RunK.skip; exact rfl; exact rfl)
    | (apply RunK.skipN; exact rfl; exact rfl)
    | (apply RunK.guard; exact rfl; exact rfl; exact rfl; all_goals (intro hg; (first | exact absurd hg (by decide) | skip); (first | (with_reducible replace hg := not_t hg) | (with_reducible replace hg := not_f hg) | skip); (first | (with_reducible replace hg := dec_t hg) | (with_reducible replace hg := dec_f hg) | skip); (first | (with_reducible exact absurd rfl hg) | skip); (repeat rw [List.length_map] at hg); try (exfalso; omega)))
    | (apply Wt.cond; exact rfl; all_goals (intro hg; (first | exact absurd hg (by decide) | skip); (first | (with_reducible replace hg := not_t hg) | (with_reducible replace hg := not_f hg) | skip); (first | (with_reducible replace hg := dec_t hg) | (with_reducible replace hg := dec_f hg) | skip); (first | (with_reducible exact absurd rfl hg) | skip); (repeat rw [List.length_map] at hg); try (exfalso; omega))))
        rintro _ _ ⟨pb3, b3, hne3, rfl, rfl, c1, c2, c3, c4⟩ hfr
        have d1 : pb2 ≠ pb3 := ((hfr 2000012 _ _ rfl pb3 _ (List.mem_cons_self ..)).resolve_left (two_not c1 c2))
        have d2 : b2 ≠ pb3 := ((hfr 2000013 _ _ rfl pb3 _ (List.mem_cons_self ..)).resolve_left (two_not c1 c2))
        have d3 : pb2 ≠ b3 := ((hfr 2000012 _ _ rfl b3 _ (List.mem_cons_of_mem _ (List.mem_cons_self ..))).resolve_left (two_not c3 c4))
        have d4 : b2 ≠ b3 := ((hfr 2000013 _ _ rfl b3 _ (List.mem_cons_of_mem _ (List.mem_cons_self ..))).resolve_left (two_not c3 c4))
        clear hfr
        have q1 := shEqual pb b pb2 b2 es1 es1 cl1 cl1 M M hS1 hS1
        have q2 := shEqual pb2 b2 pb b es1 es1 cl1 cl1 M M hS1 hS1
        rw [decide_eq_true rfl] at q1 q2
        have hnx := lawNumber x.n
        have hny := lawNumber y.n
        have s1 := shSetP pb b es1 cl1 M hS1 x
        have t1 := shSetP pb2 b2 es1 cl1 M hS1 y
        have s2 := fun es cl h => shSetP pb b es cl (setP M x) h y
        have t2 := fun es cl h => shSetP pb2 b2 es cl (setP M y) h x
        have g1 := shGet pb3 b3 es1 cl1 M hS1 x.at_ hb1
        have g2 := shGet pb3 b3 es1 cl1 M hS1 y.at_ hb2
        have M12 : setP (setP M y) x = setP (setP M x) y := by
          rw [setP_in hb1, setP_in hb2, setP_in hb1, setP_in hb2]
          exact put_swap hS1.srt (fun e => hne0 e.symm)
        have hsame : decide (M = setP (setP M x) y) = (decide (getL M x.at_ = numV x.n) && decide (getL M y.at_ = numV y.n)) := by
          rw [setP_in hb1, setP_in hb2, Bool.eq_iff_iff, Bool.and_eq_true, decide_eq_true_iff, decide_eq_true_iff, decide_eq_true_iff]
          exact same_iff hS1.srt hS1.nb hne0
        have hnums1 : Nums (setP (setP M x) y) := by
          rw [setP_in hb1, setP_in hb2]
          exact nums_put (nums_put hnums hb1) hb2
        have hM1 : (setP (setP M x) y).length ≤ 62 := by
          have e1 := setP_len M x
          have e2 := setP_len (setP M x) y
          omega
        have n1 := fun u v => neqVal (x := u) (y := v) (getL M x.at_) (numV x.n)
        have n2 := fun u v => neqVal (x := u) (y := v) (getL M y.at_) (numV y.n)
        generalize hD1 : decide (getL M x.at_ = numV x.n) = D1 at *
        generalize hD2 : decide (getL M y.at_ = numV y.n) = D2 at *
        generalize getL M x.at_ = G1 at *
        generalize getL M y.at_ = G2 at *
        generalize numV x.n = V1 at *
        generalize numV y.n = V2 at *
        repeat' (first
    | (apply RunK.bin; exact rfl; exact rfl; exact rfl; first | exact BinRun.eqlP0 ⟨_, Try.underlying24⟩ | exact BinRun.eqlP0 ⟨_, Try.underlying28⟩ | exact BinRun.eqlP1 ⟨_, Try.underlying24⟩ | exact BinRun.eqlP1 ⟨_, Try.underlying28⟩) | (apply RunK.actR _ q1 (fun _ _ h => h.1); (case hn => exact rfl); (case hw => exact rfl); (case he => exact rfl); (case hx => exact rfl); (case ha => (repeat (first | exact ArgsLe.nil | refine ArgsLe.cons ?_ ?_ | exact ArgLe.v _ | exact ArgLe.sl _ _ _ _ | exact ArgLe.nil _ | exact ArgLe.nil' | (apply ArgLe.bsl; exact rfl; (first | exact rfl | (rw [List.length_map]; done) | (simp only [List.length_map]; done) | (simp; done) | (simp; omega)); (first | assumption | exact map_len (fun _ => rfl)))))); (case hf => exact .kept 2000010 rfl rfl (.kept 2000011 rfl rfl (.kept 2000012 rfl rfl (.kept 2000013 rfl rfl .nil))))) | (apply RunK.actR _ q2 (fun _ _ h => h.1); (case hn => exact rfl); (case hw => exact rfl); (case he => exact rfl); (case hx => exact rfl); (case ha => (repeat (first | exact ArgsLe.nil | refine ArgsLe.cons ?_ ?_ | exact ArgLe.v _ | exact ArgLe.sl _ _ _ _ | exact ArgLe.nil _ | exact ArgLe.nil' | (apply ArgLe.bsl; exact rfl; (first | exact rfl | (rw [List.length_map]; done) | (simp only [List.length_map]; done) | (simp; done) | (simp; omega)); (first | assumption | exact map_len (fun _ => rfl)))))); (case hf => exact .kept 2000012 rfl rfl (.kept 2000013 rfl rfl (.kept 2000010 rfl rfl (.kept 2000011 rfl rfl .nil))))) | (apply RunK.callS; exact rfl; exact rfl; exact hnx; (repeat (first | exact ArgsLe.nil | refine ArgsLe.cons ?_ ?_ | exact ArgLe.v _ | exact ArgLe.sl _ _ _ _ | exact ArgLe.nil _ | exact ArgLe.nil' | (apply ArgLe.bsl; exact rfl; (first | exact rfl | (rw [List.length_map]; done) | (simp only [List.length_map]; done) | (simp; done) | (simp; omega)); (first | assumption | exact map_len (fun _ => rfl))))); exact rfl) | (apply RunK.callS; exact rfl; exact rfl; exact hny; (repeat (first | exact ArgsLe.nil | refine ArgsLe.cons ?_ ?_ | exact ArgLe.v _ | exact ArgLe.sl _ _ _ _ | exact ArgLe.nil _ | exact ArgLe.nil' | (apply ArgLe.bsl; exact rfl; (first | exact rfl | (rw [List.length_map]; done) | (simp only [List.length_map]; done) | (simp; done) | (simp; omega)); (first | assumption | exact map_len (fun _ => rfl))))); exact rfl)
    | refine Wt.seq ?_
    | (apply Wt.regionK; exact rfl)
    | (apply Wt.regionD; kernel_rfl; kernel_rfl; exact rfl; exact rfl)
    | refine Wt.ret ?_
    | refine Wt.block ?_
    | refine Wt.scope ?_
    | refine Wt.skip ?_
    | refine Wt.label ?_
    | refine Wt.exit ?_
    | refine RunK.nil ?_
    | (apply RunK.moveV; exact rfl; exact rfl)
    | (apply RunK.index; exact rfl; exact rfl; exact rfl; (first | exact rfl | exact (rfl : (0 : Int) = ((0 : Nat) : Int)) | exact (rfl : (1 : Int) = ((1 : Nat) : Int)) | exact (rfl : (2 : Int) = ((2 : Nat) : Int)) | exact (rfl : (3 : Int) = ((3 : Nat) : Int)) | assumption); (first | omega | exact lt_of_get ‹_› | (rw [List.length_map]; omega) | (simp; omega)))
    | (apply RunK.indexB; exact rfl; exact rfl; exact rfl; (first | exact rfl | exact (rfl : (0 : Int) = ((0 : Nat) : Int)) | exact (rfl : (1 : Int) = ((1 : Nat) : Int)) | exact (rfl : (2 : Int) = ((2 : Nat) : Int)) | exact (rfl : (3 : Int) = ((3 : Nat) : Int)) | assumption); exact rfl)
    | (apply RunK.indexA; exact rfl; exact rfl; exact rfl; (first | exact rfl | exact (rfl : (0 : Int) = ((0 : Nat) : Int)) | exact (rfl : (1 : Int) = ((1 : Nat) : Int)) | exact (rfl : (2 : Int) = ((2 : Nat) : Int)) | exact (rfl : (3 : Int) = ((3 : Nat) : Int)) | assumption); exact rfl)
    | (apply RunK.load1; exact rfl; exact rfl; exact rfl; exact rfl)
    | (apply RunK.loadE1; exact rfl; exact rfl; assumption; exact rfl)
    | (apply RunK.field; exact rfl; exact rfl)
    | (apply RunK.fieldE; exact rfl; exact rfl)
    | (apply RunK.assignV; exact rfl; exact rfl)
    | (apply RunK.box; exact rfl; exact rfl; apply Cells.eq; (first | exact Cells.agg _ | exact Cells.int _ _ | exact Cells.bool _ | exact Cells.one _ rfl); exact rfl)
    | (apply RunK.alloc; exact rfl; apply Cells.eq; (first | exact Cells.agg _ | exact Cells.int _ _ | exact Cells.bool _ | exact Cells.one _ rfl); exact rfl)
    | (apply RunK.moveS; exact rfl; exact rfl)
    | (apply RunK.moveN; exact rfl; exact rfl)
    | (apply RunK.moveT; exact rfl; exact rfl)
    | (apply RunK.moveB; exact rfl; exact rfl)
    | (apply RunK.moveBs; exact rfl; exact rfl)
    | (apply RunK.assignBs; exact rfl; exact rfl)
    | (apply RunK.indexS; exact rfl; exact rfl; exact rfl; (first | exact rfl | exact (rfl : (0 : Int) = ((0 : Nat) : Int)) | exact (rfl : (1 : Int) = ((1 : Nat) : Int)) | exact (rfl : (2 : Int) = ((2 : Nat) : Int)) | exact (rfl : (3 : Int) = ((3 : Nat) : Int)) | assumption); (first | omega | exact lt_of_get ‹_› | (rw [List.length_map]; omega) | (simp; omega)))
    | (apply RunK.lenS; exact rfl; exact rfl)
    | (apply RunK.assignS; exact rfl; exact rfl)
    | (apply RunK.assignN; exact rfl; exact rfl)
    | (apply RunK.loadR; exact rfl; exact rfl; exact rfl; exact rfl; (apply cut_eq; repeat (first | exact Cut.nil _ | apply Cut.cons | apply Cut.skip)))
    | (apply RunK.loadER; exact rfl; exact rfl; assumption; exact rfl; (apply cut_eq; repeat (first | exact Cut.nil _ | apply Cut.cons | apply Cut.skip)))
    | (apply RunK.moveC; exact rfl; exact rfl; exact rfl)
    | (apply RunK.assignC; exact rfl; exact rfl; exact rfl)
    | (apply RunK.makeFunc; exact rfl; (repeat (first | exact CapsOk.nil | (apply CapsOk.cons; exact rfl))))
    | (apply RunK.loadF1; exact rfl; exact rfl; exact rfl; (first | exact off0 _ _ | exact off1 _ _ _ | exact off2 _ _ _ _ | exact off3 _ _ _ _ _ | omega); (first | assumption | exact map_len (fun _ => rfl)); assumption; exact rfl)
    | (apply RunK.loadFR; exact rfl; exact rfl; exact rfl; (first | exact off0 _ _ | exact off1 _ _ _ | exact off2 _ _ _ _ | exact off3 _ _ _ _ _ | omega); (first | assumption | exact map_len (fun _ => rfl)); assumption; exact rfl; (apply cut_eq; repeat (first | exact Cut.nil _ | apply Cut.cons | apply Cut.skip)))
    | (apply RunK.pickT; exact rfl; exact rfl; exact rfl)
    | (apply RunK.pickF; exact rfl; exact rfl; exact rfl)
    | (apply RunK.pick; exact rfl; exact rfl; exact rfl; exact rfl)
    | (apply RunK.geq; exact rfl; exact rfl; exact rfl)
    | (apply RunK.leq; exact rfl; exact rfl; exact rfl)
    | (apply RunK.lss; exact rfl; exact rfl; exact rfl)
    | (apply RunK.gtr; exact rfl; exact rfl; exact rfl)
    | (apply RunK.eql; exact rfl; exact rfl; exact rfl)
    | (apply RunK.neq; exact rfl; exact rfl; exact rfl)
    | (apply RunK.add; exact rfl; exact rfl; exact rfl; (first | omega | (simp only [List.length_map]; omega)))
    | (apply RunK.sub; exact rfl; exact rfl; exact rfl; (first | omega | (simp only [List.length_map]; omega)))
    | (apply RunK.not; exact rfl; exact rfl)
    | (apply RunK.len; exact rfl; exact rfl)
    | (apply RunK.sliceFrom; exact rfl; exact rfl; exact rfl; (first | exact rfl | exact (rfl : (0 : Int) = ((0 : Nat) : Int)) | exact (rfl : (1 : Int) = ((1 : Nat) : Int)) | exact (rfl : (2 : Int) = ((2 : Nat) : Int)) | exact (rfl : (3 : Int) = ((3 : Nat) : Int)) | assumption); (first | omega | (simp only [List.length_map]; omega)))
    | (apply RunK.sliceTo; exact rfl; exact rfl; exact rfl; (first | exact rfl | exact (rfl : (0 : Int) = ((0 : Nat) : Int)) | exact (rfl : (1 : Int) = ((1 : Nat) : Int)) | exact (rfl : (2 : Int) = ((2 : Nat) : Int)) | exact (rfl : (3 : Int) = ((3 : Nat) : Int)) | assumption); (first | omega | (simp only [List.length_map]; omega)))
    | (apply RunK.sliceFull; exact rfl; exact rfl; exact rfl; exact rfl; (first | exact rfl | exact (rfl : (0 : Int) = ((0 : Nat) : Int)) | exact (rfl : (1 : Int) = ((1 : Nat) : Int)) | exact (rfl : (2 : Int) = ((2 : Nat) : Int)) | exact (rfl : (3 : Int) = ((3 : Nat) : Int)) | assumption); (first | exact rfl | exact (rfl : (0 : Int) = ((0 : Nat) : Int)) | exact (rfl : (1 : Int) = ((1 : Nat) : Int)) | exact (rfl : (2 : Int) = ((2 : Nat) : Int)) | exact (rfl : (3 : Int) = ((3 : Nat) : Int)) | assumption); (first | omega | (simp only [List.length_map]; omega)))
    | (apply RunK.lenN; exact rfl; exact rfl)
    | (apply RunK.extract; exact rfl; exact rfl; exact rfl)
    | (apply RunK.max; exact rfl; exact rfl; exact rfl)
    | (apply RunK.min; exact rfl; exact rfl; exact rfl)
    | (apply RunK.build; exact rfl; (repeat (first | exact PartsOk.nil | (apply PartsOk.cons; exact rfl))); (repeat (first | exact fill_nil | (apply fill_cons; exact rfl; (first | exact Cells.agg _ | exact Cells.int _ _ | exact Cells.bool _ | exact Cells.one _ rfl); exact rfl; (repeat (first | exact Upd.nil _ | apply Upd.cons | apply Upd.skip))))))
    | (apply RunK.buildA; exact rfl; (repeat (first | exact PartsOk.nil | (apply PartsOk.cons; exact rfl))); (repeat (first | exact fill_nil | (apply fill_cons; exact rfl; (first | exact Cells.agg _ | exact Cells.int _ _ | exact Cells.bool _ | exact Cells.one _ rfl); exact rfl; (repeat (first | exact Upd.nil _ | apply Upd.cons | apply Upd.skip))))))
    | (apply RunK.rows; exact rfl; (repeat (first | exact PartsOk.nil | (apply PartsOk.cons; exact rfl))); (repeat (first | exact Rows.nil _ | (apply Rows.cons; (first | exact Cells.agg _ | exact Cells.int _ _ | exact Cells.bool _ | exact Cells.one _ rfl); exact rfl))); exact rfl; exact rfl)
    | (apply RunK.store; exact rfl; exact rfl; exact rfl; exact rfl; exact rfl; exact rfl; exact rfl; apply upd_eq; exact rfl; (first | exact Cells.agg _ | exact Cells.int _ _ | exact Cells.bool _ | exact Cells.one _ rfl); (repeat (first | exact Upd.nil _ | apply Upd.cons | apply Upd.skip)))
    | (apply RunK.storeF; exact rfl; exact rfl; exact rfl; exact rfl; (first | exact off0 _ _ | exact off1 _ _ _ | exact off2 _ _ _ _ | exact off3 _ _ _ _ _ | omega); (first | assumption | exact map_len (fun _ => rfl)); assumption; exact rfl; exact rfl; exact rfl; (first | exact Cells.agg _ | exact Cells.int _ _ | exact Cells.bool _ | exact Cells.one _ rfl); (repeat (first | exact Upd.nil _ | apply Upd.cons | apply Upd.skip)))
    | (apply RunK.skip; exact rfl; exact rfl)
    | (apply RunK.skipN; exact rfl; exact rfl)
    | (apply RunK.guard; exact rfl; exact rfl; exact rfl; all_goals (intro hg; (first | exact absurd hg (by decide) | skip); (first | (with_reducible replace hg := not_t hg) | (with_reducible replace hg := not_f hg) | skip); (first | (with_reducible replace hg := dec_t hg) | (with_reducible replace hg := dec_f hg) | skip); (first | (with_reducible exact absurd rfl hg) | skip); (repeat rw [List.length_map] at hg); try (exfalso; omega)))
    | (apply Wt.cond; exact rfl; all_goals (intro hg; (first | exact absurd hg (by decide) | skip); (first | (with_reducible replace hg := not_t hg) | (with_reducible replace hg := not_f hg) | skip); (first | (with_reducible replace hg := dec_t hg) | (with_reducible replace hg := dec_f hg) | skip); (first | (with_reducible exact absurd rfl hg) | skip); (repeat rw [List.length_map] at hg); try (exfalso; omega))))
        repeat' (first
    | (refine Wt.regionP (i := 13) 6 1 hm2 (by decide +kernel) rfl rfl rfl (by kernel_rfl) rfl (fun K hK hN => ?_)) | (refine AnyA.go [6] hK (wf_of (by kernel_rfl)) (by decide +kernel) rfl ?_) | (refine AnyA.fin (by decide +kernel) (hN _ ?_)) | (refine AllJ.cons ?_ ?_) | exact AllJ.nil | (refine ⟨_, rfl, rfl, ?_⟩) | (apply RunK.callS; exact rfl; exact rfl; exact hnx; (repeat (first | exact ArgsLe.nil | refine ArgsLe.cons ?_ ?_ | exact ArgLe.v _ | exact ArgLe.sl _ _ _ _ | exact ArgLe.nil _ | exact ArgLe.nil' | (apply ArgLe.bsl; exact rfl; (first | exact rfl | (rw [List.length_map]; done) | (simp only [List.length_map]; done) | (simp; done) | (simp; omega)); (first | assumption | exact map_len (fun _ => rfl))))); exact rfl) | (apply RunK.actF [2000011] 900007 s1; (case hw => exact rfl); (case he => first | exact fun _ => rfl | exact (fun h => nomatch h)); (case hx => exact rfl); (case ha => (repeat (first | exact ArgsLe.nil | refine ArgsLe.cons ?_ ?_ | exact ArgLe.v _ | exact ArgLe.sl _ _ _ _ | exact ArgLe.nil _ | exact ArgLe.nil' | (apply ArgLe.bsl; exact rfl; (first | exact rfl | (rw [List.length_map]; done) | (simp only [List.length_map]; done) | (simp; done) | (simp; omega)); (first | assumption | exact map_len (fun _ => rfl)))))); (case hf => exact .kept 2000010 rfl rfl (.kept 2000011 rfl rfl .nil)); (case hap => (repeat' (first | exact trivial | first | exact not_one hne | exact not_one a2 | exact not_one a4 | exact not_one c2 | exact not_one c4 | refine And.intro ?_ ?_))))
    | refine Wt.seq ?_
    | (apply Wt.regionK; exact rfl)
    | (apply Wt.regionD; kernel_rfl; kernel_rfl; exact rfl; exact rfl)
    | refine Wt.ret ?_
    | refine Wt.block ?_
    | refine Wt.scope ?_
    | refine Wt.skip ?_
    | refine Wt.label ?_
    | refine Wt.exit ?_
    | refine RunK.nil ?_
    | (apply RunK.moveV; exact rfl; exact rfl)
    | (apply RunK.index; exact rfl; exact rfl; exact rfl; (first | exact rfl | exact (rfl : (0 : Int) = ((0 : Nat) : Int)) | exact (rfl : (1 : Int) = ((1 : Nat) : Int)) | exact (rfl : (2 : Int) = ((2 : Nat) : Int)) | exact (rfl : (3 : Int) = ((3 : Nat) : Int)) | assumption); (first | omega | exact lt_of_get ‹_› | (rw [List.length_map]; omega) | (simp; omega)))
    | (apply RunK.indexB; exact rfl; exact rfl; exact rfl; (first | exact rfl | exact (rfl : (0 : Int) = ((0 : Nat) : Int)) | exact (rfl : (1 : Int) = ((1 : Nat) : Int)) | exact (rfl : (2 : Int) = ((2 : Nat) : Int)) | exact (rfl : (3 : Int) = ((3 : Nat) : Int)) | assumption); exact rfl)
    | (apply RunK.indexA; exact rfl; exact rfl; exact rfl; (first | exact rfl | exact (rfl : (0 : Int) = ((0 : Nat) : Int)) | exact (rfl : (1 : Int) = ((1 : Nat) : Int)) | exact (rfl : (2 : Int) = ((2 : Nat) : Int)) | exact (rfl : (3 : Int) = ((3 : Nat) : Int)) | assumption); exact rfl)
    | (apply RunK.load1; exact rfl; exact rfl; exact rfl; exact rfl)
    | (apply RunK.loadE1; exact rfl; exact rfl; assumption; exact rfl)
    | (apply RunK.field; exact rfl; exact rfl)
    | (apply RunK.fieldE; exact rfl; exact rfl)
    | (apply RunK.assignV; exact rfl; exact rfl)
    | (apply RunK.box; exact rfl; exact rfl; apply Cells.eq; (first | exact Cells.agg _ | exact Cells.int _ _ | exact Cells.bool _ | exact Cells.one _ rfl); exact rfl)
    | (apply RunK.alloc; exact rfl; apply Cells.eq; (first | exact Cells.agg _ | exact Cells.int _ _ | exact Cells.bool _ | exact Cells.one _ rfl); exact rfl)
    | (apply RunK.moveS; exact rfl; exact rfl)
    | (apply RunK.moveN; exact rfl; exact rfl)
    | (apply RunK.moveT; exact rfl; exact rfl)
    | (apply RunK.moveB; exact rfl; exact rfl)
    | (apply RunK.moveBs; exact rfl; exact rfl)
    | (apply RunK.assignBs; exact rfl; exact rfl)
    | (apply RunK.indexS; exact rfl; exact rfl; exact rfl; (first | exact rfl | exact (rfl : (0 : Int) = ((0 : Nat) : Int)) | exact (rfl : (1 : Int) = ((1 : Nat) : Int)) | exact (rfl : (2 : Int) = ((2 : Nat) : Int)) | exact (rfl : (3 : Int) = ((3 : Nat) : Int)) | assumption); (first | omega | exact lt_of_get ‹_› | (rw [List.length_map]; omega) | (simp; omega)))
    | (apply RunK.lenS; exact rfl; exact rfl)
    | (apply RunK.assignS; exact rfl; exact rfl)
    | (apply RunK.assignN; exact rfl; exact rfl)
    | (apply RunK.loadR; exact rfl; exact rfl; exact rfl; exact rfl; (apply cut_eq; repeat (first | exact Cut.nil _ | apply Cut.cons | apply Cut.skip)))
    | (apply RunK.loadER; exact rfl; exact rfl; assumption; exact rfl; (apply cut_eq; repeat (first | exact Cut.nil _ | apply Cut.cons | apply Cut.skip)))
    | (apply RunK.moveC; exact rfl; exact rfl; exact rfl)
    | (apply RunK.assignC; exact rfl; exact rfl; exact rfl)
    | (apply RunK.makeFunc; exact rfl; (repeat (first | exact CapsOk.nil | (apply CapsOk.cons; exact rfl))))
    | (apply RunK.loadF1; exact rfl; exact rfl; exact rfl; (first | exact off0 _ _ | exact off1 _ _ _ | exact off2 _ _ _ _ | exact off3 _ _ _ _ _ | omega); (first | assumption | exact map_len (fun _ => rfl)); assumption; exact rfl)
    | (apply RunK.loadFR; exact rfl; exact rfl; exact rfl; (first | exact off0 _ _ | exact off1 _ _ _ | exact off2 _ _ _ _ | exact off3 _ _ _ _ _ | omega); (first | assumption | exact map_len (fun _ => rfl)); assumption; exact rfl; (apply cut_eq; repeat (first | exact Cut.nil _ | apply Cut.cons | apply Cut.skip)))
    | (apply RunK.pickT; exact rfl; exact rfl; exact rfl)
    | (apply RunK.pickF; exact rfl; exact rfl; exact rfl)
    | (apply RunK.pick; exact rfl; exact rfl; exact rfl; exact rfl)
    | (apply RunK.geq; exact rfl; exact rfl; exact rfl)
    | (apply RunK.leq; exact rfl; exact rfl; exact rfl)
    | (apply RunK.lss; exact rfl; exact rfl; exact rfl)
    | (apply RunK.gtr; exact rfl; exact rfl; exact rfl)
    | (apply RunK.eql; exact rfl; exact rfl; exact rfl)
    | (apply RunK.neq; exact rfl; exact rfl; exact rfl)
    | (apply RunK.add; exact rfl; exact rfl; exact rfl; (first | omega | (simp only [List.length_map]; omega)))
    | (apply RunK.sub; exact rfl; exact rfl; exact rfl; (first | omega | (simp only [List.length_map]; omega)))
    | (apply RunK.not; exact rfl; exact rfl)
    | (apply RunK.len; exact rfl; exact rfl)
    | (apply RunK.sliceFrom; exact rfl; exact rfl; exact rfl; (first | exact rfl | exact (rfl : (0 : Int) = ((0 : Nat) : Int)) | exact (rfl : (1 : Int) = ((1 : Nat) : Int)) | exact (rfl : (2 : Int) = ((2 : Nat) : Int)) | exact (rfl : (3 : Int) = ((3 : Nat) : Int)) | assumption); (first | omega | (simp only [List.length_map]; omega)))
    | (apply RunK.sliceTo; exact rfl; exact rfl; exact rfl; (first | exact rfl | exact (rfl : (0 : Int) = ((0 : Nat) : Int)) | exact (rfl : (1 : Int) = ((1 : Nat) : Int)) | exact (rfl : (2 : Int) = ((2 : Nat) : Int)) | exact (rfl : (3 : Int) = ((3 : Nat) : Int)) | assumption); (first | omega | (simp only [List.length_map]; omega)))
    | (apply RunK.sliceFull; exact rfl; exact rfl; exact rfl; exact rfl; (first | exact rfl | exact (rfl : (0 : Int) = ((0 : Nat) : Int)) | exact (rfl : (1 : Int) = ((1 : Nat) : Int)) | exact (rfl : (2 : Int) = ((2 : Nat) : Int)) | exact (rfl : (3 : Int) = ((3 : Nat) : Int)) | assumption); (first | exact rfl | exact (rfl : (0 : Int) = ((0 : Nat) : Int)) | exact (rfl : (1 : Int) = ((1 : Nat) : Int)) | exact (rfl : (2 : Int) = ((2 : Nat) : Int)) | exact (rfl : (3 : Int) = ((3 : Nat) : Int)) | assumption); (first | omega | (simp only [List.length_map]; omega)))
    | (apply RunK.lenN; exact rfl; exact rfl)
    | (apply RunK.extract; exact rfl; exact rfl; exact rfl)
    | (apply RunK.max; exact rfl; exact rfl; exact rfl)
    | (apply RunK.min; exact rfl; exact rfl; exact rfl)
    | (apply RunK.build; exact rfl; (repeat (first | exact PartsOk.nil | (apply PartsOk.cons; exact rfl))); (repeat (first | exact fill_nil | (apply fill_cons; exact rfl; (first | exact Cells.agg _ | exact Cells.int _ _ | exact Cells.bool _ | exact Cells.one _ rfl); exact rfl; (repeat (first | exact Upd.nil _ | apply Upd.cons | apply Upd.skip))))))
    | (apply RunK.buildA; exact rfl; (repeat (first | exact PartsOk.nil | (apply PartsOk.cons; exact rfl))); (repeat (first | exact fill_nil | (apply fill_cons; exact rfl; (first | exact Cells.agg _ | exact Cells.int _ _ | exact Cells.bool _ | exact Cells.one _ rfl); exact rfl; (repeat (first | exact Upd.nil _ | apply Upd.cons | apply Upd.skip))))))
    | (apply RunK.rows; exact rfl; (repeat (first | exact PartsOk.nil | (apply PartsOk.cons; exact rfl))); (repeat (first | exact Rows.nil _ | (apply Rows.cons; (first | exact Cells.agg _ | exact Cells.int _ _ | exact Cells.bool _ | exact Cells.one _ rfl); exact rfl))); exact rfl; exact rfl)
    | (apply RunK.store; exact rfl; exact rfl; exact rfl; exact rfl; exact rfl; exact rfl; exact rfl; apply upd_eq; exact rfl; (first | exact Cells.agg _ | exact Cells.int _ _ | exact Cells.bool _ | exact Cells.one _ rfl); (repeat (first | exact Upd.nil _ | apply Upd.cons | apply Upd.skip)))
    | (apply RunK.storeF; exact rfl; exact rfl; exact rfl; exact rfl; (first | exact off0 _ _ | exact off1 _ _ _ | exact off2 _ _ _ _ | exact off3 _ _ _ _ _ | omega); (first | assumption | exact map_len (fun _ => rfl)); assumption; exact rfl; exact rfl; exact rfl; (first | exact Cells.agg _ | exact Cells.int _ _ | exact Cells.bool _ | exact Cells.one _ rfl); (repeat (first | exact Upd.nil _ | apply Upd.cons | apply Upd.skip)))
    | (apply RunK.skip; exact rfl; exact rfl)
    | (apply RunK.skipN; exact rfl; exact rfl)
    | (apply RunK.guard; exact rfl; exact rfl; exact rfl; all_goals (intro hg; (first | exact absurd hg (by decide) | skip); (first | (with_reducible replace hg := not_t hg) | (with_reducible replace hg := not_f hg) | skip); (first | (with_reducible replace hg := dec_t hg) | (with_reducible replace hg := dec_f hg) | skip); (first | (with_reducible exact absurd rfl hg) | skip); (repeat rw [List.length_map] at hg); try (exfalso; omega)))
    | (apply Wt.cond; exact rfl; all_goals (intro hg; (first | exact absurd hg (by decide) | skip); (first | (with_reducible replace hg := not_t hg) | (with_reducible replace hg := not_f hg) | skip); (first | (with_reducible replace hg := dec_t hg) | (with_reducible replace hg := dec_f hg) | skip); (first | (with_reducible exact absurd rfl hg) | skip); (repeat rw [List.length_map] at hg); try (exfalso; omega))))
        rintro _ _ ⟨es2, cl2, hS2, rfl, rfl⟩ _
        have s2 := s2 es2 cl2 hS2
        repeat' (first
    | (refine AnyA.fin (by decide +kernel) (hN _ ?_)) | (refine Wt.regionP (i := 14) 6 1 hm2 (by decide +kernel) rfl rfl rfl (by kernel_rfl) rfl (fun K hK hN => ?_)) | (refine AnyA.go [6] hK (wf_of (by kernel_rfl)) (by decide +kernel) rfl ?_) | (refine AllJ.cons ?_ ?_) | exact AllJ.nil | (refine ⟨_, rfl, rfl, ?_⟩) | (apply RunK.callS; exact rfl; exact rfl; exact hny; (repeat (first | exact ArgsLe.nil | refine ArgsLe.cons ?_ ?_ | exact ArgLe.v _ | exact ArgLe.sl _ _ _ _ | exact ArgLe.nil _ | exact ArgLe.nil' | (apply ArgLe.bsl; exact rfl; (first | exact rfl | (rw [List.length_map]; done) | (simp only [List.length_map]; done) | (simp; done) | (simp; omega)); (first | assumption | exact map_len (fun _ => rfl))))); exact rfl) | (apply RunK.actF [2000011] 900008 s2; (case hw => exact rfl); (case he => first | exact fun _ => rfl | exact (fun h => nomatch h)); (case hx => exact rfl); (case ha => (repeat (first | exact ArgsLe.nil | refine ArgsLe.cons ?_ ?_ | exact ArgLe.v _ | exact ArgLe.sl _ _ _ _ | exact ArgLe.nil _ | exact ArgLe.nil' | (apply ArgLe.bsl; exact rfl; (first | exact rfl | (rw [List.length_map]; done) | (simp only [List.length_map]; done) | (simp; done) | (simp; omega)); (first | assumption | exact map_len (fun _ => rfl)))))); (case hf => exact .kept 2000010 rfl rfl (.kept 2000011 rfl rfl .nil)); (case hap => (repeat' (first | exact trivial | first | exact not_one hne | exact not_one a2 | exact not_one a4 | exact not_one c2 | exact not_one c4 | refine And.intro ?_ ?_))))
    | refine Wt.seq ?_
    | (apply Wt.regionK; exact rfl)
    | (apply Wt.regionD; kernel_rfl; kernel_rfl; exact rfl; exact rfl)
    | refine Wt.ret ?_
    | refine Wt.block ?_
    | refine Wt.scope ?_
    | refine Wt.skip ?_
    | refine Wt.label ?_
    | refine Wt.exit ?_
    | refine RunK.nil ?_
    | (apply RunK.moveV; exact rfl; exact rfl)
    | (apply RunK.index; exact rfl; exact rfl; exact rfl; (first | exact rfl | exact (rfl : (0 : Int) = ((0 : Nat) : Int)) | exact (rfl : (1 : Int) = ((1 : Nat) : Int)) | exact (rfl : (2 : Int) = ((2 : Nat) : Int)) | exact (rfl : (3 : Int) = ((3 : Nat) : Int)) | assumption); (first | omega | exact lt_of_get ‹_› | (rw [List.length_map]; omega) | (simp; omega)))
    | (apply RunK.indexB; exact rfl; exact rfl; exact rfl; (first | exact rfl | exact (rfl : (0 : Int) = ((0 : Nat) : Int)) | exact (rfl : (1 : Int) = ((1 : Nat) : Int)) | exact (rfl : (2 : Int) = ((2 : Nat) : Int)) | exact (rfl : (3 : Int) = ((3 : Nat) : Int)) | assumption); exact rfl)
    | (apply RunK.indexA; exact rfl; exact rfl; exact rfl; (first | exact rfl | exact (rfl : (0 : Int) = ((0 : Nat) : Int)) | exact (rfl : (1 : Int) = ((1 : Nat) : Int)) | exact (rfl : (2 : Int) = ((2 : Nat) : Int)) | exact (rfl : (3 : Int) = ((3 : Nat) : Int)) | assumption); exact rfl)
    | (apply RunK.load1; exact rfl; exact rfl; exact rfl; exact rfl)
    | (apply RunK.loadE1; exact rfl; exact rfl; assumption; exact rfl)
    | (apply RunK.field; exact rfl; exact rfl)
    | (apply RunK.fieldE; exact rfl; exact rfl)
    | (apply RunK.assignV; exact rfl; exact rfl)
    | (apply RunK.box; exact rfl; exact rfl; apply Cells.eq; (first | exact Cells.agg _ | exact Cells.int _ _ | exact Cells.bool _ | exact Cells.one _ rfl); exact rfl)
    | (apply RunK.alloc; exact rfl; apply Cells.eq; (first | exact Cells.agg _ | exact Cells.int _ _ | exact Cells.bool _ | exact Cells.one _ rfl); exact rfl)
    | (apply RunK.moveS; exact rfl; exact rfl)
    | (apply RunK.moveN; exact rfl; exact rfl)
    | (apply RunK.moveT; exact rfl; exact rfl)
    | (apply RunK.moveB; exact rfl; exact rfl)
    | (apply RunK.moveBs; exact rfl; exact rfl)
    | (apply RunK.assignBs; exact rfl; exact rfl)
    | (apply RunK.indexS; exact rfl; exact rfl; exact rfl; (first | exact rfl | exact (rfl : (0 : Int) = ((0 : Nat) : Int)) | exact (rfl : (1 : Int) = ((1 : Nat) : Int)) | exact (rfl : (2 : Int) = ((2 : Nat) : Int)) | exact (rfl : (3 : Int) = ((3 : Nat) : Int)) | assumption); (first | omega | exact lt_of_get ‹_› | (rw [List.length_map]; omega) | (simp; omega)))
    | (apply RunK.lenS; exact rfl; exact rfl)
    | (apply RunK.assignS; exact rfl; exact rfl)
    | (apply RunK.assignN; exact rfl; exact rfl)
    | (apply RunK.loadR; exact rfl; exact rfl; exact rfl; exact rfl; (apply cut_eq; repeat (first | exact Cut.nil _ | apply Cut.cons | apply Cut.skip)))
    | (apply RunK.loadER; exact rfl; exact rfl; assumption; exact rfl; (apply cut_eq; repeat (first | exact Cut.nil _ | apply Cut.cons | apply Cut.skip)))
    | (apply RunK.moveC; exact rfl; exact rfl; exact rfl)
    | (apply RunK.assignC; exact rfl; exact rfl; exact rfl)
    | (apply RunK.makeFunc; exact rfl; (repeat (first | exact CapsOk.nil | (apply CapsOk.cons; exact rfl))))
    | (apply RunK.loadF1; exact rfl; exact rfl; exact rfl; (first | exact off0 _ _ | exact off1 _ _ _ | exact off2 _ _ _ _ | exact off3 _ _ _ _ _ | omega); (first | assumption | exact map_len (fun _ => rfl)); assumption; exact rfl)
    | (apply RunK.loadFR; exact rfl; exact rfl; exact rfl; (first | exact off0 _ _ | exact off1 _ _ _ | exact off2 _ _ _ _ | exact off3 _ _ _ _ _ | omega); (first | assumption | exact map_len (fun _ => rfl)); assumption; exact rfl; (apply cut_eq; repeat (first | exact Cut.nil _ | apply Cut.cons | apply Cut.skip)))
    | (apply RunK.pickT; exact rfl; exact rfl; exact rfl)
    | (apply RunK.pickF; exact rfl; exact rfl; exact rfl)
    | (apply RunK.pick; exact rfl; exact rfl; exact rfl; exact rfl)
    | (apply RunK.geq; exact rfl; exact rfl; exact rfl)
    | (apply RunK.leq; exact rfl; exact rfl; exact rfl)
    | (apply RunK.lss; exact rfl; exact rfl; exact rfl)
    | (apply RunK.gtr; exact rfl; exact rfl; exact rfl)
    | (apply RunK.eql; exact rfl; exact rfl; exact rfl)
    | (apply RunK.neq; exact rfl; exact rfl; exact rfl)
    | (apply RunK.add; exact rfl; exact rfl; exact rfl; (first | omega | (simp only [List.length_map]; omega)))
    | (apply RunK.sub; exact rfl; exact rfl; exact rfl; (first | omega | (simp only [List.length_map]; omega)))
    | (apply RunK.not; exact rfl; exact rfl)
    | (apply RunK.len; exact rfl; exact rfl)
    | (apply RunK.sliceFrom; exact rfl; exact rfl; exact rfl; (first | exact rfl | exact (rfl : (0 : Int) = ((0 : Nat) : Int)) | exact (rfl : (1 : Int) = ((1 : Nat) : Int)) | exact (rfl : (2 : Int) = ((2 : Nat) : Int)) | exact (rfl : (3 : Int) = ((3 : Nat) : Int)) | assumption); (first | omega | (simp only [List.length_map]; omega)))
    | (apply RunK.sliceTo; exact rfl; exact rfl; exact rfl; (first | exact rfl | exact (rfl : (0 : Int) = ((0 : Nat) : Int)) | exact (rfl : (1 : Int) = ((1 : Nat) : Int)) | exact (rfl : (2 : Int) = ((2 : Nat) : Int)) | exact (rfl : (3 : Int) = ((3 : Nat) : Int)) | assumption); (first | omega | (simp only [List.length_map]; omega)))
    | (apply RunK.sliceFull; exact rfl; exact rfl; exact rfl; exact rfl; (first | exact rfl | exact (rfl : (0 : Int) = ((0 : Nat) : Int)) | exact (rfl : (1 : Int) = ((1 : Nat) : Int)) | exact (rfl : (2 : Int) = ((2 : Nat) : Int)) | exact (rfl : (3 : Int) = ((3 : Nat) : Int)) | assumption); (first | exact rfl | exact (rfl : (0 : Int) = ((0 : Nat) : Int)) | exact (rfl : (1 : Int) = ((1 : Nat) : Int)) | exact (rfl : (2 : Int) = ((2 : Nat) : Int)) | exact (rfl : (3 : Int) = ((3 : Nat) : Int)) | assumption); (first | omega | (simp only [List.length_map]; omega)))
    | (apply RunK.lenN; exact rfl; exact rfl)
    | (apply RunK.extract; exact rfl; exact rfl; exact rfl)
    | (apply RunK.max; exact rfl; exact rfl; exact rfl)
    | (apply RunK.min; exact rfl; exact rfl; exact rfl)
    | (apply RunK.build; exact rfl; (repeat (first | exact PartsOk.nil | (apply PartsOk.cons; exact rfl))); (repeat (first | exact fill_nil | (apply fill_cons; exact rfl; (first | exact Cells.agg _ | exact Cells.int _ _ | exact Cells.bool _ | exact Cells.one _ rfl); exact rfl; (repeat (first | exact Upd.nil _ | apply Upd.cons | apply Upd.skip))))))
    | (apply RunK.buildA; exact rfl; (repeat (first | exact PartsOk.nil | (apply PartsOk.cons; exact rfl))); (repeat (first | exact fill_nil | (apply fill_cons; exact rfl; (first | exact Cells.agg _ | exact Cells.int _ _ | exact Cells.bool _ | exact Cells.one _ rfl); exact rfl; (repeat (first | exact Upd.nil _ | apply Upd.cons | apply Upd.skip))))))
    | (apply RunK.rows; exact rfl; (repeat (first | exact PartsOk.nil | (apply PartsOk.cons; exact rfl))); (repeat (first | exact Rows.nil _ | (apply Rows.cons; (first | exact Cells.agg _ | exact Cells.int _ _ | exact Cells.bool _ | exact Cells.one _ rfl); exact rfl))); exact rfl; exact rfl)
    | (apply RunK.store; exact rfl; exact rfl; exact rfl; exact rfl; exact rfl; exact rfl; exact rfl; apply upd_eq; exact rfl; (first | exact Cells.agg _ | exact Cells.int _ _ | exact Cells.bool _ | exact Cells.one _ rfl); (repeat (first | exact Upd.nil _ | apply Upd.cons | apply Upd.skip)))
    | (apply RunK.storeF; exact rfl; exact rfl; exact rfl; exact rfl; (first | exact off0 _ _ | exact off1 _ _ _ | exact off2 _ _ _ _ | exact off3 _ _ _ _ _ | omega); (first | assumption | exact map_len (fun _ => rfl)); assumption; exact rfl; exact rfl; exact rfl; (first | exact Cells.agg _ | exact Cells.int _ _ | exact Cells.bool _ | exact Cells.one _ rfl); (repeat (first | exact Upd.nil _ | apply Upd.cons | apply Upd.skip)))
    | (apply RunK.skip; exact rfl; exact rfl)
    | (apply RunK.skipN; exact rfl; exact rfl)
    | (apply RunK.guard; exact rfl; exact rfl; exact rfl; all_goals (intro hg; (first | exact absurd hg (by decide) | skip); (first | (with_reducible replace hg := not_t hg) | (with_reducible replace hg := not_f hg) | skip); (first | (with_reducible replace hg := dec_t hg) | (with_reducible replace hg := dec_f hg) | skip); (first | (with_reducible exact absurd rfl hg) | skip); (repeat rw [List.length_map] at hg); try (exfalso; omega)))
    | (apply Wt.cond; exact rfl; all_goals (intro hg; (first | exact absurd hg (by decide) | skip); (first | (with_reducible replace hg := not_t hg) | (with_reducible replace hg := not_f hg) | skip); (first | (with_reducible replace hg := dec_t hg) | (with_reducible replace hg := dec_f hg) | skip); (first | (with_reducible exact absurd rfl hg) | skip); (repeat rw [List.length_map] at hg); try (exfalso; omega))))
        rintro _ _ ⟨es3, cl3, hS3, rfl, rfl⟩ _
        repeat' (first
    | (refine AnyA.fin (by decide +kernel) (hN _ ?_)) | (refine Wt.regionP (i := 15) 6 1 hm2 (by decide +kernel) rfl rfl rfl (by kernel_rfl) rfl (fun K hK hN => ?_)) | (refine AnyA.go [6] hK (wf_of (by kernel_rfl)) (by decide +kernel) rfl ?_) | (refine AllJ.cons ?_ ?_) | exact AllJ.nil | (refine ⟨_, rfl, rfl, ?_⟩) | (apply RunK.callS; exact rfl; exact rfl; exact hny; (repeat (first | exact ArgsLe.nil | refine ArgsLe.cons ?_ ?_ | exact ArgLe.v _ | exact ArgLe.sl _ _ _ _ | exact ArgLe.nil _ | exact ArgLe.nil' | (apply ArgLe.bsl; exact rfl; (first | exact rfl | (rw [List.length_map]; done) | (simp only [List.length_map]; done) | (simp; done) | (simp; omega)); (first | assumption | exact map_len (fun _ => rfl))))); exact rfl) | (apply RunK.actF [2000013] 900009 t1; (case hw => exact rfl); (case he => first | exact fun _ => rfl | exact (fun h => nomatch h)); (case hx => exact rfl); (case ha => (repeat (first | exact ArgsLe.nil | refine ArgsLe.cons ?_ ?_ | exact ArgLe.v _ | exact ArgLe.sl _ _ _ _ | exact ArgLe.nil _ | exact ArgLe.nil' | (apply ArgLe.bsl; exact rfl; (first | exact rfl | (rw [List.length_map]; done) | (simp only [List.length_map]; done) | (simp; done) | (simp; omega)); (first | assumption | exact map_len (fun _ => rfl)))))); (case hf => exact .kept 2000012 rfl rfl (.kept 2000013 rfl rfl .nil)); (case hap => (repeat' (first | exact trivial | first | exact not_one a3.symm | exact not_one a4.symm | exact not_one hne2 | exact not_one d2.symm | exact not_one d4.symm | refine And.intro ?_ ?_))))
    | refine Wt.seq ?_
    | (apply Wt.regionK; exact rfl)
    | (apply Wt.regionD; kernel_rfl; kernel_rfl; exact rfl; exact rfl)
    | refine Wt.ret ?_
    | refine Wt.block ?_
    | refine Wt.scope ?_
    | refine Wt.skip ?_
    | refine Wt.label ?_
    | refine Wt.exit ?_
    | refine RunK.nil ?_
    | (apply RunK.moveV; exact rfl; exact rfl)
    | (apply RunK.index; exact rfl; exact rfl; exact rfl; (first | exact rfl | exact (rfl : (0 : Int) = ((0 : Nat) : Int)) | exact (rfl : (1 : Int) = ((1 : Nat) : Int)) | exact (rfl : (2 : Int) = ((2 : Nat) : Int)) | exact (rfl : (3 : Int) = ((3 : Nat) : Int)) | assumption); (first | omega | exact lt_of_get ‹_› | (rw [List.length_map]; omega) | (simp; omega)))
    | (apply RunK.indexB; exact rfl; exact rfl; exact rfl; (first | exact rfl | exact (rfl : (0 : Int) = ((0 : Nat) : Int)) | exact (rfl : (1 : Int) = ((1 : Nat) : Int)) | exact (rfl : (2 : Int) = ((2 : Nat) : Int)) | exact (rfl : (3 : Int) = ((3 : Nat) : Int)) | assumption); exact rfl)
    | (apply RunK.indexA; exact rfl; exact rfl; exact rfl; (first | exact rfl | exact (rfl : (0 : Int) = ((0 : Nat) : Int)) | exact (rfl : (1 : Int) = ((1 : Nat) : Int)) | exact (rfl : (2 : Int) = ((2 : Nat) : Int)) | exact (rfl : (3 : Int) = ((3 : Nat) : Int)) | assumption); exact rfl)
    | (apply RunK.load1; exact rfl; exact rfl; exact rfl; exact rfl)
    | (apply RunK.loadE1; exact rfl; exact rfl; assumption; exact rfl)
    | (apply RunK.field; exact rfl; exact rfl)
    | (apply RunK.fieldE; exact rfl; exact rfl)
    | (apply RunK.assignV; exact rfl; exact rfl)
    | (apply RunK.box; exact rfl; exact rfl; apply Cells.eq; (first | exact Cells.agg _ | exact Cells.int _ _ | exact Cells.bool _ | exact Cells.one _ rfl); exact rfl)
    | (apply RunK.alloc; exact rfl; apply Cells.eq; (first | exact Cells.agg _ | exact Cells.int _ _ | exact Cells.bool _ | exact Cells.one _ rfl); exact rfl)
    | (apply RunK.moveS; exact rfl; exact rfl)
    | (apply RunK.moveN; exact rfl; exact rfl)
    | (apply RunK.moveT; exact rfl; exact rfl)
    | (apply RunK.moveB; exact rfl; exact rfl)
    | (apply RunK.moveBs; exact rfl; exact rfl)
    | (apply RunK.assignBs; exact rfl; exact rfl)
    | (apply RunK.indexS; exact rfl; exact rfl; exact rfl; (first | exact rfl | exact (rfl : (0 : Int) = ((0 : Nat) : Int)) | exact (rfl : (1 : Int) = ((1 : Nat) : Int)) | exact (rfl : (2 : Int) = ((2 : Nat) : Int)) | exact (rfl : (3 : Int) = ((3 : Nat) : Int)) | assumption); (first | omega | exact lt_of_get ‹_› | (rw [List.length_map]; omega) | (simp; omega)))
    | (apply RunK.lenS; exact rfl; exact rfl)
    | (apply RunK.assignS; exact rfl; exact rfl)
    | (apply RunK.assignN; exact rfl; exact rfl)
    | (apply RunK.loadR; exact rfl; exact rfl; exact rfl; exact rfl; (apply cut_eq; repeat (first | exact Cut.nil _ | apply Cut.cons | apply Cut.skip)))
    | (apply RunK.loadER; exact rfl; exact rfl; assumption; exact rfl; (apply cut_eq; repeat (first | exact Cut.nil _ | apply Cut.cons | apply Cut.skip)))
    | (apply RunK.moveC; exact rfl; exact rfl; exact rfl)
    | (apply RunK.assignC; exact rfl; exact rfl; exact rfl)
    | (apply RunK.makeFunc; exact rfl; (repeat (first | exact CapsOk.nil | (apply CapsOk.cons; exact rfl))))
    | (apply RunK.loadF1; exact rfl; exact rfl; exact rfl; (first | exact off0 _ _ | exact off1 _ _ _ | exact off2 _ _ _ _ | exact off3 _ _ _ _ _ | omega); (first | assumption | exact map_len (fun _ => rfl)); assumption; exact rfl)
    | (apply RunK.loadFR; exact rfl; exact rfl; exact rfl; (first | exact off0 _ _ | exact off1 _ _ _ | exact off2 _ _ _ _ | exact off3 _ _ _ _ _ | omega); (first | assumption | exact map_len (fun _ => rfl)); assumption; exact rfl; (apply cut_eq; repeat (first | exact Cut.nil _ | apply Cut.cons | apply Cut.skip)))
    | (apply RunK.pickT; exact rfl; exact rfl; exact rfl)
    | (apply RunK.pickF; exact rfl; exact rfl; exact rfl)
    | (apply RunK.pick; exact rfl; exact rfl; exact rfl; exact rfl)
    | (apply RunK.geq; exact rfl; exact rfl; exact rfl)
    | (apply RunK.leq; exact rfl; exact rfl; exact rfl)
    | (apply RunK.lss; exact rfl; exact rfl; exact rfl)
    | (apply RunK.gtr; exact rfl; exact rfl; exact rfl)
    | (apply RunK.eql; exact rfl; exact rfl; exact rfl)
    | (apply RunK.neq; exact rfl; exact rfl; exact rfl)
    | (apply RunK.add; exact rfl; exact rfl; exact rfl; (first | omega | (simp only [List.length_map]; omega)))
    | (apply RunK.sub; exact rfl; exact rfl; exact rfl; (first | omega | (simp only [List.length_map]; omega)))
    | (apply RunK.not; exact rfl; exact rfl)
    | (apply RunK.len; exact rfl; exact rfl)
    | (apply RunK.sliceFrom; exact rfl; exact rfl; exact rfl; (first | exact rfl | exact (rfl : (0 : Int) = ((0 : Nat) : Int)) | exact (rfl : (1 : Int) = ((1 : Nat) : Int)) | exact (rfl : (2 : Int) = ((2 : Nat) : Int)) | exact (rfl : (3 : Int) = ((3 : Nat) : Int)) | assumption); (first | omega | (simp only [List.length_map]; omega)))
    | (apply RunK.sliceTo; exact rfl; exact rfl; exact rfl; (first | exact rfl | exact (rfl : (0 : Int) = ((0 : Nat) : Int)) | exact (rfl : (1 : Int) = ((1 : Nat) : Int)) | exact (rfl : (2 : Int) = ((2 : Nat) : Int)) | exact (rfl : (3 : Int) = ((3 : Nat) : Int)) | assumption); (first | omega | (simp only [List.length_map]; omega)))
    | (apply RunK.sliceFull; exact rfl; exact rfl; exact rfl; exact rfl; (first | exact rfl | exact (rfl : (0 : Int) = ((0 : Nat) : Int)) | exact (rfl : (1 : Int) = ((1 : Nat) : Int)) | exact (rfl : (2 : Int) = ((2 : Nat) : Int)) | exact (rfl : (3 : Int) = ((3 : Nat) : Int)) | assumption); (first | exact rfl | exact (rfl : (0 : Int) = ((0 : Nat) : Int)) | exact (rfl : (1 : Int) = ((1 : Nat) : Int)) | exact (rfl : (2 : Int) = ((2 : Nat) : Int)) | exact (rfl : (3 : Int) = ((3 : Nat) : Int)) | assumption); (first | omega | (simp only [List.length_map]; omega)))
    | (apply RunK.lenN; exact rfl; exact rfl)
    | (apply RunK.extract; exact rfl; exact rfl; exact rfl)
    | (apply RunK.max; exact rfl; exact rfl; exact rfl)
    | (apply RunK.min; exact rfl; exact rfl; exact rfl)
    | (apply RunK.build; exact rfl; (repeat (first | exact PartsOk.nil | (apply PartsOk.cons; exact rfl))); (repeat (first | exact fill_nil | (apply fill_cons; exact rfl; (first | exact Cells.agg _ | exact Cells.int _ _ | exact Cells.bool _ | exact Cells.one _ rfl); exact rfl; (repeat (first | exact Upd.nil _ | apply Upd.cons | apply Upd.skip))))))
    | (apply RunK.buildA; exact rfl; (repeat (first | exact PartsOk.nil | (apply PartsOk.cons; exact rfl))); (repeat (first | exact fill_nil | (apply fill_cons; exact rfl; (first | exact Cells.agg _ | exact Cells.int _ _ | exact Cells.bool _ | exact Cells.one _ rfl); exact rfl; (repeat (first | exact Upd.nil _ | apply Upd.cons | apply Upd.skip))))))
    | (apply RunK.rows; exact rfl; (repeat (first | exact PartsOk.nil | (apply PartsOk.cons; exact rfl))); (repeat (first | exact Rows.nil _ | (apply Rows.cons; (first | exact Cells.agg _ | exact Cells.int _ _ | exact Cells.bool _ | exact Cells.one _ rfl); exact rfl))); exact rfl; exact rfl)
    | (apply RunK.store; exact rfl; exact rfl; exact rfl; exact rfl; exact rfl; exact rfl; exact rfl; apply upd_eq; exact rfl; (first | exact Cells.agg _ | exact Cells.int _ _ | exact Cells.bool _ | exact Cells.one _ rfl); (repeat (first | exact Upd.nil _ | apply Upd.cons | apply Upd.skip)))
    | (apply RunK.storeF; exact rfl; exact rfl; exact rfl; exact rfl; (first | exact off0 _ _ | exact off1 _ _ _ | exact off2 _ _ _ _ | exact off3 _ _ _ _ _ | omega); (first | assumption | exact map_len (fun _ => rfl)); assumption; exact rfl; exact rfl; exact rfl; (first | exact Cells.agg _ | exact Cells.int _ _ | exact Cells.bool _ | exact Cells.one _ rfl); (repeat (first | exact Upd.nil _ | apply Upd.cons | apply Upd.skip)))
    | (apply RunK.skip; exact rfl; exact rfl)
    | (apply RunK.skipN; exact rfl; exact rfl)
    | (apply RunK.guard; exact rfl; exact rfl; exact rfl; all_goals (intro hg; (first | exact absurd hg (by decide) | skip); (first | (with_reducible replace hg := not_t hg) | (with_reducible replace hg := not_f hg) | skip); (first | (with_reducible replace hg := dec_t hg) | (with_reducible replace hg := dec_f hg) | skip); (first | (with_reducible exact absurd rfl hg) | skip); (repeat rw [List.length_map] at hg); try (exfalso; omega)))
    | (apply Wt.cond; exact rfl; all_goals (intro hg; (first | exact absurd hg (by decide) | skip); (first | (with_reducible replace hg := not_t hg) | (with_reducible replace hg := not_f hg) | skip); (first | (with_reducible replace hg := dec_t hg) | (with_reducible replace hg := dec_f hg) | skip); (first | (with_reducible exact absurd rfl hg) | skip); (repeat rw [List.length_map] at hg); try (exfalso; omega))))
        rintro _ _ ⟨es4, cl4, hS4, rfl, rfl⟩ _
        have t2 := t2 es4 cl4 hS4
        repeat' (first
    | (refine AnyA.fin (by decide +kernel) (hN _ ?_)) | (refine Wt.regionP (i := 16) 6 1 hm2 (by decide +kernel) rfl rfl rfl (by kernel_rfl) rfl (fun K hK hN => ?_)) | (refine AnyA.go [6] hK (wf_of (by kernel_rfl)) (by decide +kernel) rfl ?_) | (refine AllJ.cons ?_ ?_) | exact AllJ.nil | (refine ⟨_, rfl, rfl, ?_⟩) | (apply RunK.callS; exact rfl; exact rfl; exact hnx; (repeat (first | exact ArgsLe.nil | refine ArgsLe.cons ?_ ?_ | exact ArgLe.v _ | exact ArgLe.sl _ _ _ _ | exact ArgLe.nil _ | exact ArgLe.nil' | (apply ArgLe.bsl; exact rfl; (first | exact rfl | (rw [List.length_map]; done) | (simp only [List.length_map]; done) | (simp; done) | (simp; omega)); (first | assumption | exact map_len (fun _ => rfl))))); exact rfl) | (apply RunK.actF [2000013] 900010 t2; (case hw => exact rfl); (case he => first | exact fun _ => rfl | exact (fun h => nomatch h)); (case hx => exact rfl); (case ha => (repeat (first | exact ArgsLe.nil | refine ArgsLe.cons ?_ ?_ | exact ArgLe.v _ | exact ArgLe.sl _ _ _ _ | exact ArgLe.nil _ | exact ArgLe.nil' | (apply ArgLe.bsl; exact rfl; (first | exact rfl | (rw [List.length_map]; done) | (simp only [List.length_map]; done) | (simp; done) | (simp; omega)); (first | assumption | exact map_len (fun _ => rfl)))))); (case hf => exact .kept 2000012 rfl rfl (.kept 2000013 rfl rfl .nil)); (case hap => (repeat' (first | exact trivial | first | exact not_one a3.symm | exact not_one a4.symm | exact not_one hne2 | exact not_one d2.symm | exact not_one d4.symm | refine And.intro ?_ ?_))))
    | refine Wt.seq ?_
    | (apply Wt.regionK; exact rfl)
    | (apply Wt.regionD; kernel_rfl; kernel_rfl; exact rfl; exact rfl)
    | refine Wt.ret ?_
    | refine Wt.block ?_
    | refine Wt.scope ?_
    | refine Wt.skip ?_
    | refine Wt.label ?_
    | refine Wt.exit ?_
    | refine RunK.nil ?_
    | (apply RunK.moveV; exact rfl; exact rfl)
    | (apply RunK.index; exact rfl; exact rfl; exact rfl; (first | exact rfl | exact (rfl : (0 : Int) = ((0 : Nat) : Int)) | exact (rfl : (1 : Int) = ((1 : Nat) : Int)) | exact (rfl : (2 : Int) = ((2 : Nat) : Int)) | exact (rfl : (3 : Int) = ((3 : Nat) : Int)) | assumption); (first | omega | exact lt_of_get ‹_› | (rw [List.length_map]; omega) | (simp; omega)))
    | (apply RunK.indexB; exact rfl; exact rfl; exact rfl; (first | exact rfl | exact (rfl : (0 : Int) = ((0 : Nat) : Int)) | exact (rfl : (1 : Int) = ((1 : Nat) : Int)) | exact (rfl : (2 : Int) = ((2 : Nat) : Int)) | exact (rfl : (3 : Int) = ((3 : Nat) : Int)) | assumption); exact rfl)
    | (apply RunK.indexA; exact rfl; exact rfl; exact rfl; (first | exact rfl | exact (rfl : (0 : Int) = ((0 : Nat) : Int)) | exact (rfl : (1 : Int) = ((1 : Nat) : Int)) | exact (rfl : (2 : Int) = ((2 : Nat) : Int)) | exact (rfl : (3 : Int) = ((3 : Nat) : Int)) | assumption); exact rfl)
    | (apply RunK.load1; exact rfl; exact rfl; exact rfl; exact rfl)
    | (apply RunK.loadE1; exact rfl; exact rfl; assumption; exact rfl)
    | (apply RunK.field; exact rfl; exact rfl)
    | (apply RunK.fieldE; exact rfl; exact rfl)
    | (apply RunK.assignV; exact rfl; exact rfl)
    | (apply RunK.box; exact rfl; exact rfl; apply Cells.eq; (first | exact Cells.agg _ | exact Cells.int _ _ | exact Cells.bool _ | exact Cells.one _ rfl); exact rfl)
    | (apply RunK.alloc; exact rfl; apply Cells.eq; (first | exact Cells.agg _ | exact Cells.int _ _ | exact Cells.bool _ | exact Cells.one _ rfl); exact rfl)
    | (apply RunK.moveS; exact rfl; exact rfl)
    | (apply RunK.moveN; exact rfl; exact rfl)
    | (apply RunK.moveT; exact rfl; exact rfl)
    | (apply RunK.moveB; exact rfl; exact rfl)
    | (apply RunK.moveBs; exact rfl; exact rfl)
    | (apply RunK.assignBs; exact rfl; exact rfl)
    | (apply RunK.indexS; exact rfl; exact rfl; exact rfl; (first | exact rfl | exact (rfl : (0 : Int) = ((0 : Nat) : Int)) | exact (rfl : (1 : Int) = ((1 : Nat) : Int)) | exact (rfl : (2 : Int) = ((2 : Nat) : Int)) | exact (rfl : (3 : Int) = ((3 : Nat) : Int)) | assumption); (first | omega | exact lt_of_get ‹_› | (rw [List.length_map]; omega) | (simp; omega)))
    | (apply RunK.lenS; exact rfl; exact rfl)
    | (apply RunK.assignS; exact rfl; exact rfl)
    | (apply RunK.assignN; exact rfl; exact rfl)
    | (apply RunK.loadR; exact rfl; exact rfl; exact rfl; exact rfl; (apply cut_eq; repeat (first | exact Cut.nil _ | apply Cut.cons | apply Cut.skip)))
    | (apply RunK.loadER; exact rfl; exact rfl; assumption; exact rfl; (apply cut_eq; repeat (first | exact Cut.nil _ | apply Cut.cons | apply Cut.skip)))
    | (apply RunK.moveC; exact rfl; exact rfl; exact rfl)
    | (apply RunK.assignC; exact rfl; exact rfl; exact rfl)
    | (apply RunK.makeFunc; exact rfl; (repeat (first | exact CapsOk.nil | (apply CapsOk.cons; exact rfl))))
    | (apply RunK.loadF1; exact rfl; exact rfl; exact rfl; (first | exact off0 _ _ | exact off1 _ _ _ | exact off2 _ _ _ _ | exact off3 _ _ _ _ _ | omega); (first | assumption | exact map_len (fun _ => rfl)); assumption; exact rfl)
    | (apply RunK.loadFR; exact rfl; exact rfl; exact rfl; (first | exact off0 _ _ | exact off1 _ _ _ | exact off2 _ _ _ _ | exact off3 _ _ _ _ _ | omega); (first | assumption | exact map_len (fun _ => rfl)); assumption; exact rfl; (apply cut_eq; repeat (first | exact Cut.nil _ | apply Cut.cons | apply Cut.skip)))
    | (apply RunK.pickT; exact rfl; exact rfl; exact rfl)
    | (apply RunK.pickF; exact rfl; exact rfl; exact rfl)
    | (apply RunK.pick; exact rfl; exact rfl; exact rfl; exact rfl)
    | (apply RunK.geq; exact rfl; exact rfl; exact rfl)
    | (apply RunK.leq; exact rfl; exact rfl; exact rfl)
    | (apply RunK.lss; exact rfl; exact rfl; exact rfl)
    | (apply RunK.gtr; exact rfl; exact rfl; exact rfl)
    | (apply RunK.eql; exact rfl; exact rfl; exact rfl)
    | (apply RunK.neq; exact rfl; exact rfl; exact rfl)
    | (apply RunK.add; exact rfl; exact rfl; exact rfl; (first | omega | (simp only [List.length_map]; omega)))
    | (apply RunK.sub; exact rfl; exact rfl; exact rfl; (first | omega | (simp only [List.length_map]; omega)))
    | (apply RunK.not; exact rfl; exact rfl)
    | (apply RunK.len; exact rfl; exact rfl)
    | (apply RunK.sliceFrom; exact rfl; exact rfl; exact rfl; (first | exact rfl | exact (rfl : (0 : Int) = ((0 : Nat) : Int)) | exact (rfl : (1 : Int) = ((1 : Nat) : Int)) | exact (rfl : (2 : Int) = ((2 : Nat) : Int)) | exact (rfl : (3 : Int) = ((3 : Nat) : Int)) | assumption); (first | omega | (simp only [List.length_map]; omega)))
    | (apply RunK.sliceTo; exact rfl; exact rfl; exact rfl; (first | exact rfl | exact (rfl : (0 : Int) = ((0 : Nat) : Int)) | exact (rfl : (1 : Int) = ((1 : Nat) : Int)) | exact (rfl : (2 : Int) = ((2 : Nat) : Int)) | exact (rfl : (3 : Int) = ((3 : Nat) : Int)) | assumption); (first | omega | (simp only [List.length_map]; omega)))
    | (apply RunK.sliceFull; exact rfl; exact rfl; exact rfl; exact rfl; (first | exact rfl | exact (rfl : (0 : Int) = ((0 : Nat) : Int)) | exact (rfl : (1 : Int) = ((1 : Nat) : Int)) | exact (rfl : (2 : Int) = ((2 : Nat) : Int)) | exact (rfl : (3 : Int) = ((3 : Nat) : Int)) | assumption); (first | exact rfl | exact (rfl : (0 : Int) = ((0 : Nat) : Int)) | exact (rfl : (1 : Int) = ((1 : Nat) : Int)) | exact (rfl : (2 : Int) = ((2 : Nat) : Int)) | exact (rfl : (3 : Int) = ((3 : Nat) : Int)) | assumption); (first | omega | (simp only [List.length_map]; omega)))
    | (apply RunK.lenN; exact rfl; exact rfl)
    | (apply RunK.extract; exact rfl; exact rfl; exact rfl)
    | (apply RunK.max; exact rfl; exact rfl; exact rfl)
    | (apply RunK.min; exact rfl; exact rfl; exact rfl)
    | (apply RunK.build; exact rfl; (repeat (first | exact PartsOk.nil | (apply PartsOk.cons; exact rfl))); (repeat (first | exact fill_nil | (apply fill_cons; exact rfl; (first | exact Cells.agg _ | exact Cells.int _ _ | exact Cells.bool _ | exact Cells.one _ rfl); exact rfl; (repeat (first | exact Upd.nil _ | apply Upd.cons | apply Upd.skip))))))
    | (apply RunK.buildA; exact rfl; (repeat (first | exact PartsOk.nil | (apply PartsOk.cons; exact rfl))); (repeat (first | exact fill_nil | (apply fill_cons; exact rfl; (first | exact Cells.agg _ | exact Cells.int _ _ | exact Cells.bool _ | exact Cells.one _ rfl); exact rfl; (repeat (first | exact Upd.nil _ | apply Upd.cons | apply Upd.skip))))))
    | (apply RunK.rows; exact rfl; (repeat (first | exact PartsOk.nil | (apply PartsOk.cons; exact rfl))); (repeat (first | exact Rows.nil _ | (apply Rows.cons; (first | exact Cells.agg _ | exact Cells.int _ _ | exact Cells.bool _ | exact Cells.one _ rfl); exact rfl))); exact rfl; exact rfl)
    | (apply RunK.store; exact rfl; exact rfl; exact rfl; exact rfl; exact rfl; exact rfl; exact rfl; apply upd_eq; exact rfl; (first | exact Cells.agg _ | exact Cells.int _ _ | exact Cells.bool _ | exact Cells.one _ rfl); (repeat (first | exact Upd.nil _ | apply Upd.cons | apply Upd.skip)))
    | (apply RunK.storeF; exact rfl; exact rfl; exact rfl; exact rfl; (first | exact off0 _ _ | exact off1 _ _ _ | exact off2 _ _ _ _ | exact off3 _ _ _ _ _ | omega); (first | assumption | exact map_len (fun _ => rfl)); assumption; exact rfl; exact rfl; exact rfl; (first | exact Cells.agg _ | exact Cells.int _ _ | exact Cells.bool _ | exact Cells.one _ rfl); (repeat (first | exact Upd.nil _ | apply Upd.cons | apply Upd.skip)))
    | (apply RunK.skip; exact rfl; exact rfl)
    | (apply RunK.skipN; exact rfl; exact rfl)
    | (apply RunK.guard; exact rfl; exact rfl; exact rfl; all_goals (intro hg; (first | exact absurd hg (by decide) | skip); (first | (with_reducible replace hg := not_t hg) | (with_reducible replace hg := not_f hg) | skip); (first | (with_reducible replace hg := dec_t hg) | (with_reducible replace hg := dec_f hg) | skip); (first | (with_reducible exact absurd rfl hg) | skip); (repeat rw [List.length_map] at hg); try (exfalso; omega)))
    | (apply Wt.cond; exact rfl; all_goals (intro hg; (first | exact absurd hg (by decide) | skip); (first | (with_reducible replace hg := not_t hg) | (with_reducible replace hg := not_f hg) | skip); (first | (with_reducible replace hg := dec_t hg) | (with_reducible replace hg := dec_f hg) | skip); (first | (with_reducible exact absurd rfl hg) | skip); (repeat rw [List.length_map] at hg); try (exfalso; omega))))
        rintro _ _ ⟨es5, cl5, hS5, rfl, rfl⟩ _
        rw [M12] at hS5
        clear M12 s1 s2 t1 t2 hS2 hS4
        have hq3 := fun pb4 b4 es6 cl6 h => shEqual pb4 b4 pb b es6 es3 cl6 cl3 (setP (setP M x) y) (setP (setP M x) y) h hS3
        rw [decide_eq_true rfl] at hq3
        have q4 := shEqual pb b pb2 b2 es3 es5 cl3 cl5 _ _ hS3 hS5
        rw [decide_eq_true rfl] at q4
        have q5 := shEqual pb3 b3 pb b es1 es3 cl1 cl3 _ _ hS1 hS3
        rw [hsame] at q5
        have hnew := shNew (setP (setP M x) y) (by omega)
        have hnew0 : newE [] (setP (setP M x) y) = 0 := newE_nums hnums1 (hS3.srt.imp fun {a b} hab e => by rw [e] at hab; exact less_irr _ hab) (fun _ h => absurd h List.not_mem_nil)
        have hself := putAll_self hS3.srt hS3.nb
        have hcs := shCells pb b es3 cl3 _ hS3 (by omega)
        clear hsame
        generalize setP (setP M x) y = M1 at *
        repeat' (first
    | (refine AnyA.fin (by decide +kernel) (hN _ ?_)) | (apply RunK.actR _ hcs (fun _ _ h => h.1); (case hn => exact rfl); (case hw => exact rfl); (case he => exact rfl); (case hx => exact rfl); (case ha => (repeat (first | exact ArgsLe.nil | refine ArgsLe.cons ?_ ?_ | exact ArgLe.v _ | exact ArgLe.sl _ _ _ _ | exact ArgLe.nil _ | exact ArgLe.nil' | (apply ArgLe.bsl; exact rfl; (first | exact rfl | (rw [List.length_map]; done) | (simp only [List.length_map]; done) | (simp; done) | (simp; omega)); (first | assumption | exact map_len (fun _ => rfl)))))); (case hf => exact .kept 2000010 rfl rfl (.kept 2000011 rfl rfl .nil))) | (apply RunK.actF [2000016, 2000017] 900011 hnew; (case hw => exact rfl); (case he => first | exact fun _ => rfl | exact (fun h => nomatch h)); (case hx => exact rfl); (case ha => (repeat (first | exact ArgsLe.nil | refine ArgsLe.cons ?_ ?_ | exact ArgLe.v _ | exact ArgLe.sl _ _ _ _ | exact ArgLe.nil _ | exact ArgLe.nil' | (apply ArgLe.bsl; exact rfl; (first | exact rfl | (rw [List.length_map]; done) | (simp only [List.length_map]; done) | (simp; done) | (simp; omega)); (first | assumption | exact map_len (fun _ => rfl)))))); (case hf => exact .nil); (case hap => exact ApartE.nil _))
    | refine Wt.seq ?_
    | (apply Wt.regionK; exact rfl)
    | (apply Wt.regionD; kernel_rfl; kernel_rfl; exact rfl; exact rfl)
    | refine Wt.ret ?_
    | refine Wt.block ?_
    | refine Wt.scope ?_
    | refine Wt.skip ?_
    | refine Wt.label ?_
    | refine Wt.exit ?_
    | refine RunK.nil ?_
    | (apply RunK.moveV; exact rfl; exact rfl)
    | (apply RunK.index; exact rfl; exact rfl; exact rfl; (first | exact rfl | exact (rfl : (0 : Int) = ((0 : Nat) : Int)) | exact (rfl : (1 : Int) = ((1 : Nat) : Int)) | exact (rfl : (2 : Int) = ((2 : Nat) : Int)) | exact (rfl : (3 : Int) = ((3 : Nat) : Int)) | assumption); (first | omega | exact lt_of_get ‹_› | (rw [List.length_map]; omega) | (simp; omega)))
    | (apply RunK.indexB; exact rfl; exact rfl; exact rfl; (first | exact rfl | exact (rfl : (0 : Int) = ((0 : Nat) : Int)) | exact (rfl : (1 : Int) = ((1 : Nat) : Int)) | exact (rfl : (2 : Int) = ((2 : Nat) : Int)) | exact (rfl : (3 : Int) = ((3 : Nat) : Int)) | assumption); exact rfl)
    | (apply RunK.indexA; exact rfl; exact rfl; exact rfl; (first | exact rfl | exact (rfl : (0 : Int) = ((0 : Nat) : Int)) | exact (rfl : (1 : Int) = ((1 : Nat) : Int)) | exact (rfl : (2 : Int) = ((2 : Nat) : Int)) | exact (rfl : (3 : Int) = ((3 : Nat) : Int)) | assumption); exact rfl)
    | (apply RunK.load1; exact rfl; exact rfl; exact rfl; exact rfl)
    | (apply RunK.loadE1; exact rfl; exact rfl; assumption; exact rfl)
    | (apply RunK.field; exact rfl; exact rfl)
    | (apply RunK.fieldE; exact rfl; exact rfl)
    | (apply RunK.assignV; exact rfl; exact rfl)
    | (apply RunK.box; exact rfl; exact rfl; apply Cells.eq; (first | exact Cells.agg _ | exact Cells.int _ _ | exact Cells.bool _ | exact Cells.one _ rfl); exact rfl)
    | (apply RunK.alloc; exact rfl; apply Cells.eq; (first | exact Cells.agg _ | exact Cells.int _ _ | exact Cells.bool _ | exact Cells.one _ rfl); exact rfl)
    | (apply RunK.moveS; exact rfl; exact rfl)
    | (apply RunK.moveN; exact rfl; exact rfl)
    | (apply RunK.moveT; exact rfl; exact rfl)
    | (apply RunK.moveB; exact rfl; exact rfl)
    | (apply RunK.moveBs; exact rfl; exact rfl)
    | (apply RunK.assignBs; exact rfl; exact rfl)
    | (apply RunK.indexS; exact rfl; exact rfl; exact rfl; (first | exact rfl | exact (rfl : (0 : Int) = ((0 : Nat) : Int)) | exact (rfl : (1 : Int) = ((1 : Nat) : Int)) | exact (rfl : (2 : Int) = ((2 : Nat) : Int)) | exact (rfl : (3 : Int) = ((3 : Nat) : Int)) | assumption); (first | omega | exact lt_of_get ‹_› | (rw [List.length_map]; omega) | (simp; omega)))
    | (apply RunK.lenS; exact rfl; exact rfl)
    | (apply RunK.assignS; exact rfl; exact rfl)
    | (apply RunK.assignN; exact rfl; exact rfl)
    | (apply RunK.loadR; exact rfl; exact rfl; exact rfl; exact rfl; (apply cut_eq; repeat (first | exact Cut.nil _ | apply Cut.cons | apply Cut.skip)))
    | (apply RunK.loadER; exact rfl; exact rfl; assumption; exact rfl; (apply cut_eq; repeat (first | exact Cut.nil _ | apply Cut.cons | apply Cut.skip)))
    | (apply RunK.moveC; exact rfl; exact rfl; exact rfl)
    | (apply RunK.assignC; exact rfl; exact rfl; exact rfl)
    | (apply RunK.makeFunc; exact rfl; (repeat (first | exact CapsOk.nil | (apply CapsOk.cons; exact rfl))))
    | (apply RunK.loadF1; exact rfl; exact rfl; exact rfl; (first | exact off0 _ _ | exact off1 _ _ _ | exact off2 _ _ _ _ | exact off3 _ _ _ _ _ | omega); (first | assumption | exact map_len (fun _ => rfl)); assumption; exact rfl)
    | (apply RunK.loadFR; exact rfl; exact rfl; exact rfl; (first | exact off0 _ _ | exact off1 _ _ _ | exact off2 _ _ _ _ | exact off3 _ _ _ _ _ | omega); (first | assumption | exact map_len (fun _ => rfl)); assumption; exact rfl; (apply cut_eq; repeat (first | exact Cut.nil _ | apply Cut.cons | apply Cut.skip)))
    | (apply RunK.pickT; exact rfl; exact rfl; exact rfl)
    | (apply RunK.pickF; exact rfl; exact rfl; exact rfl)
    | (apply RunK.pick; exact rfl; exact rfl; exact rfl; exact rfl)
    | (apply RunK.geq; exact rfl; exact rfl; exact rfl)
    | (apply RunK.leq; exact rfl; exact rfl; exact rfl)
    | (apply RunK.lss; exact rfl; exact rfl; exact rfl)
    | (apply RunK.gtr; exact rfl; exact rfl; exact rfl)
    | (apply RunK.eql; exact rfl; exact rfl; exact rfl)
    | (apply RunK.neq; exact rfl; exact rfl; exact rfl)
    | (apply RunK.add; exact rfl; exact rfl; exact rfl; (first | omega | (simp only [List.length_map]; omega)))
    | (apply RunK.sub; exact rfl; exact rfl; exact rfl; (first | omega | (simp only [List.length_map]; omega)))
    | (apply RunK.not; exact rfl; exact rfl)
    | (apply RunK.len; exact rfl; exact rfl)
    | (apply RunK.sliceFrom; exact rfl; exact rfl; exact rfl; (first | exact rfl | exact (rfl : (0 : Int) = ((0 : Nat) : Int)) | exact (rfl : (1 : Int) = ((1 : Nat) : Int)) | exact (rfl : (2 : Int) = ((2 : Nat) : Int)) | exact (rfl : (3 : Int) = ((3 : Nat) : Int)) | assumption); (first | omega | (simp only [List.length_map]; omega)))
    | (apply RunK.sliceTo; exact rfl; exact rfl; exact rfl; (first | exact rfl | exact (rfl : (0 : Int) = ((0 : Nat) : Int)) | exact (rfl : (1 : Int) = ((1 : Nat) : Int)) | exact (rfl : (2 : Int) = ((2 : Nat) : Int)) | exact (rfl : (3 : Int) = ((3 : Nat) : Int)) | assumption); (first | omega | (simp only [List.length_map]; omega)))
    | (apply RunK.sliceFull; exact rfl; exact rfl; exact rfl; exact rfl; (first | exact rfl | exact (rfl : (0 : Int) = ((0 : Nat) : Int)) | exact (rfl : (1 : Int) = ((1 : Nat) : Int)) | exact (rfl : (2 : Int) = ((2 : Nat) : Int)) | exact (rfl : (3 : Int) = ((3 : Nat) : Int)) | assumption); (first | exact rfl | exact (rfl : (0 : Int) = ((0 : Nat) : Int)) | exact (rfl : (1 : Int) = ((1 : Nat) : Int)) | exact (rfl : (2 : Int) = ((2 : Nat) : Int)) | exact (rfl : (3 : Int) = ((3 : Nat) : Int)) | assumption); (first | omega | (simp only [List.length_map]; omega)))
    | (apply RunK.lenN; exact rfl; exact rfl)
    | (apply RunK.extract; exact rfl; exact rfl; exact rfl)
    | (apply RunK.max; exact rfl; exact rfl; exact rfl)
    | (apply RunK.min; exact rfl; exact rfl; exact rfl)
    | (apply RunK.build; exact rfl; (repeat (first | exact PartsOk.nil | (apply PartsOk.cons; exact rfl))); (repeat (first | exact fill_nil | (apply fill_cons; exact rfl; (first | exact Cells.agg _ | exact Cells.int _ _ | exact Cells.bool _ | exact Cells.one _ rfl); exact rfl; (repeat (first | exact Upd.nil _ | apply Upd.cons | apply Upd.skip))))))
    | (apply RunK.buildA; exact rfl; (repeat (first | exact PartsOk.nil | (apply PartsOk.cons; exact rfl))); (repeat (first | exact fill_nil | (apply fill_cons; exact rfl; (first | exact Cells.agg _ | exact Cells.int _ _ | exact Cells.bool _ | exact Cells.one _ rfl); exact rfl; (repeat (first | exact Upd.nil _ | apply Upd.cons | apply Upd.skip))))))
    | (apply RunK.rows; exact rfl; (repeat (first | exact PartsOk.nil | (apply PartsOk.cons; exact rfl))); (repeat (first | exact Rows.nil _ | (apply Rows.cons; (first | exact Cells.agg _ | exact Cells.int _ _ | exact Cells.bool _ | exact Cells.one _ rfl); exact rfl))); exact rfl; exact rfl)
    | (apply RunK.store; exact rfl; exact rfl; exact rfl; exact rfl; exact rfl; exact rfl; exact rfl; apply upd_eq; exact rfl; (first | exact Cells.agg _ | exact Cells.int _ _ | exact Cells.bool _ | exact Cells.one _ rfl); (repeat (first | exact Upd.nil _ | apply Upd.cons | apply Upd.skip)))
    | (apply RunK.storeF; exact rfl; exact rfl; exact rfl; exact rfl; (first | exact off0 _ _ | exact off1 _ _ _ | exact off2 _ _ _ _ | exact off3 _ _ _ _ _ | omega); (first | assumption | exact map_len (fun _ => rfl)); assumption; exact rfl; exact rfl; exact rfl; (first | exact Cells.agg _ | exact Cells.int _ _ | exact Cells.bool _ | exact Cells.one _ rfl); (repeat (first | exact Upd.nil _ | apply Upd.cons | apply Upd.skip)))
    | (apply RunK.skip; exact rfl; exact rfl)
    | (apply RunK.skipN; exact rfl; exact rfl)
    | (apply RunK.guard; exact rfl; exact rfl; exact rfl; all_goals (intro hg; (first | exact absurd hg (by decide) | skip); (first | (with_reducible replace hg := not_t hg) | (with_reducible replace hg := not_f hg) | skip); (first | (with_reducible replace hg := dec_t hg) | (with_reducible replace hg := dec_f hg) | skip); (first | (with_reducible exact absurd rfl hg) | skip); (repeat rw [List.length_map] at hg); try (exfalso; omega)))
    | (apply Wt.cond; exact rfl; all_goals (intro hg; (first | exact absurd hg (by decide) | skip); (first | (with_reducible replace hg := not_t hg) | (with_reducible replace hg := not_f hg) | skip); (first | (with_reducible replace hg := dec_t hg) | (with_reducible replace hg := dec_f hg) | skip); (first | (with_reducible exact absurd rfl hg) | skip); (repeat rw [List.length_map] at hg); try (exfalso; omega))))
        intro r1 f1 hK1 _
        unfold NewK at hK1
        rw [if_pos hnew0] at hK1
        obtain ⟨pb4, b4, es6, cl6, hS6, hne6, rfl, rfl⟩ := hK1
        rw [hself] at hS6
        have q3 := hq3 pb4 b4 es6 cl6 hS6
        rcases D1 with _ | _ <;> rcases D2 with _ | _
        all_goals repeat' (first
    | (apply RunK.bin; exact rfl; exact rfl; exact rfl; first | exact BinRun.eqlP0 ⟨_, Try.underlying24⟩ | exact BinRun.eqlP0 ⟨_, Try.underlying28⟩ | exact BinRun.eqlP1 ⟨_, Try.underlying24⟩ | exact BinRun.eqlP1 ⟨_, Try.underlying28⟩) | (apply RunK.actR _ q4 (fun _ _ h => h.1); (case hn => exact rfl); (case hw => exact rfl); (case he => exact rfl); (case hx => exact rfl); (case ha => (repeat (first | exact ArgsLe.nil | refine ArgsLe.cons ?_ ?_ | exact ArgLe.v _ | exact ArgLe.sl _ _ _ _ | exact ArgLe.nil _ | exact ArgLe.nil' | (apply ArgLe.bsl; exact rfl; (first | exact rfl | (rw [List.length_map]; done) | (simp only [List.length_map]; done) | (simp; done) | (simp; omega)); (first | assumption | exact map_len (fun _ => rfl)))))); (case hf => exact .kept 2000010 rfl rfl (.kept 2000011 rfl rfl (.kept 2000012 rfl rfl (.kept 2000013 rfl rfl .nil))))) | (apply RunK.actR _ q3 (fun _ _ h => h.1); (case hn => exact rfl); (case hw => exact rfl); (case he => exact rfl); (case hx => exact rfl); (case ha => (repeat (first | exact ArgsLe.nil | refine ArgsLe.cons ?_ ?_ | exact ArgLe.v _ | exact ArgLe.sl _ _ _ _ | exact ArgLe.nil _ | exact ArgLe.nil' | (apply ArgLe.bsl; exact rfl; (first | exact rfl | (rw [List.length_map]; done) | (simp only [List.length_map]; done) | (simp; done) | (simp; omega)); (first | assumption | exact map_len (fun _ => rfl)))))); (case hf => exact .kept 2000016 rfl rfl (.kept 2000017 rfl rfl (.kept 2000010 rfl rfl (.kept 2000011 rfl rfl .nil))))) | (apply RunK.actR _ q5 (fun _ _ h => h.1); (case hn => exact rfl); (case hw => exact rfl); (case he => exact rfl); (case hx => exact rfl); (case ha => (repeat (first | exact ArgsLe.nil | refine ArgsLe.cons ?_ ?_ | exact ArgLe.v _ | exact ArgLe.sl _ _ _ _ | exact ArgLe.nil _ | exact ArgLe.nil' | (apply ArgLe.bsl; exact rfl; (first | exact rfl | (rw [List.length_map]; done) | (simp only [List.length_map]; done) | (simp; done) | (simp; omega)); (first | assumption | exact map_len (fun _ => rfl)))))); (case hf => exact .kept 2000014 rfl rfl (.kept 2000015 rfl rfl (.kept 2000010 rfl rfl (.kept 2000011 rfl rfl .nil))))) | (apply RunK.callS; exact rfl; exact rfl; exact hnx; (repeat (first | exact ArgsLe.nil | refine ArgsLe.cons ?_ ?_ | exact ArgLe.v _ | exact ArgLe.sl _ _ _ _ | exact ArgLe.nil _ | exact ArgLe.nil' | (apply ArgLe.bsl; exact rfl; (first | exact rfl | (rw [List.length_map]; done) | (simp only [List.length_map]; done) | (simp; done) | (simp; omega)); (first | assumption | exact map_len (fun _ => rfl))))); exact rfl) | (apply RunK.callS; exact rfl; exact rfl; exact hny; (repeat (first | exact ArgsLe.nil | refine ArgsLe.cons ?_ ?_ | exact ArgLe.v _ | exact ArgLe.sl _ _ _ _ | exact ArgLe.nil _ | exact ArgLe.nil' | (apply ArgLe.bsl; exact rfl; (first | exact rfl | (rw [List.length_map]; done) | (simp only [List.length_map]; done) | (simp; done) | (simp; omega)); (first | assumption | exact map_len (fun _ => rfl))))); exact rfl) | (apply RunK.callS; exact rfl; exact rfl; exact lawKnown; (repeat (first | exact ArgsLe.nil | refine ArgsLe.cons ?_ ?_ | exact ArgLe.v _ | exact ArgLe.sl _ _ _ _ | exact ArgLe.nil _ | exact ArgLe.nil' | (apply ArgLe.bsl; exact rfl; (first | exact rfl | (rw [List.length_map]; done) | (simp only [List.length_map]; done) | (simp; done) | (simp; omega)); (first | assumption | exact map_len (fun _ => rfl))))); exact rfl) | (apply RunK.actR _ g1 (fun _ _ h => h.1); (case hn => exact rfl); (case hw => exact rfl); (case he => exact rfl); (case hx => exact rfl); (case ha => (repeat (first | exact ArgsLe.nil | refine ArgsLe.cons ?_ ?_ | exact ArgLe.v _ | exact ArgLe.sl _ _ _ _ | exact ArgLe.nil _ | exact ArgLe.nil' | (apply ArgLe.bsl; exact rfl; (first | exact rfl | (rw [List.length_map]; done) | (simp only [List.length_map]; done) | (simp; done) | (simp; omega)); (first | assumption | exact map_len (fun _ => rfl)))))); (case hf => exact .kept 2000014 rfl rfl (.kept 2000015 rfl rfl .nil))) | (apply RunK.actR _ g2 (fun _ _ h => h.1); (case hn => exact rfl); (case hw => exact rfl); (case he => exact rfl); (case hx => exact rfl); (case ha => (repeat (first | exact ArgsLe.nil | refine ArgsLe.cons ?_ ?_ | exact ArgLe.v _ | exact ArgLe.sl _ _ _ _ | exact ArgLe.nil _ | exact ArgLe.nil' | (apply ArgLe.bsl; exact rfl; (first | exact rfl | (rw [List.length_map]; done) | (simp only [List.length_map]; done) | (simp; done) | (simp; omega)); (first | assumption | exact map_len (fun _ => rfl)))))); (case hf => exact .kept 2000014 rfl rfl (.kept 2000015 rfl rfl .nil))) | (apply RunK.bin; exact rfl; exact rfl; exact rfl; first | exact n1 _ _ | exact n2 _ _ | exact eqlBoolH _ _)
    | refine Wt.seq ?_
    | (apply Wt.regionK; exact rfl)
    | (apply Wt.regionD; kernel_rfl; kernel_rfl; exact rfl; exact rfl)
    | refine Wt.ret ?_
    | refine Wt.block ?_
    | refine Wt.scope ?_
    | refine Wt.skip ?_
    | refine Wt.label ?_
    | refine Wt.exit ?_
    | refine RunK.nil ?_
    | (apply RunK.moveV; exact rfl; exact rfl)
    | (apply RunK.index; exact rfl; exact rfl; exact rfl; (first | exact rfl | exact (rfl : (0 : Int) = ((0 : Nat) : Int)) | exact (rfl : (1 : Int) = ((1 : Nat) : Int)) | exact (rfl : (2 : Int) = ((2 : Nat) : Int)) | exact (rfl : (3 : Int) = ((3 : Nat) : Int)) | assumption); (first | omega | exact lt_of_get ‹_› | (rw [List.length_map]; omega) | (simp; omega)))
    | (apply RunK.indexB; exact rfl; exact rfl; exact rfl; (first | exact rfl | exact (rfl : (0 : Int) = ((0 : Nat) : Int)) | exact (rfl : (1 : Int) = ((1 : Nat) : Int)) | exact (rfl : (2 : Int) = ((2 : Nat) : Int)) | exact (rfl : (3 : Int) = ((3 : Nat) : Int)) | assumption); exact rfl)
    | (apply RunK.indexA; exact rfl; exact rfl; exact rfl; (first | exact rfl | exact (rfl : (0 : Int) = ((0 : Nat) : Int)) | exact (rfl : (1 : Int) = ((1 : Nat) : Int)) | exact (rfl : (2 : Int) = ((2 : Nat) : Int)) | exact (rfl : (3 : Int) = ((3 : Nat) : Int)) | assumption); exact rfl)
    | (apply RunK.load1; exact rfl; exact rfl; exact rfl; exact rfl)
    | (apply RunK.loadE1; exact rfl; exact rfl; assumption; exact rfl)
    | (apply RunK.field; exact rfl; exact rfl)
    | (apply RunK.fieldE; exact rfl; exact rfl)
    | (apply RunK.assignV; exact rfl; exact rfl)
    | (apply RunK.box; exact rfl; exact rfl; apply Cells.eq; (first | exact Cells.agg _ | exact Cells.int _ _ | exact Cells.bool _ | exact Cells.one _ rfl); exact rfl)
    | (apply RunK.alloc; exact rfl; apply Cells.eq; (first | exact Cells.agg _ | exact Cells.int _ _ | exact Cells.bool _ | exact Cells.one _ rfl); exact rfl)
    | (apply RunK.moveS; exact rfl; exact rfl)
    | (apply RunK.moveN; exact rfl; exact rfl)
    | (apply RunK.moveT; exact rfl; exact rfl)
    | (apply RunK.moveB; exact rfl; exact rfl)
    | (apply RunK.moveBs; exact rfl; exact rfl)
    | (apply RunK.assignBs; exact rfl; exact rfl)
    | (apply RunK.indexS; exact rfl; exact rfl; exact rfl; (first | exact rfl | exact (rfl : (0 : Int) = ((0 : Nat) : Int)) | exact (rfl : (1 : Int) = ((1 : Nat) : Int)) | exact (rfl : (2 : Int) = ((2 : Nat) : Int)) | exact (rfl : (3 : Int) = ((3 : Nat) : Int)) | assumption); (first | omega | exact lt_of_get ‹_› | (rw [List.length_map]; omega) | (simp; omega)))
    | (apply RunK.lenS; exact rfl; exact rfl)
    | (apply RunK.assignS; exact rfl; exact rfl)
    | (apply RunK.assignN; exact rfl; exact rfl)
    | (apply RunK.loadR; exact rfl; exact rfl; exact rfl; exact rfl; (apply cut_eq; repeat (first | exact Cut.nil _ | apply Cut.cons | apply Cut.skip)))
    | (apply RunK.loadER; exact rfl; exact rfl; assumption; exact rfl; (apply cut_eq; repeat (first | exact Cut.nil _ | apply Cut.cons | apply Cut.skip)))
    | (apply RunK.moveC; exact rfl; exact rfl; exact rfl)
    | (apply RunK.assignC; exact rfl; exact rfl; exact rfl)
    | (apply RunK.makeFunc; exact rfl; (repeat (first | exact CapsOk.nil | (apply CapsOk.cons; exact rfl))))
    | (apply RunK.loadF1; exact rfl; exact rfl; exact rfl; (first | exact off0 _ _ | exact off1 _ _ _ | exact off2 _ _ _ _ | exact off3 _ _ _ _ _ | omega); (first | assumption | exact map_len (fun _ => rfl)); assumption; exact rfl)
    | (apply RunK.loadFR; exact rfl; exact rfl; exact rfl; (first | exact off0 _ _ | exact off1 _ _ _ | exact off2 _ _ _ _ | exact off3 _ _ _ _ _ | omega); (first | assumption | exact map_len (fun _ => rfl)); assumption; exact rfl; (apply cut_eq; repeat (first | exact Cut.nil _ | apply Cut.cons | apply Cut.skip)))
    | (apply RunK.pickT; exact rfl; exact rfl; exact rfl)
    | (apply RunK.pickF; exact rfl; exact rfl; exact rfl)
    | (apply RunK.pick; exact rfl; exact rfl; exact rfl; exact rfl)
    | (apply RunK.geq; exact rfl; exact rfl; exact rfl)
    | (apply RunK.leq; exact rfl; exact rfl; exact rfl)
    | (apply RunK.lss; exact rfl; exact rfl; exact rfl)
    | (apply RunK.gtr; exact rfl; exact rfl; exact rfl)
    | (apply RunK.eql; exact rfl; exact rfl; exact rfl)
    | (apply RunK.neq; exact rfl; exact rfl; exact rfl)
    | (apply RunK.add; exact rfl; exact rfl; exact rfl; (first | omega | (simp only [List.length_map]; omega)))
    | (apply RunK.sub; exact rfl; exact rfl; exact rfl; (first | omega | (simp only [List.length_map]; omega)))
    | (apply RunK.not; exact rfl; exact rfl)
    | (apply RunK.len; exact rfl; exact rfl)
    | (apply RunK.sliceFrom; exact rfl; exact rfl; exact rfl; (first | exact rfl | exact (rfl : (0 : Int) = ((0 : Nat) : Int)) | exact (rfl : (1 : Int) = ((1 : Nat) : Int)) | exact (rfl : (2 : Int) = ((2 : Nat) : Int)) | exact (rfl : (3 : Int) = ((3 : Nat) : Int)) | assumption); (first | omega | (simp only [List.length_map]; omega)))
    | (apply RunK.sliceTo; exact rfl; exact rfl; exact rfl; (first | exact rfl | exact (rfl : (0 : Int) = ((0 : Nat) : Int)) | exact (rfl : (1 : Int) = ((1 : Nat) : Int)) | exact (rfl : (2 : Int) = ((2 : Nat) : Int)) | exact (rfl : (3 : Int) = ((3 : Nat) : Int)) | assumption); (first | omega | (simp only [List.length_map]; omega)))
    | (apply RunK.sliceFull; exact rfl; exact rfl; exact rfl; exact rfl; (first | exact rfl | exact (rfl : (0 : Int) = ((0 : Nat) : Int)) | exact (rfl : (1 : Int) = ((1 : Nat) : Int)) | exact (rfl : (2 : Int) = ((2 : Nat) : Int)) | exact (rfl : (3 : Int) = ((3 : Nat) : Int)) | assumption); (first | exact rfl | exact (rfl : (0 : Int) = ((0 : Nat) : Int)) | exact (rfl : (1 : Int) = ((1 : Nat) : Int)) | exact (rfl : (2 : Int) = ((2 : Nat) : Int)) | exact (rfl : (3 : Int) = ((3 : Nat) : Int)) | assumption); (first | omega | (simp only [List.length_map]; omega)))
    | (apply RunK.lenN; exact rfl; exact rfl)
    | (apply RunK.extract; exact rfl; exact rfl; exact rfl)
    | (apply RunK.max; exact rfl; exact rfl; exact rfl)
    | (apply RunK.min; exact rfl; exact rfl; exact rfl)
    | (apply RunK.build; exact rfl; (repeat (first | exact PartsOk.nil | (apply PartsOk.cons; exact rfl))); (repeat (first | exact fill_nil | (apply fill_cons; exact rfl; (first | exact Cells.agg _ | exact Cells.int _ _ | exact Cells.bool _ | exact Cells.one _ rfl); exact rfl; (repeat (first | exact Upd.nil _ | apply Upd.cons | apply Upd.skip))))))
    | (apply RunK.buildA; exact rfl; (repeat (first | exact PartsOk.nil | (apply PartsOk.cons; exact rfl))); (repeat (first | exact fill_nil | (apply fill_cons; exact rfl; (first | exact Cells.agg _ | exact Cells.int _ _ | exact Cells.bool _ | exact Cells.one _ rfl); exact rfl; (repeat (first | exact Upd.nil _ | apply Upd.cons | apply Upd.skip))))))
    | (apply RunK.rows; exact rfl; (repeat (first | exact PartsOk.nil | (apply PartsOk.cons; exact rfl))); (repeat (first | exact Rows.nil _ | (apply Rows.cons; (first | exact Cells.agg _ | exact Cells.int _ _ | exact Cells.bool _ | exact Cells.one _ rfl); exact rfl))); exact rfl; exact rfl)
    | (apply RunK.store; exact rfl; exact rfl; exact rfl; exact rfl; exact rfl; exact rfl; exact rfl; apply upd_eq; exact rfl; (first | exact Cells.agg _ | exact Cells.int _ _ | exact Cells.bool _ | exact Cells.one _ rfl); (repeat (first | exact Upd.nil _ | apply Upd.cons | apply Upd.skip)))
    | (apply RunK.storeF; exact rfl; exact rfl; exact rfl; exact rfl; (first | exact off0 _ _ | exact off1 _ _ _ | exact off2 _ _ _ _ | exact off3 _ _ _ _ _ | omega); (first | assumption | exact map_len (fun _ => rfl)); assumption; exact rfl; exact rfl; exact rfl; (first | exact Cells.agg _ | exact Cells.int _ _ | exact Cells.bool _ | exact Cells.one _ rfl); (repeat (first | exact Upd.nil _ | apply Upd.cons | apply Upd.skip)))
    | (apply RunK.skip; exact rfl; exact rfl)
    | (apply RunK.skipN; exact rfl; exact rfl)
    | (apply RunK.guard; exact rfl; exact rfl; exact rfl; all_goals (intro hg; (first | exact absurd hg (by decide) | skip); (first | (with_reducible replace hg := not_t hg) | (with_reducible replace hg := not_f hg) | skip); (first | (with_reducible replace hg := dec_t hg) | (with_reducible replace hg := dec_f hg) | skip); (first | (with_reducible exact absurd rfl hg) | skip); (repeat rw [List.length_map] at hg); try (exfalso; omega)))
    | (apply Wt.cond; exact rfl; all_goals (intro hg; (first | exact absurd hg (by decide) | skip); (first | (with_reducible replace hg := not_t hg) | (with_reducible replace hg := not_f hg) | skip); (first | (with_reducible replace hg := dec_t hg) | (with_reducible replace hg := dec_f hg) | skip); (first | (with_reducible exact absurd rfl hg) | skip); (repeat rw [List.length_map] at hg); try (exfalso; omega))))
        all_goals (apply ResOk.v1; exact rfl; exact rfl)
  · generalize hb1 : refOk x.at_ = B1 at *
    generalize hb2 : refOk y.at_ = B2 at *
    generalize hb3 : decide (x.at_ = y.at_) = B3 at *
    refine pure_of_wt Try.func7 rfl (by decide) _ Try.ntmps7 rfl Try.results7 fun w0 => ?_
    repeat' (first
    | (apply RunK.callS; exact rfl; exact rfl; exact hf1; (repeat (first | exact ArgsLe.nil | refine ArgsLe.cons ?_ ?_ | exact ArgLe.v _ | exact ArgLe.sl _ _ _ _ | exact ArgLe.nil _ | exact ArgLe.nil' | (apply ArgLe.bsl; exact rfl; (first | exact rfl | (rw [List.length_map]; done) | (simp only [List.length_map]; done) | (simp; done) | (simp; omega)); (first | assumption | exact map_len (fun _ => rfl))))); exact rfl) | (apply RunK.callS; exact rfl; exact rfl; exact hf2; (repeat (first | exact ArgsLe.nil | refine ArgsLe.cons ?_ ?_ | exact ArgLe.v _ | exact ArgLe.sl _ _ _ _ | exact ArgLe.nil _ | exact ArgLe.nil' | (apply ArgLe.bsl; exact rfl; (first | exact rfl | (rw [List.length_map]; done) | (simp only [List.length_map]; done) | (simp; done) | (simp; omega)); (first | assumption | exact map_len (fun _ => rfl))))); exact rfl) | (apply RunK.bin; exact rfl; exact rfl; exact rfl; exact hxy _ _) | (apply RunK.callS; exact rfl; exact rfl; exact lawKnown; (repeat (first | exact ArgsLe.nil | refine ArgsLe.cons ?_ ?_ | exact ArgLe.v _ | exact ArgLe.sl _ _ _ _ | exact ArgLe.nil _ | exact ArgLe.nil' | (apply ArgLe.bsl; exact rfl; (first | exact rfl | (rw [List.length_map]; done) | (simp only [List.length_map]; done) | (simp; done) | (simp; omega)); (first | assumption | exact map_len (fun _ => rfl))))); exact rfl)
    | refine Wt.seq ?_
    | (apply Wt.regionK; exact rfl)
    | (apply Wt.regionD; kernel_rfl; kernel_rfl; exact rfl; exact rfl)
    | refine Wt.ret ?_
    | refine Wt.block ?_
    | refine Wt.scope ?_
    | refine Wt.skip ?_
    | refine Wt.label ?_
    | refine Wt.exit ?_
    | refine RunK.nil ?_
    | (apply RunK.moveV; exact rfl; exact rfl)
    | (apply RunK.index; exact rfl; exact rfl; exact rfl; (first | exact rfl | exact (rfl : (0 : Int) = ((0 : Nat) : Int)) | exact (rfl : (1 : Int) = ((1 : Nat) : Int)) | exact (rfl : (2 : Int) = ((2 : Nat) : Int)) | exact (rfl : (3 : Int) = ((3 : Nat) : Int)) | assumption); (first | omega | exact lt_of_get ‹_› | (rw [List.length_map]; omega) | (simp; omega)))
    | (apply RunK.indexB; exact rfl; exact rfl; exact rfl; (first | exact rfl | exact (rfl : (0 : Int) = ((0 : Nat) : Int)) | exact (rfl : (1 : Int) = ((1 : Nat) : Int)) | exact (rfl : (2 : Int) = ((2 : Nat) : Int)) | exact (rfl : (3 : Int) = ((3 : Nat) : Int)) | assumption); exact rfl)
    | (apply RunK.indexA; exact rfl; exact rfl; exact rfl; (first | exact rfl | exact (rfl : (0 : Int) = ((0 : Nat) : Int)) | exact (rfl : (1 : Int) = ((1 : Nat) : Int)) | exact (rfl : (2 : Int) = ((2 : Nat) : Int)) | exact (rfl : (3 : Int) = ((3 : Nat) : Int)) | assumption); exact rfl)
    | (apply RunK.load1; exact rfl; exact rfl; exact rfl; exact rfl)
    | (apply RunK.loadE1; exact rfl; exact rfl; assumption; exact rfl)
    | (apply RunK.field; exact rfl; exact rfl)
    | (apply RunK.fieldE; exact rfl; exact rfl)
    | (apply RunK.assignV; exact rfl; exact rfl)
    | (apply RunK.box; exact rfl; exact rfl; apply Cells.eq; (first | exact Cells.agg _ | exact Cells.int _ _ | exact Cells.bool _ | exact Cells.one _ rfl); exact rfl)
    | (apply RunK.alloc; exact rfl; apply Cells.eq; (first | exact Cells.agg _ | exact Cells.int _ _ | exact Cells.bool _ | exact Cells.one _ rfl); exact rfl)
    | (apply RunK.moveS; exact rfl; exact rfl)
    | (apply RunK.moveN; exact rfl; exact rfl)
    | (apply RunK.moveT; exact rfl; exact rfl)
    | (apply RunK.moveB; exact rfl; exact rfl)
    | (apply RunK.moveBs; exact rfl; exact rfl)
    | (apply RunK.assignBs; exact rfl; exact rfl)
    | (apply RunK.indexS; exact rfl; exact rfl; exact rfl; (first | exact rfl | exact (rfl : (0 : Int) = ((0 : Nat) : Int)) | exact (rfl : (1 : Int) = ((1 : Nat) : Int)) | exact (rfl : (2 : Int) = ((2 : Nat) : Int)) | exact (rfl : (3 : Int) = ((3 : Nat) : Int)) | assumption); (first | omega | exact lt_of_get ‹_› | (rw [List.length_map]; omega) | (simp; omega)))
    | (apply RunK.lenS; exact rfl; exact rfl)
    | (apply RunK.assignS; exact rfl; exact rfl)
    | (apply RunK.assignN; exact rfl; exact rfl)
    | (apply RunK.loadR; exact rfl; exact rfl; exact rfl; exact rfl; (apply cut_eq; repeat (first | exact Cut.nil _ | apply Cut.cons | apply Cut.skip)))
    | (apply RunK.loadER; exact rfl; exact rfl; assumption; exact rfl; (apply cut_eq; repeat (first | exact Cut.nil _ | apply Cut.cons | apply Cut.skip)))
    | (apply RunK.moveC; exact rfl; exact rfl; exact rfl)
    | (apply RunK.assignC; exact rfl; exact rfl; exact rfl)
    | (apply RunK.makeFunc; exact rfl; (repeat (first | exact CapsOk.nil | (apply CapsOk.cons; exact rfl))))
    | (apply RunK.loadF1; exact rfl; exact rfl; exact rfl; (first | exact off0 _ _ | exact off1 _ _ _ | exact off2 _ _ _ _ | exact off3 _ _ _ _ _ | omega); (first | assumption | exact map_len (fun _ => rfl)); assumption; exact rfl)
    | (apply RunK.loadFR; exact rfl; exact rfl; exact rfl; (first | exact off0 _ _ | exact off1 _ _ _ | exact off2 _ _ _ _ | exact off3 _ _ _ _ _ | omega); (first | assumption | exact map_len (fun _ => rfl)); assumption; exact rfl; (apply cut_eq; repeat (first | exact Cut.nil _ | apply Cut.cons | apply Cut.skip)))
    | (apply RunK.pickT; exact rfl; exact rfl; exact rfl)
    | (apply RunK.pickF; exact rfl; exact rfl; exact rfl)
    | (apply RunK.pick; exact rfl; exact rfl; exact rfl; exact rfl)
    | (apply RunK.geq; exact rfl; exact rfl; exact rfl)
    | (apply RunK.leq; exact rfl; exact rfl; exact rfl)
    | (apply RunK.lss; exact rfl; exact rfl; exact rfl)
    | (apply RunK.gtr; exact rfl; exact rfl; exact rfl)
    | (apply RunK.eql; exact rfl; exact rfl; exact rfl)
    | (apply RunK.neq; exact rfl; exact rfl; exact rfl)
    | (apply RunK.add; exact rfl; exact rfl; exact rfl; (first | omega | (simp only [List.length_map]; omega)))
    | (apply RunK.sub; exact rfl; exact rfl; exact rfl; (first | omega | (simp only [List.length_map]; omega)))
    | (apply RunK.not; exact rfl; exact rfl)
    | (apply RunK.len; exact rfl; exact rfl)
    | (apply RunK.sliceFrom; exact rfl; exact rfl; exact rfl; (first | exact rfl | exact (rfl : (0 : Int) = ((0 : Nat) : Int)) | exact (rfl : (1 : Int) = ((1 : Nat) : Int)) | exact (rfl : (2 : Int) = ((2 : Nat) : Int)) | exact (rfl : (3 : Int) = ((3 : Nat) : Int)) | assumption); (first | omega | (simp only [List.length_map]; omega)))
    | (apply RunK.sliceTo; exact rfl; exact rfl; exact rfl; (first | exact rfl | exact (rfl : (0 : Int) = ((0 : Nat) : Int)) | exact (rfl : (1 : Int) = ((1 : Nat) : Int)) | exact (rfl : (2 : Int) = ((2 : Nat) : Int)) | exact (rfl : (3 : Int) = ((3 : Nat) : Int)) | assumption); (first | omega | (simp only [List.length_map]; omega)))
    | (apply RunK.sliceFull; exact rfl; exact rfl; exact rfl; exact rfl; (first | exact rfl | exact (rfl : (0 : Int) = ((0 : Nat) : Int)) | exact (rfl : (1 : Int) = ((1 : Nat) : Int)) | exact (rfl : (2 : Int) = ((2 : Nat) : Int)) | exact (rfl : (3 : Int) = ((3 : Nat) : Int)) | assumption); (first | exact rfl | exact (rfl : (0 : Int) = ((0 : Nat) : Int)) | exact (rfl : (1 : Int) = ((1 : Nat) : Int)) | exact (rfl : (2 : Int) = ((2 : Nat) : Int)) | exact (rfl : (3 : Int) = ((3 : Nat) : Int)) | assumption); (first | omega | (simp only [List.length_map]; omega)))
    | (apply RunK.lenN; exact rfl; exact rfl)
    | (apply RunK.extract; exact rfl; exact rfl; exact rfl)
    | (apply RunK.max; exact rfl; exact rfl; exact rfl)
    | (apply RunK.min; exact rfl; exact rfl; exact rfl)
    | (apply RunK.build; exact rfl; (repeat (first | exact PartsOk.nil | (apply PartsOk.cons; exact rfl))); (repeat (first | exact fill_nil | (apply fill_cons; exact rfl; (first | exact Cells.agg _ | exact Cells.int _ _ | exact Cells.bool _ | exact Cells.one _ rfl); exact rfl; (repeat (first | exact Upd.nil _ | apply Upd.cons | apply Upd.skip))))))
    | (apply RunK.buildA; exact rfl; (repeat (first | exact PartsOk.nil | (apply PartsOk.cons; exact rfl))); (repeat (first | exact fill_nil | (apply fill_cons; exact rfl; (first | exact Cells.agg _ | exact Cells.int _ _ | exact Cells.bool _ | exact Cells.one _ rfl); exact rfl; (repeat (first | exact Upd.nil _ | apply Upd.cons | apply Upd.skip))))))
    | (apply RunK.rows; exact rfl; (repeat (first | exact PartsOk.nil | (apply PartsOk.cons; exact rfl))); (repeat (first | exact Rows.nil _ | (apply Rows.cons; (first | exact Cells.agg _ | exact Cells.int _ _ | exact Cells.bool _ | exact Cells.one _ rfl); exact rfl))); exact rfl; exact rfl)
    | (apply RunK.store; exact rfl; exact rfl; exact rfl; exact rfl; exact rfl; exact rfl; exact rfl; apply upd_eq; exact rfl; (first | exact Cells.agg _ | exact Cells.int _ _ | exact Cells.bool _ | exact Cells.one _ rfl); (repeat (first | exact Upd.nil _ | apply Upd.cons | apply Upd.skip)))
    | (apply RunK.storeF; exact rfl; exact rfl; exact rfl; exact rfl; (first | exact off0 _ _ | exact off1 _ _ _ | exact off2 _ _ _ _ | exact off3 _ _ _ _ _ | omega); (first | assumption | exact map_len (fun _ => rfl)); assumption; exact rfl; exact rfl; exact rfl; (first | exact Cells.agg _ | exact Cells.int _ _ | exact Cells.bool _ | exact Cells.one _ rfl); (repeat (first | exact Upd.nil _ | apply Upd.cons | apply Upd.skip)))
    | (apply RunK.skip; exact rfl; exact rfl)
    | (apply RunK.skipN; exact rfl; exact rfl)
    | (apply RunK.guard; exact rfl; exact rfl; exact rfl; all_goals (intro hg; (first | exact absurd hg (by decide) | skip); (first | (with_reducible replace hg := not_t hg) | (with_reducible replace hg := not_f hg) | skip); (first | (with_reducible replace hg := dec_t hg) | (with_reducible replace hg := dec_f hg) | skip); (first | (with_reducible exact absurd rfl hg) | skip); (repeat rw [List.length_map] at hg); try (exfalso; omega)))
    | (apply Wt.cond; exact rfl; all_goals (intro hg; (first | exact absurd hg (by decide) | skip); (first | (with_reducible replace hg := not_t hg) | (with_reducible replace hg := not_f hg) | skip); (first | (with_reducible replace hg := dec_t hg) | (with_reducible replace hg := dec_f hg) | skip); (first | (with_reducible exact absurd rfl hg) | skip); (repeat rw [List.length_map] at hg); try (exfalso; omega))))
    all_goals first | (apply ResOk.v1; exact rfl; exact rfl; done) | skip
    all_goals exact (hgood ⟨by omega, by assumption, by assumption, of_decide_eq_false (hb3.trans (by assumption))⟩).elim
end Go.Proofs.Ytnpbnlmhmjejhaa
