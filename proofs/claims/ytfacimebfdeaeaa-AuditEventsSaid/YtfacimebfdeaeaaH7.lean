/- The walk of the law AuditEvents. -/
import Derived.Test.YtfacimebfdeaeaaH6
namespace Go.Proofs.Ytfacimebfdeaeaa
open Pv Go.RowKit
set_option maxRecDepth 100000 in
theorem evBoth (step : Int) (x : Opn) (done : Bool) (a : List Rule) (l : List Grant) (hs : x.input.size < 1000000000000000) (L : goodL a l) : ∃ r E, Pure Try.prog 35 (evArgs step x done a l) (evR r E) ∧ Pure Try.prog 36 (evArgs step x done a l) (evR r E) := by
  by_cases G : goodX step x
  · by_cases h1 : chkE a = 0
    · by_cases h2 : chkG l = 0
      · by_cases h3 : x.kind = 9
        · by_cases h4 : 0 ≤ x.index ∧ x.index < l.length
          · obtain ⟨i, hi⟩ := Int.eq_ofNat_of_zero_le h4.1
            obtain ⟨g, hg⟩ := exists_at (l := l) (k := i) (by omega)
            cases h5 : rectOk g.rect with
            | false => exact ⟨_, _, ev_range9 step x done a l hs G L h1 h2 h3 i hi g hg h5, rev_range9 step x done a l hs G L h1 h2 h3 i hi g hg h5⟩
            | true => exact ⟨_, _, ev_ok9 step x done a l hs G L h1 h2 h3 i hi g hg h5, rev_ok9 step x done a l hs G L h1 h2 h3 i hi g hg h5⟩
          · exact ⟨_, _, ev_none step x done a l hs G L h1 h2 h3 h4, rev_none step x done a l hs G L h1 h2 h3 h4⟩
        · cases h5 : rectOk x.rect with
          | false => exact ⟨_, _, ev_range0 step x done a l hs G L h1 h2 h3 h5, rev_range0 step x done a l hs G L h1 h2 h3 h5⟩
          | true => exact ⟨_, _, ev_ok0 step x done a l hs G L h1 h2 h3 h5, rev_ok0 step x done a l hs G L h1 h2 h3 h5⟩
      · exact ⟨_, _, ev_grant step x done a l hs G L h1 h2, rev_grant step x done a l hs G L h1 h2⟩
    · exact ⟨_, _, ev_acl step x done a l hs G L h1, rev_acl step x done a l hs G L h1⟩
  · exact ⟨_, _, ev_arg step x done a l hs G, rev_arg step x done a l hs G⟩
set_option maxHeartbeats 4000000 in
set_option maxRecDepth 100000 in
theorem lawEvents (step : Int) (_hst : i64 step) (x : Opn) (_hx : x.ok) (done : Bool) (a : List Rule) (ha : a.length * 56 ≤ 140737488351232) (hoa : ∀ r ∈ a, r.ok) (l : List Grant) (hl : l.length * 64 ≤ 140737488351232) (hol : ∀ g ∈ l, g.ok) : Pure Try.prog 9 (evArgs step x done a l) (.s (.v (.bool true))) := by
  have hca := refCheck 64 a (by omega) hoa
  generalize (checkS 64 a).1 = q at *
  generalize (checkS 64 a).2 = E0 at *
  by_cases hs : x.input.size ≤ 1000
  · obtain ⟨r, E, h1, h2⟩ := evBoth step x done a l (by omega) ⟨by omega, by omega, hoa, hol⟩
    have hb : ∀ o o2, BinRun Try.prog .eql 68 o o2 r.v r.v (.bool true) := fun o o2 => by
      have := eqlEvent (x := o) (y := o2) r r
      rwa [decide_eq_true rfl] at this
    have hm2 : Try.prog.follows .mixedOrders = true := by kernel_rfl
    refine pure_of_wt Try.func9 rfl (by decide) _ Try.ntmps9 rfl Try.results9 fun w0 => ?_
    repeat' (first
    | (refine Wt.regionP (i := 4) 10 4 hm2 (by decide +kernel) rfl rfl rfl (by kernel_rfl) rfl (fun K hK hN => ?_)) | (refine AnyA.go [10, 11] hK (wf_of (by kernel_rfl)) (by decide +kernel) rfl ?_) | (refine AnyA.go [10, 12] hK (wf_of (by kernel_rfl)) (by decide +kernel) rfl ?_) | (refine AnyA.go [10] hK (wf_of (by kernel_rfl)) (by decide +kernel) rfl ?_) | (refine AnyA.go [11] hK (wf_of (by kernel_rfl)) (by decide +kernel) rfl ?_) | (refine AnyA.go [12] hK (wf_of (by kernel_rfl)) (by decide +kernel) rfl ?_) | (refine AnyA.go [13] hK (wf_of (by kernel_rfl)) (by decide +kernel) rfl ?_) | (refine AnyA.fin (by decide +kernel) (hN _ ?_)) | (refine AllJ.cons ?_ ?_) | exact AllJ.nil | (refine ⟨_, rfl, rfl, ?_⟩) | (apply RunK.callT; exact rfl; exact hca; (repeat (first | exact ArgsLe.nil | refine ArgsLe.cons ?_ ?_ | exact ArgLe.v _ | exact ArgLe.sl _ _ _ _ | exact ArgLe.nil _ | exact ArgLe.nil' | (apply ArgLe.bsl; exact rfl; (first | exact rfl | (rw [List.length_map]; done) | (simp only [List.length_map]; done) | (simp; done) | (simp; omega)); (first | assumption | exact map_len (fun _ => rfl))))); exact rfl) | (apply RunK.lenStr Try.underlying9; exact rfl; exact rfl) | (apply RunK.callS; exact rfl; exact (copyRules a ha); (repeat (first | exact ArgsLe.nil | refine ArgsLe.cons ?_ ?_ | exact ArgLe.v _ | exact ArgLe.sl _ _ _ _ | exact ArgLe.nil _ | exact ArgLe.nil' | (apply ArgLe.bsl; exact rfl; (first | exact rfl | (rw [List.length_map]; done) | (simp only [List.length_map]; done) | (simp; done) | (simp; omega)); (first | assumption | exact map_len (fun _ => rfl))))); exact rfl) | (apply RunK.callS; exact rfl; exact (copyGrants l hl); (repeat (first | exact ArgsLe.nil | refine ArgsLe.cons ?_ ?_ | exact ArgLe.v _ | exact ArgLe.sl _ _ _ _ | exact ArgLe.nil _ | exact ArgLe.nil' | (apply ArgLe.bsl; exact rfl; (first | exact rfl | (rw [List.length_map]; done) | (simp only [List.length_map]; done) | (simp; done) | (simp; omega)); (first | assumption | exact map_len (fun _ => rfl))))); exact rfl) | (apply RunK.callT; exact rfl; exact h1; (repeat (first | exact ArgsLe.nil | refine ArgsLe.cons ?_ ?_ | exact ArgLe.v _ | exact ArgLe.sl _ _ _ _ | exact ArgLe.nil _ | exact ArgLe.nil' | (apply ArgLe.bsl; exact rfl; (first | exact rfl | (rw [List.length_map]; done) | (simp only [List.length_map]; done) | (simp; done) | (simp; omega)); (first | assumption | exact map_len (fun _ => rfl))))); exact rfl) | (apply RunK.callT; exact rfl; exact h2; (repeat (first | exact ArgsLe.nil | refine ArgsLe.cons ?_ ?_ | exact ArgLe.v _ | exact ArgLe.sl _ _ _ _ | exact ArgLe.nil _ | exact ArgLe.nil' | (apply ArgLe.bsl; exact rfl; (first | exact rfl | (rw [List.length_map]; done) | (simp only [List.length_map]; done) | (simp; done) | (simp; omega)); (first | assumption | exact map_len (fun _ => rfl))))); exact rfl) | (apply RunK.callS; exact rfl; exact awake30; (repeat (first | exact ArgsLe.nil | refine ArgsLe.cons ?_ ?_ | exact ArgLe.v _ | exact ArgLe.sl _ _ _ _ | exact ArgLe.nil _ | exact ArgLe.nil' | (apply ArgLe.bsl; exact rfl; (first | exact rfl | (rw [List.length_map]; done) | (simp only [List.length_map]; done) | (simp; done) | (simp; omega)); (first | assumption | exact map_len (fun _ => rfl))))); exact rfl) | (apply RunK.bin; exact rfl; exact rfl; exact rfl; exact hb _ _)
    | refine Wt.seq ?_
    | (apply Wt.regionK; exact rfl)
    | refine Wt.ret ?_
    | refine Wt.skip ?_
    | refine RunK.nil ?_
    | (apply RunK.moveV; exact rfl; exact rfl)
    | (apply RunK.load1; exact rfl; exact rfl; exact rfl; exact rfl)
    | (apply RunK.field; exact rfl; exact rfl)
    | (apply RunK.assignV; exact rfl; exact rfl)
    | (apply RunK.box; exact rfl; exact rfl; apply Cells.eq; (first | exact Cells.agg _ | exact Cells.int _ _ | exact Cells.bool _ | exact Cells.one _ rfl); exact rfl)
    | (apply RunK.alloc; exact rfl; apply Cells.eq; (first | exact Cells.agg _ | exact Cells.int _ _ | exact Cells.bool _ | exact Cells.one _ rfl); exact rfl)
    | (apply RunK.moveS; exact rfl; exact rfl)
    | (apply RunK.moveT; exact rfl; exact rfl)
    | (apply RunK.loadR; exact rfl; exact rfl; exact rfl; exact rfl; (apply cut_eq; repeat (first | exact Cut.nil _ | apply Cut.cons | apply Cut.skip)))
    | (apply RunK.pickT; exact rfl; exact rfl; exact rfl)
    | (apply RunK.pickF; exact rfl; exact rfl; exact rfl)
    | (apply RunK.gtr; exact rfl; exact rfl; exact rfl)
    | (apply RunK.eql; exact rfl; exact rfl; exact rfl)
    | (apply RunK.len; exact rfl; exact rfl)
    | (apply RunK.extract; exact rfl; exact rfl; exact rfl)
    | (apply RunK.store; exact rfl; exact rfl; exact rfl; exact rfl; exact rfl; exact rfl; exact rfl; apply upd_eq; exact rfl; (first | exact Cells.agg _ | exact Cells.int _ _ | exact Cells.bool _ | exact Cells.one _ rfl); (repeat (first | exact Upd.nil _ | apply Upd.cons | apply Upd.skip)))
    | (apply RunK.skip; exact rfl; exact rfl)
    | (apply RunK.guard; exact rfl; exact rfl; exact rfl; all_goals (intro hg; (first | exact absurd hg (by decide) | skip); (first | (with_reducible replace hg := not_t hg) | (with_reducible replace hg := not_f hg) | skip); (first | (with_reducible replace hg := dec_t hg) | (with_reducible replace hg := dec_f hg) | skip); (first | (with_reducible exact absurd rfl hg) | skip); (repeat rw [List.length_map] at hg); try (exfalso; omega)))
    | (apply Wt.cond; exact rfl; all_goals (intro hg; (first | exact absurd hg (by decide) | skip); (first | (with_reducible replace hg := not_t hg) | (with_reducible replace hg := not_f hg) | skip); (first | (with_reducible replace hg := dec_t hg) | (with_reducible replace hg := dec_f hg) | skip); (first | (with_reducible exact absurd rfl hg) | skip); (repeat rw [List.length_map] at hg); try (exfalso; omega))))
    all_goals (apply ResOk.v1; exact rfl; exact rfl)
  · refine pure_of_wt Try.func9 rfl (by decide) _ Try.ntmps9 rfl Try.results9 fun w0 => ?_
    repeat' (first
    | (apply RunK.callT; exact rfl; exact hca; (repeat (first | exact ArgsLe.nil | refine ArgsLe.cons ?_ ?_ | exact ArgLe.v _ | exact ArgLe.sl _ _ _ _ | exact ArgLe.nil _ | exact ArgLe.nil' | (apply ArgLe.bsl; exact rfl; (first | exact rfl | (rw [List.length_map]; done) | (simp only [List.length_map]; done) | (simp; done) | (simp; omega)); (first | assumption | exact map_len (fun _ => rfl))))); exact rfl) | (apply RunK.lenStr Try.underlying9; exact rfl; exact rfl)
    | refine Wt.seq ?_
    | (apply Wt.regionK; exact rfl)
    | refine Wt.ret ?_
    | refine RunK.nil ?_
    | (apply RunK.moveV; exact rfl; exact rfl)
    | (apply RunK.load1; exact rfl; exact rfl; exact rfl; exact rfl)
    | (apply RunK.field; exact rfl; exact rfl)
    | (apply RunK.assignV; exact rfl; exact rfl)
    | (apply RunK.box; exact rfl; exact rfl; apply Cells.eq; (first | exact Cells.agg _ | exact Cells.int _ _ | exact Cells.bool _ | exact Cells.one _ rfl); exact rfl)
    | (apply RunK.moveS; exact rfl; exact rfl)
    | (apply RunK.moveT; exact rfl; exact rfl)
    | (apply RunK.pickT; exact rfl; exact rfl; exact rfl)
    | (apply RunK.pickF; exact rfl; exact rfl; exact rfl)
    | (apply RunK.gtr; exact rfl; exact rfl; exact rfl)
    | (apply RunK.eql; exact rfl; exact rfl; exact rfl)
    | (apply RunK.len; exact rfl; exact rfl)
    | (apply RunK.extract; exact rfl; exact rfl; exact rfl)
    | (apply RunK.skip; exact rfl; exact rfl)
    | (apply RunK.guard; exact rfl; exact rfl; exact rfl; all_goals (intro hg; (first | exact absurd hg (by decide) | skip); (first | (with_reducible replace hg := not_t hg) | (with_reducible replace hg := not_f hg) | skip); (first | (with_reducible replace hg := dec_t hg) | (with_reducible replace hg := dec_f hg) | skip); (first | (with_reducible exact absurd rfl hg) | skip); (repeat rw [List.length_map] at hg); try (exfalso; omega)))
    | (apply Wt.cond; exact rfl; all_goals (intro hg; (first | exact absurd hg (by decide) | skip); (first | (with_reducible replace hg := not_t hg) | (with_reducible replace hg := not_f hg) | skip); (first | (with_reducible replace hg := dec_t hg) | (with_reducible replace hg := dec_f hg) | skip); (first | (with_reducible exact absurd rfl hg) | skip); (repeat rw [List.length_map] at hg); try (exfalso; omega))))
    all_goals (apply ResOk.v1; exact rfl; exact rfl)
end Go.Proofs.Ytfacimebfdeaeaa
