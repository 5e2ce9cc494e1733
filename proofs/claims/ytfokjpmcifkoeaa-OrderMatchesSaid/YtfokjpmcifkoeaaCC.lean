/- The walks of Cut and Fit. No condition. -/
import Derived.Test.YtfokjpmcifkoeaaCB
namespace Go.Proofs.Ytfokjpmcifkoeaa
open Pv Go.RowKit
set_option maxRecDepth 100000 in
theorem cutG_at {g : List (List Int)} {n : Nat} {r : List Int} (hn : n < 24) (h : g[n]? = some r) : cutG (g.take (n + 1)) = cutG (g.take n) ++ [r.take 30] := by
  unfold cutG
  rw [List.take_take, List.take_take, Nat.min_eq_right (by omega), Nat.min_eq_right (by omega), List.take_add_one, h]; simp
set_option maxRecDepth 100000 in
theorem take_min (r : List Int) (n : Nat) : (r.map ival).take (min r.length n) = (r.take n).map ival := by
  rw [← List.map_take]
  rcases Nat.le_total r.length n with h | h
  · rw [Nat.min_eq_left h, List.take_of_length_le (Nat.le_refl _), List.take_of_length_le h]
  · rw [Nat.min_eq_right h]
set_option maxRecDepth 100000 in
theorem cut (g : List (List Int)) : Pure Try.prog 24 [graph g] (.s (graphR (cutG g))) := by
  have hm2 : Try.prog.follows .mixedOrders = true := by kernel_rfl
  refine pure_of_wt Try.func24 rfl (by decide) _ Try.ntmps24 rfl Try.results24 fun w0 => ?_
  repeat' (first
    | (apply RunK.indexN; exact rfl; exact rfl; exact rfl; (first | exact rfl | exact (rfl : (0 : Int) = ((0 : Nat) : Int)) | exact (rfl : (1 : Int) = ((1 : Nat) : Int)) | exact (rfl : (2 : Int) = ((2 : Nat) : Int)) | exact (rfl : (3 : Int) = ((3 : Nat) : Int)) | assumption); (first | omega | exact lt_of_get ‹_› | (rw [List.length_map]; omega) | (simp; omega))) | (apply RunK.loadNS; exact rfl; exact rfl; assumption; exact rfl) | (apply RunK.lenNs; exact rfl; exact rfl) | (apply RunK.moveNs; exact rfl; exact rfl) | (apply RunK.assignNs; exact rfl; exact rfl)
    | refine Wt.seq ?_
    | (apply Wt.regionK; exact rfl)
    | refine Wt.block ?_
    | refine RunK.nil ?_
    | (apply RunK.assignV; exact rfl; exact rfl)
    | (apply RunK.assignN; exact rfl; exact rfl))
  refine Wt.weak (Turns.nestNils 2000000 1 1 0) ?_
  refine Wt.weak (Turns.nestNils 2000001 2 1 1) ?_
  refine Wt.loop (fun i : List NRow × NRow => ⟨[(0, .s (graph g)), (3, .s (.v i.2.hdr)), (4, .s (.v (.int .i64 i.1.length))), (2000000, .nest 1 1 i.1), (2000001, .nest 2 1 [i.2])], []⟩) (fun i => i.1.length ≤ g.length ∧ i.1.length ≤ 24 ∧ i.2.els = hds i.1 ∧ i.1.map (·.els) = (cutG (g.take i.1.length)).map (·.map ival)) (fun i => g.length - i.1.length) ([], NRow.nl) ⟨Nat.zero_le _, Nat.zero_le _, rfl, rfl⟩ ?_ ?_
  · (refine Le.mk ?_ ?_; (repeat' (first | exact LeEnv.done | refine LeEnv.cons ?_ ?_ | exact PVLe.refl _ | exact PVLe.s (SVLe.nil _ _ _) | exact PVLe.s (SVLe.no _ _ _ _) | (refine PVLe.int ?_; first | rfl | omega | (simp; done) | (simp; omega)) | (refine PVLe.els ?_; first | rfl | assumption | (simp; done)) | (refine PVLe.bool ?_; first | rfl | assumption) | (refine PVLe.bsl ?_; first | rfl | assumption | (simp; done))));  (repeat' (first | exact LeBox.done | refine LeBox.cons ?_ ?_ | exact rfl)))
    exact PVLe.s .von
  · rintro ⟨rows, sp⟩ ⟨hk, h24, hS, hG⟩
    dsimp only at hk h24 hS hG ⊢
    by_cases hlt : rows.length < g.length ∧ rows.length < 24
    · obtain ⟨hlt, hlt2⟩ := hlt
      obtain ⟨r, hr⟩ := exists_at hlt
      have hx := gE_at hr
      have e1 : min ((r.map ival).length : Int) 30 = ((min r.length 30 : Nat) : Int) := by rw [List.length_map]; omega
      repeat' (first
    | (apply RunK.indexN; exact rfl; exact rfl; exact rfl; (first | exact rfl | exact (rfl : (0 : Int) = ((0 : Nat) : Int)) | exact (rfl : (1 : Int) = ((1 : Nat) : Int)) | exact (rfl : (2 : Int) = ((2 : Nat) : Int)) | exact (rfl : (3 : Int) = ((3 : Nat) : Int)) | assumption); (first | omega | exact lt_of_get ‹_› | (rw [List.length_map]; omega) | (simp; omega))) | (apply RunK.loadNS; exact rfl; exact rfl; assumption; exact rfl) | (apply RunK.lenNs; exact rfl; exact rfl) | (apply RunK.moveNs; exact rfl; exact rfl) | (apply RunK.assignNs; exact rfl; exact rfl) | (refine Wt.regionS (i := 5) ⟨[(3, .s (.v sp.hdr))], []⟩ [0] [1, 2, 3, 4, 5, 6, 7, 8, 9, 10, 11, 12, 13, 14, 15, 16] hm2 rfl (by decide +kernel) (by kernel_rfl) (CalmLe.of rfl fun p hp => (by simp only [List.mem_cons, List.not_mem_nil, or_false] at hp; rcases hp with rfl <;> exact ⟨by dsimp only; omega, rfl, rfl⟩)) fun K hK hN => ?_)
    | refine Wt.seq ?_
    | (apply Wt.regionK; exact rfl)
    | refine Wt.block ?_
    | refine Wt.skip ?_
    | refine RunK.nil ?_
    | (apply RunK.moveV; exact rfl; exact rfl)
    | (apply RunK.pickT; exact rfl; exact rfl; exact rfl)
    | (apply RunK.lss; exact rfl; exact rfl; exact rfl)
    | (apply RunK.guard; exact rfl; exact rfl; exact rfl; all_goals (intro hg; (first | exact absurd hg (by decide) | skip); (first | (with_reducible replace hg := not_t hg) | (with_reducible replace hg := not_f hg) | skip); (first | (with_reducible replace hg := dec_t hg) | (with_reducible replace hg := dec_f hg) | skip); (first | (with_reducible exact absurd rfl hg) | skip); (repeat rw [List.length_map] at hg); try (exfalso; omega)))
    | (apply Wt.cond; exact rfl; all_goals (intro hg; (first | exact absurd hg (by decide) | skip); (first | (with_reducible replace hg := not_t hg) | (with_reducible replace hg := not_f hg) | skip); (first | (with_reducible replace hg := dec_t hg) | (with_reducible replace hg := dec_f hg) | skip); (first | (with_reducible exact absurd rfl hg) | skip); (repeat rw [List.length_map] at hg); try (exfalso; omega))))
      (apply CalmRun.cons; (case hi => exact rfl); (case hp => (apply PStep.of_run; exact rfl; exact rfl; exact rfl; exact rfl; exact rfl; (first | (apply RunK.moveV; exact rfl; exact rfl)); (refine RunK.nil ?_); exact rfl)); (case hb => kernel_rfl))
      dsimp only [St.put]
      refine CalmRun.rest [1, 2, 3, 4, 5, 6, 7, 8, 9, 10, 11, 12, 13, 14, 15, 16] (by decide +kernel) hK rfl rfl (by kernel_rfl) (by kernel_rfl) ?_
      repeat' (first
    | (apply RunK.indexN; exact rfl; exact rfl; exact rfl; (first | exact rfl | exact (rfl : (0 : Int) = ((0 : Nat) : Int)) | exact (rfl : (1 : Int) = ((1 : Nat) : Int)) | exact (rfl : (2 : Int) = ((2 : Nat) : Int)) | exact (rfl : (3 : Int) = ((3 : Nat) : Int)) | assumption); (first | omega | exact lt_of_get ‹_› | (rw [List.length_map]; omega) | (simp; omega))) | (apply RunK.loadNS; exact rfl; exact rfl; assumption; exact rfl) | (apply RunK.lenNs; exact rfl; exact rfl) | (apply RunK.moveNs; exact rfl; exact rfl) | (apply RunK.assignNs; exact rfl; exact rfl) | (refine hN _ ?_) | (apply RunK.sliceTo (l := min r.length 30); exact rfl; exact rfl; exact rfl; exact e1; (simp; omega)) | (apply RunK.append; exact rfl; exact rfl; exact rfl; (first | exact ReadLe.sl _ _ _ _ | exact ReadLe.nil _); exact rfl; exact one_take _ (one_map (fun _ => rfl) _); (simp; omega)) | (apply RunK.buildN 2000000; exact rfl; (first | exact (fun _ => rfl) | exact (fun h => nomatch h)); (repeat (first | exact PartsC.nil | (apply PartsC.row; exact rfl; exact rfl) | (apply PartsC.nl; exact rfl) | (apply PartsC.v; exact rfl))); exact rfl; exact rfl; exact rfl; exact rfl; exact rfl; exact rfl; exact rfl; intro new hnew hcap; obtain ⟨r1, rfl, hr1⟩ := map_one hnew) | (apply RunK.appendRN 2000001 900001 (i := 0); (case hw => exact rfl); (case he => (first | exact (fun _ => rfl) | exact (fun h => nomatch h))); (case hx => exact rfl); (case htx => exact rfl); (case hk => exact rfl); (case hi => exact rfl); (case hh => exact rfl); (case hn => exact rfl); (case hnt => exact rfl); (case hd0 => exact rfl); (case hdx => exact rfl); (case hy => (first | exact ReadLe.sl _ _ _ _ | exact ReadLe.nil _)); (case hone => exact one_hdr _ _ _ _); (case hb => (simp [hdrsOf, *]; omega)); intro sp1 hsp1 hspc)
    | (apply Wt.regionK; exact rfl)
    | refine RunK.nil ?_
    | (apply RunK.moveV; exact rfl; exact rfl)
    | (apply RunK.assignV; exact rfl; exact rfl)
    | (apply RunK.add; exact rfl; exact rfl; exact rfl; (first | omega | (simp only [List.length_map]; omega)))
    | (apply RunK.len; exact rfl; exact rfl)
    | (apply RunK.min; exact rfl; exact rfl; exact rfl)
    | (apply RunK.rows; exact rfl; exact rfl; (repeat (first | exact PartsOk.nil | (apply PartsOk.cons; exact rfl) | (apply PartsOk.consN; exact rfl))); (repeat (first | exact Rows.nil _ | (apply Rows.cons; (first | exact Cells.agg _ | exact Cells.int _ _ | exact Cells.bool _ | exact Cells.one _ rfl); exact rfl))); exact rfl; exact rfl))
      refine ⟨(rows ++ [r1], sp1), ⟨by simp; omega, by simp; omega, by rw [hsp1, hS, hds_row], ?_⟩, by simp; omega, ?_⟩
      · have e2 : r1.els = (r.take 30).map ival := by rw [hr1, List.nil_append]; exact take_min r 30
        simp only [List.map_append, List.map_cons, List.map_nil, hG, e2, List.length_append, List.length_cons, List.length_nil, Nat.zero_add]
        rw [cutG_at hlt2 hr, List.map_append]; rfl
      · dsimp only
        (refine Le.mk ?_ ?_; (repeat' (first | exact LeEnv.done | refine LeEnv.cons ?_ ?_ | exact PVLe.refl _ | exact PVLe.s (SVLe.nil _ _ _) | exact PVLe.s (SVLe.no _ _ _ _) | (refine PVLe.int ?_; first | rfl | omega | (simp; done) | (simp; omega)) | (refine PVLe.els ?_; first | rfl | assumption | (simp; done)) | (refine PVLe.bool ?_; first | rfl | assumption) | (refine PVLe.bsl ?_; first | rfl | assumption | (simp; done))));  (repeat' (first | exact LeBox.done | refine LeBox.cons ?_ ?_ | exact rfl)))
    · have hkk : cutG (g.take rows.length) = cutG g := by
        unfold cutG
        rcases Nat.lt_or_ge rows.length 24 with h | h
        · rw [List.take_take, Nat.min_eq_right (by omega), List.take_of_length_le (l := g) (by omega), List.take_of_length_le (l := g) (by omega)]
        · rw [List.take_take, Nat.min_eq_left (by omega)]
      rw [hkk] at hG
      refine Wt.weak (Turns.takeN 3 2000001 3 0 23 (r := sp) rfl rfl rfl rfl rfl rfl) ?_
      refine Wt.weak (Turns.freezeN 3 2000000 3 rfl rfl hS hG rfl) ?_
      repeat' (first
    | (apply RunK.indexN; exact rfl; exact rfl; exact rfl; (first | exact rfl | exact (rfl : (0 : Int) = ((0 : Nat) : Int)) | exact (rfl : (1 : Int) = ((1 : Nat) : Int)) | exact (rfl : (2 : Int) = ((2 : Nat) : Int)) | exact (rfl : (3 : Int) = ((3 : Nat) : Int)) | assumption); (first | omega | exact lt_of_get ‹_› | (rw [List.length_map]; omega) | (simp; omega))) | (apply RunK.loadNS; exact rfl; exact rfl; assumption; exact rfl) | (apply RunK.lenNs; exact rfl; exact rfl) | (apply RunK.moveNs; exact rfl; exact rfl) | (apply RunK.assignNs; exact rfl; exact rfl)
    | refine Wt.seq ?_
    | (apply Wt.regionK; exact rfl)
    | refine Wt.ret ?_
    | refine Wt.exit ?_
    | refine RunK.nil ?_
    | (apply RunK.moveV; exact rfl; exact rfl)
    | (apply RunK.pickT; exact rfl; exact rfl; exact rfl)
    | (apply RunK.pickF; exact rfl; exact rfl; exact rfl)
    | (apply RunK.lss; exact rfl; exact rfl; exact rfl)
    | (apply RunK.skip; exact rfl; exact rfl)
    | (apply RunK.guard; exact rfl; exact rfl; exact rfl; all_goals (intro hg; (first | exact absurd hg (by decide) | skip); (first | (with_reducible replace hg := not_t hg) | (with_reducible replace hg := not_f hg) | skip); (first | (with_reducible replace hg := dec_t hg) | (with_reducible replace hg := dec_f hg) | skip); (first | (with_reducible exact absurd rfl hg) | skip); (repeat rw [List.length_map] at hg); try (exfalso; omega)))
    | (apply Wt.cond; exact rfl; all_goals (intro hg; (first | exact absurd hg (by decide) | skip); (first | (with_reducible replace hg := not_t hg) | (with_reducible replace hg := not_f hg) | skip); (first | (with_reducible replace hg := dec_t hg) | (with_reducible replace hg := dec_f hg) | skip); (first | (with_reducible exact absurd rfl hg) | skip); (repeat rw [List.length_map] at hg); try (exfalso; omega))))
      all_goals (apply ResOk.g1; exact rfl; exact rfl; exact els_gE hG)
end Go.Proofs.Ytfokjpmcifkoeaa
