/- The walks of Cut and Fit at a graph that came in: of rows without room only the headers are known. No condition. -/
import Derived.Test.YtfokjpmcifkoeaaCD
import Derived.Test.YtfokjpmcifkoeaaPvL
namespace Go.Proofs.Ytfokjpmcifkoeaa
open Pv Go.RowKit
abbrev hd1 (H : List Value) : List (List Value) := H.map fun v => [v]
/-- A graph as it came in: its headers, those of them that are known to read as their rows, the rows. -/
structure RawG (H : List Value) (m : List (Value × List (List Value))) (g : List (List Int)) : Prop where
  len : H.length = g.length
  at_ : ∀ (i : Nat) (v : Value) (r : List Int), H[i]? = some v → g[i]? = some r → (v, r.map ival) ∈ m ∨ (r = [] ∧ ∃ ad, v = .slice (some ad) 0 0)
set_option maxHeartbeats 1000000 in
set_option maxRecDepth 100000 in
theorem cutR {H : List Value} {m : List (Value × List (List Value))} {g : List (List Int)} (hr : RawG H m g) : Acts Try.prog 24 [.sl none .no 1 (hd1 H)] [.hds none 1 m] [] (fun r _ => r = .s (graphR (cutG g))) := by
  have hm2 : Try.prog.follows .mixedOrders = true := by kernel_rfl
  have hlen := hr.len
  have hHl : (hd1 H).length = H.length := List.length_map ..
  refine acts_of_wt Try.func24 rfl (by decide) _ Try.ntmps24 rfl Try.results24 rfl (by simp [ownOf]) fun w0 W => ?_
  repeat' (first
    | (apply RunK.indexN; exact rfl; exact rfl; exact rfl; (first | exact rfl | exact (rfl : (0 : Int) = ((0 : Nat) : Int)) | exact (rfl : (1 : Int) = ((1 : Nat) : Int)) | exact (rfl : (2 : Int) = ((2 : Nat) : Int)) | exact (rfl : (3 : Int) = ((3 : Nat) : Int)) | assumption); (first | omega | exact lt_of_get ‹_› | (rw [List.length_map]; omega) | (simp; omega))) | (apply RunK.loadNS; exact rfl; exact rfl; assumption; exact rfl) | (apply RunK.lenNs; exact rfl; exact rfl) | (apply RunK.moveNs; exact rfl; exact rfl) | (apply RunK.assignNs; exact rfl; exact rfl)
    | refine Wt.seq ?_
    | (apply Wt.regionK; exact rfl)
    | refine Wt.block ?_
    | refine RunK.nil ?_
    | (apply RunK.assignV; exact rfl; exact rfl)
    | (apply RunK.assignN; exact rfl; exact rfl))
  refine Wt.weak (Turns.nestNils 2000001 1 1 0) ?_
  refine Wt.weak (Turns.nestNils 2000002 2 1 1) ?_
  refine Wt.loop (fun i : List NRow × NRow => ⟨[(0, .s (.sl none .no 1 (hd1 H))), (3, .s (.v i.2.hdr)), (4, .s (.v (.int .i64 i.1.length))), (2000000, .hds none 1 m), (2000001, .nest 1 1 i.1), (2000002, .nest 2 1 [i.2]), (2999999, .old W (keptOf [.hds none 1 m]))], []⟩) (fun i => i.1.length ≤ g.length ∧ i.1.length ≤ 24 ∧ i.2.els = hds i.1 ∧ i.1.map (·.els) = (cutG (g.take i.1.length)).map (·.map ival)) (fun i => g.length - i.1.length) ([], NRow.nl) ⟨Nat.zero_le _, Nat.zero_le _, rfl, rfl⟩ ?_ ?_
  · (refine Le.mk ?_ ?_; (repeat' (first | exact LeEnv.done | refine LeEnv.cons ?_ ?_ | exact PVLe.refl _ | exact PVLe.s (SVLe.nil _ _ _) | exact PVLe.s (SVLe.no _ _ _ _) | (refine PVLe.int ?_; first | rfl | omega | (simp; done) | (simp; omega)) | (refine PVLe.els ?_; first | rfl | assumption | (simp; done)) | (refine PVLe.bool ?_; first | rfl | assumption) | (refine PVLe.bsl ?_; first | rfl | assumption | (simp; done))));  (repeat' (first | exact LeBox.done | refine LeBox.cons ?_ ?_ | exact rfl)))
    exact PVLe.s .von
  · rintro ⟨rows, sp⟩ ⟨hk, h24, hS, hG⟩
    dsimp only at hk h24 hS hG ⊢
    by_cases hlt : rows.length < g.length ∧ rows.length < 24
    · obtain ⟨hlt, hlt2⟩ := hlt
      obtain ⟨r, hrr⟩ := exists_at hlt
      obtain ⟨v, hv⟩ := exists_at (l := H) (k := rows.length) (by omega)
      have hx : (hd1 H)[rows.length]? = some [v] := by unfold hd1; rw [List.getElem?_map, hv]; rfl
      rcases hr.at_ _ v r hv hrr with hmem | ⟨rfl, ad, rfl⟩
      · have e1 : min ((r.map ival).length : Int) 30 = ((min r.length 30 : Nat) : Int) := by rw [List.length_map]; omega
        repeat' (first
    | (apply RunK.loadHdsE 2000000; (case hw => exact rfl); (case hx => exact rfl); (case he => assumption); (case hu => exact rfl); (case hh => exact rfl); (case hf => exact rfl); (case hm => assumption)) | (apply RunK.indexN; exact rfl; exact rfl; exact rfl; (first | exact rfl | exact (rfl : (0 : Int) = ((0 : Nat) : Int)) | exact (rfl : (1 : Int) = ((1 : Nat) : Int)) | exact (rfl : (2 : Int) = ((2 : Nat) : Int)) | exact (rfl : (3 : Int) = ((3 : Nat) : Int)) | assumption); (first | omega | exact lt_of_get ‹_› | (rw [List.length_map]; omega) | (simp; omega))) | (apply RunK.loadNS; exact rfl; exact rfl; assumption; exact rfl) | (apply RunK.lenNs; exact rfl; exact rfl) | (apply RunK.moveNs; exact rfl; exact rfl) | (apply RunK.assignNs; exact rfl; exact rfl) | (refine Wt.regionS (i := 5) ⟨[(3, .s (.v sp.hdr))], []⟩ [0] [1, 2, 3, 4, 5, 6, 7, 8, 9, 10, 11, 12, 13, 14, 15, 16] hm2 rfl (by decide +kernel) (by kernel_rfl) (CalmLe.of rfl fun p hp => (by simp only [List.mem_cons, List.not_mem_nil, or_false] at hp; rcases hp with rfl <;> exact ⟨by dsimp only; omega, rfl, rfl⟩)) fun K hK hN => ?_)
    | refine Wt.seq ?_
    | (apply Wt.regionK; exact rfl)
    | refine Wt.block ?_
    | refine Wt.skip ?_
    | refine RunK.nil ?_
    | (apply RunK.moveV; exact rfl; exact rfl)
    | (apply RunK.moveS; exact rfl; exact rfl)
    | (apply RunK.pickT; exact rfl; exact rfl; exact rfl)
    | (apply RunK.lss; exact rfl; exact rfl; exact rfl)
    | (apply RunK.len; exact rfl; exact rfl)
    | (apply RunK.guard; exact rfl; exact rfl; exact rfl; all_goals (intro hg; (first | exact absurd hg (by decide) | skip); (first | (with_reducible replace hg := not_t hg) | (with_reducible replace hg := not_f hg) | skip); (first | (with_reducible replace hg := dec_t hg) | (with_reducible replace hg := dec_f hg) | skip); (first | (with_reducible exact absurd rfl hg) | skip); (repeat rw [List.length_map] at hg); try (exfalso; omega)))
    | (apply Wt.cond; exact rfl; all_goals (intro hg; (first | exact absurd hg (by decide) | skip); (first | (with_reducible replace hg := not_t hg) | (with_reducible replace hg := not_f hg) | skip); (first | (with_reducible replace hg := dec_t hg) | (with_reducible replace hg := dec_f hg) | skip); (first | (with_reducible exact absurd rfl hg) | skip); (repeat rw [List.length_map] at hg); try (exfalso; omega))))
        (apply CalmRun.cons; (case hi => exact rfl); (case hp => (apply PStep.of_run; exact rfl; exact rfl; exact rfl; exact rfl; exact rfl; (first | (apply RunK.moveV; exact rfl; exact rfl)); (refine RunK.nil ?_); exact rfl)); (case hb => kernel_rfl))
        dsimp only [St.put]
        refine CalmRun.rest [1, 2, 3, 4, 5, 6, 7, 8, 9, 10, 11, 12, 13, 14, 15, 16] (by decide +kernel) hK rfl rfl (by kernel_rfl) (by kernel_rfl) ?_
        repeat' (first
    | (apply RunK.loadHdsE 2000000; (case hw => exact rfl); (case hx => exact rfl); (case he => assumption); (case hu => exact rfl); (case hh => exact rfl); (case hf => exact rfl); (case hm => assumption)) | (apply RunK.indexN; exact rfl; exact rfl; exact rfl; (first | exact rfl | exact (rfl : (0 : Int) = ((0 : Nat) : Int)) | exact (rfl : (1 : Int) = ((1 : Nat) : Int)) | exact (rfl : (2 : Int) = ((2 : Nat) : Int)) | exact (rfl : (3 : Int) = ((3 : Nat) : Int)) | assumption); (first | omega | exact lt_of_get ‹_› | (rw [List.length_map]; omega) | (simp; omega))) | (apply RunK.loadNS; exact rfl; exact rfl; assumption; exact rfl) | (apply RunK.lenNs; exact rfl; exact rfl) | (apply RunK.moveNs; exact rfl; exact rfl) | (apply RunK.assignNs; exact rfl; exact rfl) | (refine hN _ ?_) | (apply RunK.sliceTo (l := min r.length 30); exact rfl; exact rfl; exact rfl; exact e1; (simp; omega)) | (apply RunK.append; exact rfl; exact rfl; exact rfl; (first | exact ReadLe.sl _ _ _ _ | exact ReadLe.nil _); exact rfl; exact one_take _ (one_map (fun _ => rfl) _); (simp; omega)) | (apply RunK.buildN 2000001; exact rfl; (first | exact (fun _ => rfl) | exact (fun h => nomatch h)); (repeat (first | exact PartsC.nil | (apply PartsC.row; exact rfl; exact rfl) | (apply PartsC.nl; exact rfl) | (apply PartsC.v; exact rfl))); exact rfl; exact rfl; exact rfl; exact rfl; exact rfl; exact rfl; exact rfl; intro new hnew hcap; obtain ⟨r1, rfl, hr1⟩ := map_one hnew) | (apply RunK.appendRN 2000002 900001 (i := 0); (case hw => exact rfl); (case he => (first | exact (fun _ => rfl) | exact (fun h => nomatch h))); (case hx => exact rfl); (case htx => exact rfl); (case hk => exact rfl); (case hi => exact rfl); (case hh => exact rfl); (case hn => exact rfl); (case hnt => exact rfl); (case hd0 => exact rfl); (case hdx => exact rfl); (case hy => (first | exact ReadLe.sl _ _ _ _ | exact ReadLe.nil _)); (case hone => exact one_hdr _ _ _ _); (case hb => (simp [hdrsOf, *]; omega)); intro sp1 hsp1 hspc)
    | (apply Wt.regionK; exact rfl)
    | refine RunK.nil ?_
    | (apply RunK.moveV; exact rfl; exact rfl)
    | (apply RunK.index; exact rfl; exact rfl; exact rfl; (first | exact rfl | exact (rfl : (0 : Int) = ((0 : Nat) : Int)) | exact (rfl : (1 : Int) = ((1 : Nat) : Int)) | exact (rfl : (2 : Int) = ((2 : Nat) : Int)) | exact (rfl : (3 : Int) = ((3 : Nat) : Int)) | assumption); (first | omega | exact lt_of_get ‹_› | (rw [List.length_map]; omega) | (simp; omega)))
    | (apply RunK.assignV; exact rfl; exact rfl)
    | (apply RunK.moveS; exact rfl; exact rfl)
    | (apply RunK.add; exact rfl; exact rfl; exact rfl; (first | omega | (simp only [List.length_map]; omega)))
    | (apply RunK.len; exact rfl; exact rfl)
    | (apply RunK.min; exact rfl; exact rfl; exact rfl)
    | (apply RunK.rows; exact rfl; exact rfl; (repeat (first | exact PartsOk.nil | (apply PartsOk.cons; exact rfl) | (apply PartsOk.consN; exact rfl))); (repeat (first | exact Rows.nil _ | (apply Rows.cons; (first | exact Cells.agg _ | exact Cells.int _ _ | exact Cells.bool _ | exact Cells.one _ rfl); exact rfl))); exact rfl; exact rfl))
        refine ⟨(rows ++ [r1], sp1), ⟨by simp; omega, by simp; omega, by rw [hsp1, hS, hds_row], ?_⟩, by simp; omega, ?_⟩
        · have e2 : r1.els = (r.take 30).map ival := by rw [hr1, List.nil_append]; exact take_min r 30
          simp only [List.map_append, List.map_cons, List.map_nil, hG, e2, List.length_append, List.length_cons, List.length_nil, Nat.zero_add]
          rw [cutG_at hlt2 hrr, List.map_append]; rfl
        · dsimp only
          (refine Le.mk ?_ ?_; (repeat' (first | exact LeEnv.done | refine LeEnv.cons ?_ ?_ | exact PVLe.refl _ | exact PVLe.s (SVLe.nil _ _ _) | exact PVLe.s (SVLe.no _ _ _ _) | (refine PVLe.int ?_; first | rfl | omega | (simp; done) | (simp; omega)) | (refine PVLe.els ?_; first | rfl | assumption | (simp; done)) | (refine PVLe.bool ?_; first | rfl | assumption) | (refine PVLe.bsl ?_; first | rfl | assumption | (simp; done))));  (repeat' (first | exact LeBox.done | refine LeBox.cons ?_ ?_ | exact rfl)))
      · have e1 : min (((0 : Nat) : Int)) 30 = ((0 : Nat) : Int) := by decide
        repeat' (first
    | (apply RunK.indexN; exact rfl; exact rfl; exact rfl; (first | exact rfl | exact (rfl : (0 : Int) = ((0 : Nat) : Int)) | exact (rfl : (1 : Int) = ((1 : Nat) : Int)) | exact (rfl : (2 : Int) = ((2 : Nat) : Int)) | exact (rfl : (3 : Int) = ((3 : Nat) : Int)) | assumption); (first | omega | exact lt_of_get ‹_› | (rw [List.length_map]; omega) | (simp; omega))) | (apply RunK.loadNS; exact rfl; exact rfl; assumption; exact rfl) | (apply RunK.lenNs; exact rfl; exact rfl) | (apply RunK.moveNs; exact rfl; exact rfl) | (apply RunK.assignNs; exact rfl; exact rfl) | (refine Wt.regionS (i := 5) ⟨[(3, .s (.v sp.hdr))], []⟩ [0] [1, 2, 3, 4, 5, 6, 7, 8, 9, 10, 11, 12, 13, 14, 15, 16] hm2 rfl (by decide +kernel) (by kernel_rfl) (CalmLe.of rfl fun p hp => (by simp only [List.mem_cons, List.not_mem_nil, or_false] at hp; rcases hp with rfl <;> exact ⟨by dsimp only; omega, rfl, rfl⟩)) fun K hK hN => ?_)
    | refine Wt.seq ?_
    | (apply Wt.regionK; exact rfl)
    | refine Wt.block ?_
    | refine Wt.skip ?_
    | refine RunK.nil ?_
    | (apply RunK.moveV; exact rfl; exact rfl)
    | (apply RunK.moveS; exact rfl; exact rfl)
    | (apply RunK.pickT; exact rfl; exact rfl; exact rfl)
    | (apply RunK.lss; exact rfl; exact rfl; exact rfl)
    | (apply RunK.len; exact rfl; exact rfl)
    | (apply RunK.guard; exact rfl; exact rfl; exact rfl; all_goals (intro hg; (first | exact absurd hg (by decide) | skip); (first | (with_reducible replace hg := not_t hg) | (with_reducible replace hg := not_f hg) | skip); (first | (with_reducible replace hg := dec_t hg) | (with_reducible replace hg := dec_f hg) | skip); (first | (with_reducible exact absurd rfl hg) | skip); (repeat rw [List.length_map] at hg); try (exfalso; omega)))
    | (apply Wt.cond; exact rfl; all_goals (intro hg; (first | exact absurd hg (by decide) | skip); (first | (with_reducible replace hg := not_t hg) | (with_reducible replace hg := not_f hg) | skip); (first | (with_reducible replace hg := dec_t hg) | (with_reducible replace hg := dec_f hg) | skip); (first | (with_reducible exact absurd rfl hg) | skip); (repeat rw [List.length_map] at hg); try (exfalso; omega))))
        (apply CalmRun.cons; (case hi => exact rfl); (case hp => (apply PStep.of_run; exact rfl; exact rfl; exact rfl; exact rfl; exact rfl; (first | (apply RunK.moveV; exact rfl; exact rfl)); (refine RunK.nil ?_); exact rfl)); (case hb => kernel_rfl))
        dsimp only [St.put]
        refine CalmRun.rest [1, 2, 3, 4, 5, 6, 7, 8, 9, 10, 11, 12, 13, 14, 15, 16] (by decide +kernel) hK rfl rfl (by kernel_rfl) (by kernel_rfl) ?_
        repeat' (first
    | (apply RunK.lenK; exact rfl; exact rfl) | (apply RunK.indexN; exact rfl; exact rfl; exact rfl; (first | exact rfl | exact (rfl : (0 : Int) = ((0 : Nat) : Int)) | exact (rfl : (1 : Int) = ((1 : Nat) : Int)) | exact (rfl : (2 : Int) = ((2 : Nat) : Int)) | exact (rfl : (3 : Int) = ((3 : Nat) : Int)) | assumption); (first | omega | exact lt_of_get ‹_› | (rw [List.length_map]; omega) | (simp; omega))) | (apply RunK.loadNS; exact rfl; exact rfl; assumption; exact rfl) | (apply RunK.lenNs; exact rfl; exact rfl) | (apply RunK.moveNs; exact rfl; exact rfl) | (apply RunK.assignNs; exact rfl; exact rfl) | (refine hN _ ?_) | (apply RunK.sliceToZ; exact rfl; exact rfl; exact rfl; exact e1) | (apply RunK.appendZ; exact rfl; exact rfl; exact rfl; exact rfl) | (apply RunK.buildN 2000001; exact rfl; (first | exact (fun _ => rfl) | exact (fun h => nomatch h)); (repeat (first | exact PartsC.nil | (apply PartsC.row; exact rfl; exact rfl) | (apply PartsC.nl; exact rfl) | (apply PartsC.v; exact rfl))); exact rfl; exact rfl; exact rfl; exact rfl; exact rfl; exact rfl; exact rfl; intro new hnew hcap; obtain ⟨r1, rfl, hr1⟩ := map_one hnew) | (apply RunK.appendRN 2000002 900001 (i := 0); (case hw => exact rfl); (case he => (first | exact (fun _ => rfl) | exact (fun h => nomatch h))); (case hx => exact rfl); (case htx => exact rfl); (case hk => exact rfl); (case hi => exact rfl); (case hh => exact rfl); (case hn => exact rfl); (case hnt => exact rfl); (case hd0 => exact rfl); (case hdx => exact rfl); (case hy => (first | exact ReadLe.sl _ _ _ _ | exact ReadLe.nil _)); (case hone => exact one_hdr _ _ _ _); (case hb => (simp [hdrsOf, *]; omega)); intro sp1 hsp1 hspc)
    | (apply Wt.regionK; exact rfl)
    | refine RunK.nil ?_
    | (apply RunK.moveV; exact rfl; exact rfl)
    | (apply RunK.index; exact rfl; exact rfl; exact rfl; (first | exact rfl | exact (rfl : (0 : Int) = ((0 : Nat) : Int)) | exact (rfl : (1 : Int) = ((1 : Nat) : Int)) | exact (rfl : (2 : Int) = ((2 : Nat) : Int)) | exact (rfl : (3 : Int) = ((3 : Nat) : Int)) | assumption); (first | omega | exact lt_of_get ‹_› | (rw [List.length_map]; omega) | (simp; omega)))
    | (apply RunK.loadE1; exact rfl; exact rfl; assumption; exact rfl)
    | (apply RunK.assignV; exact rfl; exact rfl)
    | (apply RunK.moveS; exact rfl; exact rfl)
    | (apply RunK.add; exact rfl; exact rfl; exact rfl; (first | omega | (simp only [List.length_map]; omega)))
    | (apply RunK.min; exact rfl; exact rfl; exact rfl)
    | (apply RunK.rows; exact rfl; exact rfl; (repeat (first | exact PartsOk.nil | (apply PartsOk.cons; exact rfl) | (apply PartsOk.consN; exact rfl))); (repeat (first | exact Rows.nil _ | (apply Rows.cons; (first | exact Cells.agg _ | exact Cells.int _ _ | exact Cells.bool _ | exact Cells.one _ rfl); exact rfl))); exact rfl; exact rfl))
        refine ⟨(rows ++ [r1], sp1), ⟨by simp; omega, by simp; omega, by rw [hsp1, hS, hds_row], ?_⟩, by simp; omega, ?_⟩
        · have e2 : r1.els = (([] : List Int).take 30).map ival := by rw [hr1]; rfl
          simp only [List.map_append, List.map_cons, List.map_nil, hG, e2, List.length_append, List.length_cons, List.length_nil, Nat.zero_add]
          rw [cutG_at hlt2 hrr, List.map_append]; rfl
        · dsimp only
          (refine Le.mk ?_ ?_; (repeat' (first | exact LeEnv.done | refine LeEnv.cons ?_ ?_ | exact PVLe.refl _ | exact PVLe.s (SVLe.nil _ _ _) | exact PVLe.s (SVLe.no _ _ _ _) | (refine PVLe.int ?_; first | rfl | omega | (simp; done) | (simp; omega)) | (refine PVLe.els ?_; first | rfl | assumption | (simp; done)) | (refine PVLe.bool ?_; first | rfl | assumption) | (refine PVLe.bsl ?_; first | rfl | assumption | (simp; done))));  (repeat' (first | exact LeBox.done | refine LeBox.cons ?_ ?_ | exact rfl)))
    · have hkk : cutG (g.take rows.length) = cutG g := by
        unfold cutG
        rcases Nat.lt_or_ge rows.length 24 with h | h
        · rw [List.take_take, Nat.min_eq_right (by omega), List.take_of_length_le (l := g) (by omega), List.take_of_length_le (l := g) (by omega)]
        · rw [List.take_take, Nat.min_eq_left (by omega)]
      rw [hkk] at hG
      refine Wt.weak (Turns.takeN 3 2000002 3 0 23 (r := sp) rfl rfl rfl rfl rfl rfl) ?_
      refine Wt.weak (Turns.freezeN 3 2000001 3 rfl rfl hS hG rfl) ?_
      repeat' (first
    | (apply RunK.indexN; exact rfl; exact rfl; exact rfl; (first | exact rfl | exact (rfl : (0 : Int) = ((0 : Nat) : Int)) | exact (rfl : (1 : Int) = ((1 : Nat) : Int)) | exact (rfl : (2 : Int) = ((2 : Nat) : Int)) | exact (rfl : (3 : Int) = ((3 : Nat) : Int)) | assumption); (first | omega | exact lt_of_get ‹_› | (rw [List.length_map]; omega) | (simp; omega))) | (apply RunK.loadNS; exact rfl; exact rfl; assumption; exact rfl) | (apply RunK.lenNs; exact rfl; exact rfl) | (apply RunK.moveNs; exact rfl; exact rfl) | (apply RunK.assignNs; exact rfl; exact rfl)
    | refine Wt.seq ?_
    | (apply Wt.regionK; exact rfl)
    | refine Wt.ret ?_
    | refine Wt.exit ?_
    | refine RunK.nil ?_
    | (apply RunK.moveV; exact rfl; exact rfl)
    | (apply RunK.moveS; exact rfl; exact rfl)
    | (apply RunK.pickT; exact rfl; exact rfl; exact rfl)
    | (apply RunK.pickF; exact rfl; exact rfl; exact rfl)
    | (apply RunK.lss; exact rfl; exact rfl; exact rfl)
    | (apply RunK.len; exact rfl; exact rfl)
    | (apply RunK.skip; exact rfl; exact rfl)
    | (apply RunK.guard; exact rfl; exact rfl; exact rfl; all_goals (intro hg; (first | exact absurd hg (by decide) | skip); (first | (with_reducible replace hg := not_t hg) | (with_reducible replace hg := not_f hg) | skip); (first | (with_reducible replace hg := dec_t hg) | (with_reducible replace hg := dec_f hg) | skip); (first | (with_reducible exact absurd rfl hg) | skip); (repeat rw [List.length_map] at hg); try (exfalso; omega)))
    | (apply Wt.cond; exact rfl; all_goals (intro hg; (first | exact absurd hg (by decide) | skip); (first | (with_reducible replace hg := not_t hg) | (with_reducible replace hg := not_f hg) | skip); (first | (with_reducible replace hg := dec_t hg) | (with_reducible replace hg := dec_f hg) | skip); (first | (with_reducible exact absurd rfl hg) | skip); (repeat rw [List.length_map] at hg); try (exfalso; omega))))
      all_goals exact ActEnd.mk (.s (graphR (cutG g))) [] rfl (by apply ResOk.g1; exact rfl; exact rfl; exact els_gE hG) rfl rfl .nil (.hds .nil)
set_option maxHeartbeats 1000000 in
set_option maxRecDepth 100000 in
theorem fitR {H : List Value} {m : List (Value × List (List Value))} {g : List (List Int)} (hr : RawG H m g) : Acts Try.prog 25 [.sl none .no 1 (hd1 H)] [.hds none 1 m] [] (fun r _ => r = .s (graphR (fitG g))) := by
  have hc := cutR hr
  unfold fitG
  have hc1 := cutG_len g
  have hc2 := fun r => cutG_row (g := g) (r := r)
  clear hr
  generalize cutG g = c at *
  refine acts_of_wt Try.func25 rfl (by decide) _ Try.ntmps25 rfl Try.results25 rfl (by simp [ownOf]) fun w0 W => ?_
  repeat' (first
    | (apply RunK.indexN; exact rfl; exact rfl; exact rfl; (first | exact rfl | exact (rfl : (0 : Int) = ((0 : Nat) : Int)) | exact (rfl : (1 : Int) = ((1 : Nat) : Int)) | exact (rfl : (2 : Int) = ((2 : Nat) : Int)) | exact (rfl : (3 : Int) = ((3 : Nat) : Int)) | assumption); (first | omega | exact lt_of_get ‹_› | (rw [List.length_map]; omega) | (simp; omega))) | (apply RunK.loadNS; exact rfl; exact rfl; assumption; exact rfl) | (apply RunK.lenNs; exact rfl; exact rfl) | (apply RunK.moveNs; exact rfl; exact rfl) | (apply RunK.assignNs; exact rfl; exact rfl) | (apply RunK.actR _ hc (fun _ _ h => h); (case hn => exact rfl); (case hw => exact rfl); (case he => exact rfl); (case hx => exact rfl); (case ha => (repeat (first | exact ArgsLe.nil | refine ArgsLe.cons ?_ ?_ | exact ArgLe.v _ | exact ArgLe.sl _ _ _ _ | exact ArgLe.nil _ | exact ArgLe.nil' | exact ArgLe.nsl _ _ _ _ _ | exact ArgLe.nsn _ | (apply ArgLe.bsl; exact rfl; (first | exact rfl | (rw [List.length_map]; done) | (simp only [List.length_map]; done) | (simp; done) | (simp; omega)); (first | assumption | exact map_len (fun _ => rfl)))))); (case hgs => exact rfl); (case hf => exact .hds 2000000 rfl rfl .nil))
    | refine Wt.seq ?_
    | (apply Wt.regionK; exact rfl)
    | refine Wt.block ?_
    | refine RunK.nil ?_
    | (apply RunK.assignV; exact rfl; exact rfl)
    | (apply RunK.moveS; exact rfl; exact rfl)
    | (apply RunK.assignN; exact rfl; exact rfl))
  refine Wt.weakS (Turns.thawN 3 2000001 1 (τ := 7) rfl (gE_L c) rfl) ?_
  rintro s1 ⟨rows0, h1, h2, rfl⟩
  have hl0 : rows0.length = c.length := by have := congrArg List.length h1; simpa using this
  have hdl : (hds rows0).length = c.length := by rw [List.length_map]; exact hl0
  generalize hH : hds rows0 = HH at *
  refine Wt.loop (fun i : Nat × List NRow => ⟨[(3, .s (.sl (some 7) .no 1 HH)), (4, .s (.v (.int .i64 i.1))), (2000001, .nest 1 1 i.2), (2999999, .old W (keptOf [.hds none 1 m]))], []⟩) (fun i => i.1 ≤ c.length ∧ hds i.2 = HH ∧ i.2.map (·.els) = (part (·.map (fitV c.length)) c i.1).map (·.map ival)) (fun i => c.length - i.1) (0, rows0) ⟨Nat.zero_le _, hH, by rw [part_zero]; exact h1⟩ ?_ ?_
  · (refine Le.mk ?_ ?_; (repeat' (first | exact LeEnv.done | refine LeEnv.cons ?_ ?_ | exact PVLe.refl _ | exact PVLe.s (SVLe.nil _ _ _) | exact PVLe.s (SVLe.no _ _ _ _) | (refine PVLe.int ?_; first | rfl | omega | (simp; done) | (simp; omega)) | (refine PVLe.els ?_; first | rfl | assumption | (simp; done)) | (refine PVLe.bool ?_; first | rfl | assumption) | (refine PVLe.bsl ?_; first | rfl | assumption | (simp; done))));  (repeat' (first | exact LeBox.done | refine LeBox.cons ?_ ?_ | exact rfl)))
  · rintro ⟨i, rows⟩ ⟨hi, hS, hG⟩
    dsimp only at hi hS hG ⊢
    by_cases hlt : i < c.length
    · obtain ⟨r, hr⟩ := exists_at hlt
      have hrl := hc2 r (List.mem_of_getElem? hr)
      have hn0 : (HH.length : Int) ≠ 0 := by rw [hdl]; omega
      repeat' (first
    | (apply RunK.indexN; exact rfl; exact rfl; exact rfl; (first | exact rfl | exact (rfl : (0 : Int) = ((0 : Nat) : Int)) | exact (rfl : (1 : Int) = ((1 : Nat) : Int)) | exact (rfl : (2 : Int) = ((2 : Nat) : Int)) | exact (rfl : (3 : Int) = ((3 : Nat) : Int)) | assumption); (first | omega | exact lt_of_get ‹_› | (rw [List.length_map]; omega) | (simp; omega))) | (apply RunK.loadNS; exact rfl; exact rfl; assumption; exact rfl) | (apply RunK.lenNs; exact rfl; exact rfl) | (apply RunK.moveNs; exact rfl; exact rfl) | (apply RunK.assignNs; exact rfl; exact rfl)
    | refine Wt.seq ?_
    | (apply Wt.regionK; exact rfl)
    | refine Wt.block ?_
    | refine Wt.skip ?_
    | refine RunK.nil ?_
    | (apply RunK.moveV; exact rfl; exact rfl)
    | (apply RunK.assignV; exact rfl; exact rfl)
    | (apply RunK.moveS; exact rfl; exact rfl)
    | (apply RunK.lss; exact rfl; exact rfl; exact rfl)
    | (apply RunK.len; exact rfl; exact rfl)
    | (apply Wt.cond; exact rfl; all_goals (intro hg; (first | exact absurd hg (by decide) | skip); (first | (with_reducible replace hg := not_t hg) | (with_reducible replace hg := not_f hg) | skip); (first | (with_reducible replace hg := dec_t hg) | (with_reducible replace hg := dec_f hg) | skip); (first | (with_reducible exact absurd rfl hg) | skip); (repeat rw [List.length_map] at hg); try (exfalso; omega))))
      refine Wt.loop (fun k : Nat × List NRow => ⟨[(3, .s (.sl (some 7) .no 1 HH)), (4, .s (.v (.int .i64 i))), (5, .s (.v (.int .i64 k.1))), (2000001, .nest 1 1 k.2), (2999999, .old W (keptOf [.hds none 1 m]))], []⟩) (fun k => k.1 ≤ r.length ∧ hds k.2 = HH ∧ k.2.map (·.els) = ((part (·.map (fitV c.length)) c i).set i (part (fitV c.length) r k.1)).map (·.map ival)) (fun k => r.length - k.1) (0, rows) ⟨Nat.zero_le _, hS, by rw [part_zero, set_same (part_at hr)]; exact hG⟩ ?_ ?_
      · (refine Le.mk ?_ ?_; (repeat' (first | exact LeEnv.done | refine LeEnv.cons ?_ ?_ | exact PVLe.refl _ | exact PVLe.s (SVLe.nil _ _ _) | exact PVLe.s (SVLe.no _ _ _ _) | (refine PVLe.int ?_; first | rfl | omega | (simp; done) | (simp; omega)) | (refine PVLe.els ?_; first | rfl | assumption | (simp; done)) | (refine PVLe.bool ?_; first | rfl | assumption) | (refine PVLe.bsl ?_; first | rfl | assumption | (simp; done))));  (repeat' (first | exact LeBox.done | refine LeBox.cons ?_ ?_ | exact rfl)))
      · rintro ⟨k, rows1⟩ ⟨hk, hS1, hG1⟩
        dsimp only at hk hS1 hG1 ⊢
        obtain ⟨q, hq, hqm, hqe, hqh⟩ := els_at hG1 (set_at (by rw [part_len]; exact hlt))
        rw [hS1] at hqh
        have hql : q.els.length = r.length := by rw [hqe, List.length_map, part_len]
        by_cases hkt : k < r.length
        · obtain ⟨y, hy⟩ := exists_at hkt
          have hye : q.els[k]? = some (ival y) := by rw [hqe]; exact get_map (part_at hy)
          have hb1 := tmod_bd y (n := HH.length) (by omega)
          repeat' (first
    | (apply RunK.indexN; exact rfl; exact rfl; exact rfl; (first | exact rfl | exact (rfl : (0 : Int) = ((0 : Nat) : Int)) | exact (rfl : (1 : Int) = ((1 : Nat) : Int)) | exact (rfl : (2 : Int) = ((2 : Nat) : Int)) | exact (rfl : (3 : Int) = ((3 : Nat) : Int)) | assumption); (first | omega | exact lt_of_get ‹_› | (rw [List.length_map]; omega) | (simp; omega))) | (apply RunK.loadNS; exact rfl; exact rfl; assumption; exact rfl) | (apply RunK.lenNs; exact rfl; exact rfl) | (apply RunK.moveNs; exact rfl; exact rfl) | (apply RunK.assignNs; exact rfl; exact rfl) | (apply RunK.lenK; exact rfl; exact rfl) | (apply RunK.idxN 2000001; exact rfl; exact rfl; exact rfl; (first | exact rfl | exact (rfl : (0 : Int) = ((0 : Nat) : Int)) | exact (rfl : (1 : Int) = ((1 : Nat) : Int)) | exact (rfl : (2 : Int) = ((2 : Nat) : Int)) | exact (rfl : (3 : Int) = ((3 : Nat) : Int)) | assumption); exact rfl; exact rfl; assumption; assumption) | (apply RunK.loadRN 2000001; exact rfl; exact rfl; exact rfl; exact rfl; assumption; assumption) | (apply RunK.storeRN 2000001; exact rfl; exact rfl; exact rfl; exact rfl; assumption; assumption; exact rfl; exact rfl; exact rfl; exact rfl) | (apply RunK.bin; exact rfl; exact rfl; exact rfl; exact BinRun.rem hn0)
    | refine Wt.seq ?_
    | (apply Wt.regionK; exact rfl)
    | (apply Wt.regionD; kernel_rfl; kernel_rfl; exact rfl; exact rfl)
    | refine Wt.block ?_
    | refine Wt.skip ?_
    | refine RunK.nil ?_
    | (apply RunK.moveV; exact rfl; exact rfl)
    | (apply RunK.index; exact rfl; exact rfl; exact rfl; (first | exact rfl | exact (rfl : (0 : Int) = ((0 : Nat) : Int)) | exact (rfl : (1 : Int) = ((1 : Nat) : Int)) | exact (rfl : (2 : Int) = ((2 : Nat) : Int)) | exact (rfl : (3 : Int) = ((3 : Nat) : Int)) | assumption); (first | omega | exact lt_of_get ‹_› | (rw [List.length_map]; omega) | (simp; omega)))
    | (apply RunK.loadE1; exact rfl; exact rfl; assumption; exact rfl)
    | (apply RunK.assignV; exact rfl; exact rfl)
    | (apply RunK.moveS; exact rfl; exact rfl)
    | (apply RunK.lss; exact rfl; exact rfl; exact rfl)
    | (apply RunK.add; exact rfl; exact rfl; exact rfl; (first | omega | (simp only [List.length_map]; omega)))
    | (apply RunK.len; exact rfl; exact rfl)
    | (apply Wt.cond; exact rfl; all_goals (intro hg; (first | exact absurd hg (by decide) | skip); (first | (with_reducible replace hg := not_t hg) | (with_reducible replace hg := not_f hg) | skip); (first | (with_reducible replace hg := dec_t hg) | (with_reducible replace hg := dec_f hg) | skip); (first | (with_reducible exact absurd rfl hg) | skip); (repeat rw [List.length_map] at hg); try (exfalso; omega))))
          refine ⟨(k + 1, rows1.set i (q.put k (.int .i64 (fitV HH.length y)))), ⟨hkt, (hds_put hq _ _).trans hS1, ?_⟩, by dsimp only; omega, ?_⟩
          · dsimp only
            rw [els_put hG1 hqe, List.set_set, hdl, part_set hy]
          · dsimp only
            (refine Le.mk ?_ ?_; (repeat' (first | exact LeEnv.done | refine LeEnv.cons ?_ ?_ | exact PVLe.refl _ | exact PVLe.s (SVLe.nil _ _ _) | exact PVLe.s (SVLe.no _ _ _ _) | (refine PVLe.int ?_; first | rfl | omega | (simp; done) | (simp; omega)) | (refine PVLe.els ?_; first | rfl | assumption | (simp; done)) | (refine PVLe.bool ?_; first | rfl | assumption) | (refine PVLe.bsl ?_; first | rfl | assumption | (simp; done))));  (repeat' (first | exact LeBox.done | refine LeBox.cons ?_ ?_ | exact rfl)))
        · obtain rfl : k = r.length := by omega
          repeat' (first
    | (apply RunK.indexN; exact rfl; exact rfl; exact rfl; (first | exact rfl | exact (rfl : (0 : Int) = ((0 : Nat) : Int)) | exact (rfl : (1 : Int) = ((1 : Nat) : Int)) | exact (rfl : (2 : Int) = ((2 : Nat) : Int)) | exact (rfl : (3 : Int) = ((3 : Nat) : Int)) | assumption); (first | omega | exact lt_of_get ‹_› | (rw [List.length_map]; omega) | (simp; omega))) | (apply RunK.loadNS; exact rfl; exact rfl; assumption; exact rfl) | (apply RunK.lenNs; exact rfl; exact rfl) | (apply RunK.moveNs; exact rfl; exact rfl) | (apply RunK.assignNs; exact rfl; exact rfl) | (apply RunK.lenK; exact rfl; exact rfl) | (apply RunK.idxN 2000001; exact rfl; exact rfl; exact rfl; (first | exact rfl | exact (rfl : (0 : Int) = ((0 : Nat) : Int)) | exact (rfl : (1 : Int) = ((1 : Nat) : Int)) | exact (rfl : (2 : Int) = ((2 : Nat) : Int)) | exact (rfl : (3 : Int) = ((3 : Nat) : Int)) | assumption); exact rfl; exact rfl; assumption; assumption) | (apply RunK.loadRN 2000001; exact rfl; exact rfl; exact rfl; exact rfl; assumption; assumption) | (apply RunK.storeRN 2000001; exact rfl; exact rfl; exact rfl; exact rfl; assumption; assumption; exact rfl; exact rfl; exact rfl; exact rfl)
    | refine Wt.seq ?_
    | (apply Wt.regionK; exact rfl)
    | refine Wt.exit ?_
    | refine RunK.nil ?_
    | (apply RunK.moveV; exact rfl; exact rfl)
    | (apply RunK.index; exact rfl; exact rfl; exact rfl; (first | exact rfl | exact (rfl : (0 : Int) = ((0 : Nat) : Int)) | exact (rfl : (1 : Int) = ((1 : Nat) : Int)) | exact (rfl : (2 : Int) = ((2 : Nat) : Int)) | exact (rfl : (3 : Int) = ((3 : Nat) : Int)) | assumption); (first | omega | exact lt_of_get ‹_› | (rw [List.length_map]; omega) | (simp; omega)))
    | (apply RunK.loadE1; exact rfl; exact rfl; assumption; exact rfl)
    | (apply RunK.assignV; exact rfl; exact rfl)
    | (apply RunK.moveS; exact rfl; exact rfl)
    | (apply RunK.lss; exact rfl; exact rfl; exact rfl)
    | (apply RunK.add; exact rfl; exact rfl; exact rfl; (first | omega | (simp only [List.length_map]; omega)))
    | (apply Wt.cond; exact rfl; all_goals (intro hg; (first | exact absurd hg (by decide) | skip); (first | (with_reducible replace hg := not_t hg) | (with_reducible replace hg := not_f hg) | skip); (first | (with_reducible replace hg := dec_t hg) | (with_reducible replace hg := dec_f hg) | skip); (first | (with_reducible exact absurd rfl hg) | skip); (repeat rw [List.length_map] at hg); try (exfalso; omega))))
          refine ⟨(i + 1, rows1), ⟨hlt, hS1, ?_⟩, by dsimp only; omega, ?_⟩
          · dsimp only
            rw [hG1, part_all _ (Nat.le_refl _), part_set hr]
          · dsimp only
            (refine Le.mk ?_ ?_; (repeat' (first | exact LeEnv.done | refine LeEnv.cons ?_ ?_ | exact PVLe.refl _ | exact PVLe.s (SVLe.nil _ _ _) | exact PVLe.s (SVLe.no _ _ _ _) | (refine PVLe.int ?_; first | rfl | omega | (simp; done) | (simp; omega)) | (refine PVLe.els ?_; first | rfl | assumption | (simp; done)) | (refine PVLe.bool ?_; first | rfl | assumption) | (refine PVLe.bsl ?_; first | rfl | assumption | (simp; done))));  (repeat' (first | exact LeBox.done | refine LeBox.cons ?_ ?_ | exact rfl)))
    · rw [part_all _ (by omega)] at hG
      refine Wt.weak (Turns.freezeN 3 2000001 7 rfl rfl hS.symm hG rfl) ?_
      repeat' (first
    | (apply RunK.indexN; exact rfl; exact rfl; exact rfl; (first | exact rfl | exact (rfl : (0 : Int) = ((0 : Nat) : Int)) | exact (rfl : (1 : Int) = ((1 : Nat) : Int)) | exact (rfl : (2 : Int) = ((2 : Nat) : Int)) | exact (rfl : (3 : Int) = ((3 : Nat) : Int)) | assumption); (first | omega | exact lt_of_get ‹_› | (rw [List.length_map]; omega) | (simp; omega))) | (apply RunK.loadNS; exact rfl; exact rfl; assumption; exact rfl) | (apply RunK.lenNs; exact rfl; exact rfl) | (apply RunK.moveNs; exact rfl; exact rfl) | (apply RunK.assignNs; exact rfl; exact rfl)
    | refine Wt.seq ?_
    | (apply Wt.regionK; exact rfl)
    | refine Wt.ret ?_
    | refine Wt.exit ?_
    | refine RunK.nil ?_
    | (apply RunK.moveV; exact rfl; exact rfl)
    | (apply RunK.lss; exact rfl; exact rfl; exact rfl)
    | (apply Wt.cond; exact rfl; all_goals (intro hg; (first | exact absurd hg (by decide) | skip); (first | (with_reducible replace hg := not_t hg) | (with_reducible replace hg := not_f hg) | skip); (first | (with_reducible replace hg := dec_t hg) | (with_reducible replace hg := dec_f hg) | skip); (first | (with_reducible exact absurd rfl hg) | skip); (repeat rw [List.length_map] at hg); try (exfalso; omega))))
      all_goals exact ActEnd.mk (.s (graphR (c.map (·.map (fitV c.length))))) [] rfl (by apply ResOk.g1; exact rfl; exact rfl; exact els_gE hG) rfl rfl .nil (.hds .nil)
end Go.Proofs.Ytfokjpmcifkoeaa
