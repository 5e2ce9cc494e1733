/- The walk of order.Topological. No condition. -/
import Derived.Test.YtfokjpmcifkoeaaOF
import Derived.Test.YtfokjpmcifkoeaaTopoQ
import Derived.Test.YtfokjpmcifkoeaaCT
namespace Go.Proofs.Ytfokjpmcifkoeaa
open Pv Go.RowKit Scc Heap
def frRow (N : G) (i k x : Nat) : List (List Value) := (intR (backP N i k x)).map ival
set_option maxRecDepth 100000 in
theorem nilsO (n : Nat) : List.replicate n [Value.slice none 0 0] = hds (List.replicate n NRow.nl) := by unfold hds; rw [List.map_replicate]; rfl
set_option maxRecDepth 100000 in
theorem nils_elsO (n : Nat) (f : Nat → List (List Value)) (hf : ∀ x, f x = []) : (List.replicate n NRow.nl).map (·.els) = (List.range n).map f := by
  rw [List.map_replicate]
  symm
  refine List.eq_replicate_iff.2 ⟨by simp, fun b hb => ?_⟩
  obtain ⟨x, _, rfl⟩ := List.mem_map.1 hb
  exact hf x
set_option maxRecDepth 100000 in
/-- The i-th of n rows. -/
theorem rowsO_at {rows : List NRow} {n : Nat} {f : Nat → List (List Value)} (h : rows.map (·.els) = (List.range n).map f) {i : Nat} (hi : i < n) : ∃ q, rows[i]? = some q ∧ q ∈ rows ∧ q.els = f i ∧ (hds rows)[i]? = some [q.hdr] := by
  have h1 : (rows.map (·.els))[i]? = some (f i) := by rw [h, List.getElem?_map, List.getElem?_range hi]; rfl
  rw [List.getElem?_map] at h1
  cases hq : rows[i]? with
  | none => rw [hq] at h1; cases h1
  | some q =>
    rw [hq] at h1
    injection h1 with h1
    exact ⟨q, rfl, List.mem_of_getElem? hq, h1, by unfold hds; rw [List.getElem?_map, hq]; rfl⟩
set_option maxRecDepth 100000 in
theorem rowsO_set {rows : List NRow} {n : Nat} {f f' : Nat → List (List Value)} (h : rows.map (·.els) = (List.range n).map f) {i : Nat} {q : NRow} (hf : ∀ x, x < n → x ≠ i → f' x = f x) (hq : q.els = f' i) : (rows.set i q).map (·.els) = (List.range n).map f' := by
  rw [List.map_set, h]
  refine List.ext_getElem? fun y => ?_
  rw [List.getElem?_set]
  by_cases hy : y < n
  · rw [List.getElem?_map, List.getElem?_map, List.getElem?_range hy]
    split
    · rename_i e; subst e; rw [if_pos (by simpa using hy), hq]; rfl
    · rename_i e; show some (f y) = some (f' y); rw [hf y hy fun e' => e e'.symm]
  · rw [List.getElem?_eq_none (l := (List.range n).map f') (by simp; omega)]
    split
    · rw [if_neg (by simp; omega)]
    · exact List.getElem?_eq_none (by simp; omega)
set_option maxRecDepth 100000 in
theorem hdsO_set (rows : List NRow) (i : Nat) (r : NRow) : (hds rows).set i [r.hdr] = hds (rows.set i r) := by unfold hds; rw [List.map_set]
/-- What is missing while the first i rows are looked at. -/
def seen (N : G) (i x : Nat) : Nat := if x < i then (N.getD x []).length else 0
set_option maxRecDepth 100000 in
theorem seen_all {N : G} : mrow N.length (seen N N.length) = mrow N.length (leftN N []) := mrow_congr fun x hx => by rw [seen, if_pos hx, left_nil]
set_option maxRecDepth 100000 in
theorem row_len {N : G} {B : Nat} (hr : ∀ r ∈ N, r.length < B) (j : Nat) : (N.getD j []).length ≤ B := by
  rw [List.getD_eq_getElem?_getD]
  cases hx : N[j]? with
  | none => exact Nat.zero_le _
  | some r => exact Nat.le_of_lt (hr r (List.mem_of_getElem? hx))
/-- The facts of the search for an order. -/
abbrev topF (B : Nat) (r1 r2 r7 : NRow) (rb : List NRow) : List (Nat × PV) :=
  [(2000000, .kept B (.cells #[r1.hdr] 54 (0, 0))), (2000001, .nest 1 1 [r1]), (2000002, .nest 2 1 [r2]), (2000003, .nest 5 1 [r7]), (2000004, .nest 6 1 rb)]
set_option maxHeartbeats 4000000 in
set_option maxRecDepth 100000 in
theorem ordTopo (N : G) (hN : GOk N) (hn : N.length ≤ 1000) (hr : ∀ r ∈ N, r.length < 1000) (h : loopsN N = []) : Pure Try.prog 18 [graph (intG N)] (.tup [intsR (intR (topo N)), .v (.int .i64 0)]) := by
  have c1 := sccLoops N hN (by omega) (fun r h => by have := hr r h; omega)
  rw [h] at c1
  have ha := acyc_of hN h
  have hgl : (gE (intG N)).length = N.length := by simp [gE, intG]
  have hz : (intR []).length = 0 := rfl
  have hrow := row_len hr
  clear h
  refine pure_of_wt Try.func18 rfl (by decide) _ Try.ntmps18 rfl Try.results18 fun w0 => ?_
  repeat' (first
    | (refine stopQ 6 ?_) | (apply RunK.indexN; exact rfl; exact rfl; exact rfl; (first | exact rfl | exact (rfl : (0 : Int) = ((0 : Nat) : Int)) | exact (rfl : (1 : Int) = ((1 : Nat) : Int)) | exact (rfl : (2 : Int) = ((2 : Nat) : Int)) | exact (rfl : (3 : Int) = ((3 : Nat) : Int)) | assumption); (first | omega | exact lt_of_get ‹_› | (rw [List.length_map]; omega) | (simp; omega))) | (apply RunK.loadNS; exact rfl; exact rfl; assumption; exact rfl) | (apply RunK.lenNs; exact rfl; exact rfl) | (apply RunK.moveNs; exact rfl; exact rfl) | (apply RunK.assignNs; exact rfl; exact rfl) | (apply RunK.callT; exact rfl; exact rfl; exact c1; (repeat (first | exact ArgsLe.nil | refine ArgsLe.cons ?_ ?_ | exact ArgLe.v _ | exact ArgLe.sl _ _ _ _ | exact ArgLe.nil _ | exact ArgLe.nil' | exact ArgLe.nsl _ _ _ _ _ | exact ArgLe.nsn _ | (apply ArgLe.bsl; exact rfl; (first | exact rfl | (rw [List.length_map]; done) | (simp only [List.length_map]; done) | (simp; done) | (simp; omega)); (first | assumption | exact map_len (fun _ => rfl))))); exact rfl)
    | refine Wt.seq ?_
    | (apply Wt.regionK; exact rfl)
    | refine Wt.skip ?_
    | refine RunK.nil ?_
    | (apply RunK.moveV; exact rfl; exact rfl)
    | (apply RunK.assignV; exact rfl; exact rfl)
    | (apply RunK.moveS; exact rfl; exact rfl)
    | (apply RunK.moveT; exact rfl; exact rfl)
    | (apply RunK.assignS; exact rfl; exact rfl)
    | (apply RunK.assignN; exact rfl; exact rfl)
    | (apply RunK.gtr; exact rfl; exact rfl; exact rfl)
    | (apply RunK.neq; exact rfl; exact rfl; exact rfl)
    | (apply RunK.len; exact rfl; exact rfl)
    | (apply RunK.extract; exact rfl; exact rfl; exact rfl)
    | (apply Wt.cond; exact rfl; all_goals (intro hg; (first | exact absurd hg (by decide) | skip); (first | (with_reducible replace hg := not_t hg) | (with_reducible replace hg := not_f hg) | skip); (first | (with_reducible replace hg := dec_t hg) | (with_reducible replace hg := dec_f hg) | skip); (first | (with_reducible exact absurd rfl hg) | skip); (repeat rw [List.length_map] at hg); try (exfalso; omega))))
  all_goals try (exfalso; omega)
  refine StoppedQ.mk' ?_
  refine Wt.le ⟨[(0, .s (graph (intG N)))], []⟩ (by (refine Le.mk ?_ ?_; (repeat' (first | exact LeEnv.done | refine LeEnv.cons ?_ ?_ | exact PVLe.refl _ | exact PVLe.s (SVLe.nil _ _ _) | exact PVLe.s (SVLe.no _ _ _ _) | (refine PVLe.int ?_; first | rfl | omega | (simp; done) | (simp; omega)) | (refine PVLe.els ?_; first | rfl | assumption | (simp; done)) | (refine PVLe.bool ?_; first | rfl | assumption) | (refine PVLe.bsl ?_; first | rfl | assumption | (simp; done))));  (repeat' (first | exact LeBox.done | refine LeBox.cons ?_ ?_ | exact rfl)))) ?_
  repeat' (first
    | (refine stopQ 8 ?_) | (apply RunK.indexN; exact rfl; exact rfl; exact rfl; (first | exact rfl | exact (rfl : (0 : Int) = ((0 : Nat) : Int)) | exact (rfl : (1 : Int) = ((1 : Nat) : Int)) | exact (rfl : (2 : Int) = ((2 : Nat) : Int)) | exact (rfl : (3 : Int) = ((3 : Nat) : Int)) | assumption); (first | omega | exact lt_of_get ‹_› | (rw [List.length_map]; omega) | (simp; omega))) | (apply RunK.loadNS; exact rfl; exact rfl; assumption; exact rfl) | (apply RunK.lenNs; exact rfl; exact rfl) | (apply RunK.moveNs; exact rfl; exact rfl) | (apply RunK.assignNs; exact rfl; exact rfl) | (apply RunK.makeSlE (n := N.length); exact rfl; exact rfl; exact rfl; exact (by simp); exact (by simp); exact (by omega); exact rfl)
    | refine Wt.seq ?_
    | (apply Wt.regionK; exact rfl)
    | refine RunK.nil ?_
    | (apply RunK.assignS; exact rfl; exact rfl))
  refine StoppedQ.mk' ?_
  rw [nilsO]
  refine Wt.le ⟨[(0, .s (graph (intG N))), (6, .s (.sl (some 31) (.front 3) 1 (List.replicate N.length [.int .i64 0]))), (7, .s (.sl (some 34) (.front 23) 1 (hds (List.replicate N.length NRow.nl))))], []⟩ (by (refine Le.mk ?_ ?_; (repeat' (first | exact LeEnv.done | refine LeEnv.cons ?_ ?_ | exact PVLe.refl _ | exact PVLe.s (SVLe.nil _ _ _) | exact PVLe.s (SVLe.no _ _ _ _) | (refine PVLe.int ?_; first | rfl | omega | (simp; done) | (simp; omega)) | (refine PVLe.els ?_; first | rfl | assumption | (simp; done)) | (refine PVLe.bool ?_; first | rfl | assumption) | (refine PVLe.bsl ?_; first | rfl | assumption | (simp; done))));  (repeat' (first | exact LeBox.done | refine LeBox.cons ?_ ?_ | exact rfl)))) ?_
  refine Wt.weak (Turns.nestNils 2000002 2 1 0) ?_
  refine Wt.weakS (Turns.pushN 6 2000002 rfl rfl rfl rfl) ?_
  rintro s1 ⟨r2, h21, h22, rfl⟩
  refine Wt.weak (Turns.nestNils 2000003 5 1 0) ?_
  refine Wt.weakS (Turns.pushN 7 2000003 rfl rfl rfl rfl) ?_
  rintro s1 ⟨r7, h71, h72, rfl⟩
  refine Wt.weak (Turns.nestNils 2000004 6 1 N.length) ?_
  refine Wt.le ⟨[(0, .s (graph (intG N))), (6, .s (.v r2.hdr)), (7, .s (.v r7.hdr)), (2000002, .nest 2 1 [r2]), (2000003, .nest 5 1 [r7]), (2000004, .nest 6 1 (List.replicate N.length NRow.nl))], []⟩ (by (refine Le.mk ?_ ?_; (repeat' (first | exact LeEnv.done | refine LeEnv.cons ?_ ?_ | exact PVLe.refl _ | exact PVLe.s (SVLe.nil _ _ _) | exact PVLe.s (SVLe.no _ _ _ _) | (refine PVLe.int ?_; first | rfl | omega | (simp; done) | (simp; omega)) | (refine PVLe.els ?_; first | rfl | assumption | (simp; done)) | (refine PVLe.bool ?_; first | rfl | assumption) | (refine PVLe.bsl ?_; first | rfl | assumption | (simp; done))));  (repeat' (first | exact LeBox.done | refine LeBox.cons ?_ ?_ | exact rfl)))) ?_
  repeat' (first
    | (refine stopQ 9 ?_) | (apply RunK.indexN; exact rfl; exact rfl; exact rfl; (first | exact rfl | exact (rfl : (0 : Int) = ((0 : Nat) : Int)) | exact (rfl : (1 : Int) = ((1 : Nat) : Int)) | exact (rfl : (2 : Int) = ((2 : Nat) : Int)) | exact (rfl : (3 : Int) = ((3 : Nat) : Int)) | assumption); (first | omega | exact lt_of_get ‹_› | (rw [List.length_map]; omega) | (simp; omega))) | (apply RunK.loadNS; exact rfl; exact rfl; assumption; exact rfl) | (apply RunK.lenNs; exact rfl; exact rfl) | (apply RunK.moveNs; exact rfl; exact rfl) | (apply RunK.assignNs; exact rfl; exact rfl)
    | (apply Wt.regionK; exact rfl)
    | (apply RunK.rows; exact rfl; exact rfl; (repeat (first | exact PartsOk.nil | (apply PartsOk.cons; exact rfl) | (apply PartsOk.consN; exact rfl))); (repeat (first | exact Rows.nil _ | (apply Rows.cons; (first | exact Cells.agg _ | exact Cells.int _ _ | exact Cells.bool _ | exact Cells.one _ rfl); exact rfl))); exact rfl; exact rfl))
  refine RunK.weakS (Turns.nestNils 2000001 1 1 0) ?_
  rintro s1 rfl
  refine RunK.weakS (Turns.pushN 35 2000001 rfl rfl rfl rfl) ?_
  rintro s1 ⟨r1, h11, h12, rfl⟩
  repeat' (first
    | (refine stopQ 9 ?_) | (apply RunK.boxK 2000000; exact rfl; exact rfl; intro B hBf)
    | refine Wt.seq ?_
    | refine RunK.nil ?_
    | (apply RunK.assignV; exact rfl; exact rfl))
  refine StoppedQ.mk' ?_
  obtain ⟨H6, hH6⟩ : ∃ H, r2.hdr = H := ⟨_, rfl⟩
  obtain ⟨H7, hH7⟩ : ∃ H, r7.hdr = H := ⟨_, rfl⟩
  have hR1 : RowL r1 [] := ⟨h11, by rw [h11]; exact Nat.zero_le _⟩
  have hR2 : RowL r2 (mrow N.length (seen N 0)) := by
    refine ⟨?_, ?_⟩
    · rw [h21, rep_int]
      congr 2
      symm
      refine List.eq_replicate_iff.2 ⟨mrow_len .., fun b hb => ?_⟩
      obtain ⟨x, _, rfl⟩ := List.mem_map.1 hb
      exact if_neg (Nat.not_lt_zero _)
    · rw [h21]; exact h22
  have hG : (List.replicate N.length NRow.nl).map (·.els) = (List.range N.length).map (frRow N 0 0) := nils_elsO _ _ fun x => by unfold frRow; rw [backP_zero]; rfl
  refine Wt.le ⟨(0, .s (graph (intG N))) :: (6, .s (.v H6)) :: (7, .s (.v H7)) :: (8, .s (.v (.pointer (some ⟨B, 0, none⟩)))) :: topF B r1 r2 r7 (List.replicate N.length NRow.nl), []⟩ (by rw [hH6, hH7]; (refine Le.mk ?_ ?_; (repeat' (first | exact LeEnv.done | refine LeEnv.cons ?_ ?_ | exact PVLe.refl _ | exact PVLe.s (SVLe.nil _ _ _) | exact PVLe.s (SVLe.no _ _ _ _) | (refine PVLe.int ?_; first | rfl | omega | (simp; done) | (simp; omega)) | (refine PVLe.els ?_; first | rfl | assumption | (simp; done)) | (refine PVLe.bool ?_; first | rfl | assumption) | (refine PVLe.bsl ?_; first | rfl | assumption | (simp; done))));  (repeat' (first | exact LeBox.done | refine LeBox.cons ?_ ?_ | exact rfl)))) ?_
  repeat' (first
    | (apply RunK.indexN; exact rfl; exact rfl; exact rfl; (first | exact rfl | exact (rfl : (0 : Int) = ((0 : Nat) : Int)) | exact (rfl : (1 : Int) = ((1 : Nat) : Int)) | exact (rfl : (2 : Int) = ((2 : Nat) : Int)) | exact (rfl : (3 : Int) = ((3 : Nat) : Int)) | assumption); (first | omega | exact lt_of_get ‹_› | (rw [List.length_map]; omega) | (simp; omega))) | (apply RunK.loadNS; exact rfl; exact rfl; assumption; exact rfl) | (apply RunK.lenNs; exact rfl; exact rfl) | (apply RunK.moveNs; exact rfl; exact rfl) | (apply RunK.assignNs; exact rfl; exact rfl)
    | (apply Wt.regionK; exact rfl)
    | refine Wt.block ?_
    | refine RunK.nil ?_
    | (apply RunK.moveV; exact rfl; exact rfl))
  refine Wt.loop (fun s : Nat × (NRow × NRow × NRow × List NRow) × List Nat => ⟨(37, .s (graph (intG N))) :: (38, .s (.v (.int .i64 N.length))) :: (39, .s (.v (.int .i64 s.1))) :: (6, .s (.v H6)) :: (7, .s (.v H7)) :: (8, .s (.v (.pointer (some ⟨B, 0, none⟩)))) :: topF B s.2.1.1 s.2.1.2.1 s.2.1.2.2.1 s.2.1.2.2.2, []⟩) (fun s => s.1 ≤ N.length ∧ RowL s.2.1.1 s.2.2 ∧ Hp s.2.2 s.2.2.length ∧ Rdy0 N s.1 s.2.2 ∧ s.2.1.2.1.hdr = H6 ∧ RowL s.2.1.2.1 (mrow N.length (seen N s.1)) ∧ s.2.1.2.2.1.hdr = H7 ∧ s.2.1.2.2.1.els = hds s.2.1.2.2.2 ∧ s.2.1.2.2.2.map (·.els) = (List.range N.length).map (frRow N s.1 0)) (fun s => N.length - s.1) (0, (r1, r2, r7, List.replicate N.length NRow.nl), []) ⟨Nat.zero_le _, hR1, fun k _ h => absurd h (Nat.not_lt_zero _), rdy0_nil N, hH6, hR2, hH7, h71, hG⟩ ?_ ?_
  · rw [← hgl]; (refine Le.mk ?_ ?_; (repeat' (first | exact LeEnv.done | refine LeEnv.cons ?_ ?_ | exact PVLe.refl _ | exact PVLe.s (SVLe.nil _ _ _) | exact PVLe.s (SVLe.no _ _ _ _) | (refine PVLe.int ?_; first | rfl | omega | (simp; done) | (simp; omega)) | (refine PVLe.els ?_; first | rfl | assumption | (simp; done)) | (refine PVLe.bool ?_; first | rfl | assumption) | (refine PVLe.bsl ?_; first | rfl | assumption | (simp; done))));  (repeat' (first | exact LeBox.done | refine LeBox.cons ?_ ?_ | exact rfl)))
  · clear hR1 hR2 hG hH6 hH7 h11 h12 h21 h22 h71 h72 hBf r1 r2 r7
    rintro ⟨i, ⟨r1, r2, r7, rb⟩, L⟩ ⟨hi, hR1, hH, hRd, hH6, hR2, hH7, h71, hG⟩
    dsimp only at hi hR1 hH hRd hH6 hR2 hH7 h71 hG ⊢
    by_cases hlt : i < N.length
    · obtain ⟨r, hri⟩ := exists_at hlt
      have hgx := gE_at (intG_at hri)
      have hgd := getD_of hri (d := [])
      have hrl := hr r (List.mem_of_getElem? hri)
      have hil : (intR r).length = r.length := by simp [intR]
      have hil2 : ((intR r).map ival).length = r.length := by simp [intR]
      have h2m : r2 ∈ [r2] := List.mem_singleton.2 rfl
      have hs2 := hR2.at_ (i := i) (by rw [mrow_len]; exact hlt)
      rw [← hH6]
      repeat' (first
    | (refine stopQ 13 ?_) | (apply RunK.indexN; exact rfl; exact rfl; exact rfl; (first | exact rfl | exact (rfl : (0 : Int) = ((0 : Nat) : Int)) | exact (rfl : (1 : Int) = ((1 : Nat) : Int)) | exact (rfl : (2 : Int) = ((2 : Nat) : Int)) | exact (rfl : (3 : Int) = ((3 : Nat) : Int)) | assumption); (first | omega | exact lt_of_get ‹_› | (rw [List.length_map]; omega) | (simp; omega))) | (apply RunK.loadNS; exact rfl; exact rfl; assumption; exact rfl) | (apply RunK.lenNs; exact rfl; exact rfl) | (apply RunK.moveNs; exact rfl; exact rfl) | (apply RunK.assignNs; exact rfl; exact rfl) | (apply RunK.idxN 2000002; exact rfl; exact rfl; exact rfl; exact rfl; exact rfl; exact rfl; assumption; assumption) | (apply RunK.storeRN 2000002 (i := 0) (j := i) (r := r2); (case hw => exact rfl); (case hx => exact rfl); (case hy => exact rfl); (case hk => exact rfl); (case hi => exact rfl); (case hj => exact hs2); (case hc => exact rfl); (case ho => exact rfl); (case hn => exact rfl); (case hh => exact rfl))
    | refine Wt.seq ?_
    | (apply Wt.regionK; exact rfl)
    | refine Wt.block ?_
    | refine Wt.skip ?_
    | refine RunK.nil ?_
    | (apply RunK.moveV; exact rfl; exact rfl)
    | (apply RunK.assignV; exact rfl; exact rfl)
    | (apply RunK.moveS; exact rfl; exact rfl)
    | (apply RunK.assignS; exact rfl; exact rfl)
    | (apply RunK.lss; exact rfl; exact rfl; exact rfl)
    | (apply RunK.len; exact rfl; exact rfl)
    | (apply Wt.cond; exact rfl; all_goals (intro hg; (first | exact absurd hg (by decide) | skip); (first | (with_reducible replace hg := not_t hg) | (with_reducible replace hg := not_f hg) | skip); (first | (with_reducible replace hg := dec_t hg) | (with_reducible replace hg := dec_f hg) | skip); (first | (with_reducible exact absurd rfl hg) | skip); (repeat rw [List.length_map] at hg); try (exfalso; omega))))
      refine StoppedQ.mk' ?_
      obtain ⟨r2b, e2b, hR2b, hhb⟩ : ∃ r2b : NRow, r2b = r2.put i (.int .i64 (r.length : Int)) ∧ RowL r2b (mrow N.length (seen N (i + 1))) ∧ r2b.hdr = r2.hdr := by
        refine ⟨_, rfl, ⟨?_, ?_⟩, hdr_put ..⟩
        · have hms : (mrow N.length (seen N i)).set i r.length = mrow N.length (seen N (i + 1)) := mrow_set (by rw [seen, if_pos (by omega), hgd]) fun x _ hne => by
            unfold seen
            by_cases h1 : x < i
            · rw [if_pos h1, if_pos (by omega)]
            · rw [if_neg h1, if_neg (by omega)]
          show r2.els.set i _ = _
          rw [hR2.1, ← hms]
          simp [intR, ival, List.map_set]
        · show (r2.els.set i _).length ≤ r2.cap
          rw [List.length_set]; exact hR2.2
      refine Wt.le ⟨(37, .s (graph (intG N))) :: (38, .s (.v (.int .i64 N.length))) :: (39, .s (.v (.int .i64 i))) :: (9, .s (.v (.int .i64 i))) :: (10, .s (.sl none .no 1 ((intR r).map ival))) :: (6, .s (.v r2.hdr)) :: (7, .s (.v H7)) :: (8, .s (.v (.pointer (some ⟨B, 0, none⟩)))) :: topF B r1 r2b r7 rb, []⟩ (by rw [e2b, ← hil2]; (refine Le.mk ?_ ?_; (repeat' (first | exact LeEnv.done | refine LeEnv.cons ?_ ?_ | exact PVLe.refl _ | exact PVLe.s (SVLe.nil _ _ _) | exact PVLe.s (SVLe.no _ _ _ _) | (refine PVLe.int ?_; first | rfl | omega | (simp; done) | (simp; omega)) | (refine PVLe.els ?_; first | rfl | assumption | (simp; done)) | (refine PVLe.bool ?_; first | rfl | assumption) | (refine PVLe.bsl ?_; first | rfl | assumption | (simp; done))));  (repeat' (first | exact LeBox.done | refine LeBox.cons ?_ ?_ | exact rfl)))) ?_
      rw [hH6]
      rw [hH6] at hhb
      clear hR2 hs2 h2m hH6 e2b
      repeat' (first
    | (apply RunK.indexN; exact rfl; exact rfl; exact rfl; (first | exact rfl | exact (rfl : (0 : Int) = ((0 : Nat) : Int)) | exact (rfl : (1 : Int) = ((1 : Nat) : Int)) | exact (rfl : (2 : Int) = ((2 : Nat) : Int)) | exact (rfl : (3 : Int) = ((3 : Nat) : Int)) | assumption); (first | omega | exact lt_of_get ‹_› | (rw [List.length_map]; omega) | (simp; omega))) | (apply RunK.loadNS; exact rfl; exact rfl; assumption; exact rfl) | (apply RunK.lenNs; exact rfl; exact rfl) | (apply RunK.moveNs; exact rfl; exact rfl) | (apply RunK.assignNs; exact rfl; exact rfl)
    | (apply Wt.regionK; exact rfl)
    | refine Wt.block ?_
    | refine RunK.nil ?_
    | (apply RunK.moveV; exact rfl; exact rfl)
    | (apply RunK.moveS; exact rfl; exact rfl)
    | (apply RunK.len; exact rfl; exact rfl))
      refine Wt.loop (fun s : Nat × NRow × List NRow => ⟨(49, .s (.sl none .no 1 ((intR r).map ival))) :: (50, .s (.v (.int .i64 r.length))) :: (51, .s (.v (.int .i64 s.1))) :: (37, .s (graph (intG N))) :: (38, .s (.v (.int .i64 N.length))) :: (39, .s (.v (.int .i64 i))) :: (9, .s (.v (.int .i64 i))) :: (10, .s (.sl none .no 1 ((intR r).map ival))) :: (6, .s (.v H6)) :: (7, .s (.v H7)) :: (8, .s (.v (.pointer (some ⟨B, 0, none⟩)))) :: topF B r1 r2b s.2.1 s.2.2, []⟩) (fun s => s.1 ≤ r.length ∧ s.2.1.hdr = H7 ∧ s.2.1.els = hds s.2.2 ∧ s.2.2.map (·.els) = (List.range N.length).map (frRow N i s.1)) (fun s => r.length - s.1) (0, r7, rb) ⟨Nat.zero_le _, hH7, h71, hG⟩ ?_ ?_
      · rw [← hil]; (refine Le.mk ?_ ?_; (repeat' (first | exact LeEnv.done | refine LeEnv.cons ?_ ?_ | exact PVLe.refl _ | exact PVLe.s (SVLe.nil _ _ _) | exact PVLe.s (SVLe.no _ _ _ _) | (refine PVLe.int ?_; first | rfl | omega | (simp; done) | (simp; omega)) | (refine PVLe.els ?_; first | rfl | assumption | (simp; done)) | (refine PVLe.bool ?_; first | rfl | assumption) | (refine PVLe.bsl ?_; first | rfl | assumption | (simp; done))));  (repeat' (first | exact LeBox.done | refine LeBox.cons ?_ ?_ | exact rfl)))
      · clear hH7 h71 hG r7 rb
        rintro ⟨k, r7, rb⟩ ⟨hk, hH7, h71, hG⟩
        dsimp only at hk hH7 h71 hG ⊢
        by_cases hkt : k < r.length
        · obtain ⟨x, hxk⟩ := exists_at hkt
          have hxn : x < N.length := hN _ _ (edge_of hri hxk)
          have hx2 := int_get hxk
          obtain ⟨q, hqa, hqm, hqe, hqh⟩ := rowsO_at hG hxn
          rw [← h71] at hqh
          have h7m : r7 ∈ [r7] := List.mem_singleton.2 rfl
          have hql : q.els.length ≤ 2000000 := by
            have := backP_len hrow i k x
            have h2 : (i + 1) * 1000 ≤ 1000 * 1000 := Nat.mul_le_mul_right _ (by omega)
            rw [hqe]; unfold frRow; rw [List.length_map, intR, List.length_map]; omega
          rw [← hH7]
          repeat' (first
    | (apply RunK.indexN; exact rfl; exact rfl; exact rfl; (first | exact rfl | exact (rfl : (0 : Int) = ((0 : Nat) : Int)) | exact (rfl : (1 : Int) = ((1 : Nat) : Int)) | exact (rfl : (2 : Int) = ((2 : Nat) : Int)) | exact (rfl : (3 : Int) = ((3 : Nat) : Int)) | assumption); (first | omega | exact lt_of_get ‹_› | (rw [List.length_map]; omega) | (simp; omega))) | (apply RunK.loadNS; exact rfl; exact rfl; assumption; exact rfl) | (apply RunK.lenNs; exact rfl; exact rfl) | (apply RunK.moveNs; exact rfl; exact rfl) | (apply RunK.assignNs; exact rfl; exact rfl) | (apply RunK.idxN 2000003; exact rfl; exact rfl; exact rfl; exact rfl; exact rfl; exact rfl; assumption; assumption) | (apply RunK.loadRN 2000003; exact rfl; exact rfl; exact rfl; exact rfl; assumption; assumption) | (apply RunK.appendRN 2000004 900001 (i := x); (case hw => exact rfl); (case he => (first | exact (fun _ => rfl) | exact (fun h => nomatch h))); (case hx => exact rfl); (case htx => exact rfl); (case hk => exact rfl); (case hi => exact hqa); (case hh => exact rfl); (case hn => exact rfl); (case hnt => exact rfl); (case hd0 => exact rfl); (case hdx => exact rfl); (case hy => (first | exact ReadLe.sl _ _ _ _ | exact ReadLe.nil _)); (case hone => exact one_rows rfl); (case hb => (simp only [List.length_cons, List.length_nil]; omega)); intro ra hra hrc) | (apply RunK.storeRN 2000003 (i := 0) (j := x) (r := r7); (case hw => exact rfl); (case hx => exact rfl); (case hy => exact rfl); (case hk => exact rfl); (case hi => exact rfl); (case hj => exact hqh); (case hc => exact rfl); (case ho => exact NRow.hdr_one _); (case hn => exact rfl); (case hh => exact rfl))
    | refine Wt.seq ?_
    | (apply Wt.regionK; exact rfl)
    | refine Wt.block ?_
    | refine Wt.skip ?_
    | refine RunK.nil ?_
    | (apply RunK.moveV; exact rfl; exact rfl)
    | (apply RunK.index; exact rfl; exact rfl; exact rfl; (first | exact rfl | exact (rfl : (0 : Int) = ((0 : Nat) : Int)) | exact (rfl : (1 : Int) = ((1 : Nat) : Int)) | exact (rfl : (2 : Int) = ((2 : Nat) : Int)) | exact (rfl : (3 : Int) = ((3 : Nat) : Int)) | assumption); (first | omega | exact lt_of_get ‹_› | (rw [List.length_map]; omega) | (simp; omega)))
    | (apply RunK.loadE1; exact rfl; exact rfl; assumption; exact rfl)
    | (apply RunK.assignV; exact rfl; exact rfl)
    | (apply RunK.lss; exact rfl; exact rfl; exact rfl)
    | (apply RunK.add; exact rfl; exact rfl; exact rfl; (first | omega | (simp only [List.length_map]; omega)))
    | (apply RunK.rows; exact rfl; exact rfl; (repeat (first | exact PartsOk.nil | (apply PartsOk.cons; exact rfl) | (apply PartsOk.consN; exact rfl))); (repeat (first | exact Rows.nil _ | (apply Rows.cons; (first | exact Cells.agg _ | exact Cells.int _ _ | exact Cells.bool _ | exact Cells.one _ rfl); exact rfl))); exact rfl; exact rfl)
    | (apply Wt.cond; exact rfl; all_goals (intro hg; (first | exact absurd hg (by decide) | skip); (first | (with_reducible replace hg := not_t hg) | (with_reducible replace hg := not_f hg) | skip); (first | (with_reducible replace hg := dec_t hg) | (with_reducible replace hg := dec_f hg) | skip); (first | (with_reducible exact absurd rfl hg) | skip); (repeat rw [List.length_map] at hg); try (exfalso; omega))))
          refine ⟨(k + 1, r7.put x ra.hdr, rb.set x ra), ⟨hkt, hdr_put .., ?_, ?_⟩, by dsimp only; omega, ?_⟩
          · show r7.els.set x _ = _
            rw [h71, hdsO_set]
          · refine rowsO_set hG (fun z hz hne => ?_) ?_
            · unfold frRow; rw [backP_next (by rw [hgd]; exact hxk), if_neg hne]
            · unfold frRow; rw [backP_next (by rw [hgd]; exact hxk), if_pos rfl, hra, hqe]; simp [frRow, intR, ival]
          · dsimp only
            (refine Le.mk ?_ ?_; (repeat' (first | exact LeEnv.done | refine LeEnv.cons ?_ ?_ | exact PVLe.refl _ | exact PVLe.s (SVLe.nil _ _ _) | exact PVLe.s (SVLe.no _ _ _ _) | (refine PVLe.int ?_; first | rfl | omega | (simp; done) | (simp; omega)) | (refine PVLe.els ?_; first | rfl | assumption | (simp; done)) | (refine PVLe.bool ?_; first | rfl | assumption) | (refine PVLe.bsl ?_; first | rfl | assumption | (simp; done))));  (repeat' (first | exact LeBox.done | refine LeBox.cons ?_ ?_ | exact rfl)))
        · obtain rfl : k = r.length := by omega
          have hc2 := hPush B r1 L i hR1 (by have := hRd.len; omega) hH
          have hG2 : rb.map (·.els) = (List.range N.length).map (frRow N (i + 1) 0) := by rw [hG]; refine List.map_congr_left fun z _ => ?_; unfold frRow; rw [← hgd, backP_row]
          repeat' (first
    | (apply RunK.indexN; exact rfl; exact rfl; exact rfl; (first | exact rfl | exact (rfl : (0 : Int) = ((0 : Nat) : Int)) | exact (rfl : (1 : Int) = ((1 : Nat) : Int)) | exact (rfl : (2 : Int) = ((2 : Nat) : Int)) | exact (rfl : (3 : Int) = ((3 : Nat) : Int)) | assumption); (first | omega | exact lt_of_get ‹_› | (rw [List.length_map]; omega) | (simp; omega))) | (apply RunK.loadNS; exact rfl; exact rfl; assumption; exact rfl) | (apply RunK.lenNs; exact rfl; exact rfl) | (apply RunK.moveNs; exact rfl; exact rfl) | (apply RunK.assignNs; exact rfl; exact rfl) | (apply RunK.actF [2000000, 2000001] 900001 hc2; (case hw => exact rfl); (case he => exact fun h => nomatch h); (case hx => exact rfl); (case ha => (repeat (first | exact ArgsLe.nil | refine ArgsLe.cons ?_ ?_ | exact ArgLe.v _ | exact ArgLe.sl _ _ _ _ | exact ArgLe.nil _ | exact ArgLe.nil' | exact ArgLe.nsl _ _ _ _ _ | exact ArgLe.nsn _ | (apply ArgLe.bsl; exact rfl; (first | exact rfl | (rw [List.length_map]; done) | (simp only [List.length_map]; done) | (simp; done) | (simp; omega)); (first | assumption | exact map_len (fun _ => rfl)))))); (case hf => exact .kept 2000000 rfl rfl (.nest 2000001 rfl rfl rfl .nil)); (case hap => (repeat' (first | exact trivial | refine And.intro ?_ ?_))); (case hng => exact rfl); intro res fs' hres hkb; clear hkb; obtain ⟨rfl, r1', L', k1, k2, k3, rfl⟩ := hres) | (apply RunK.mkIface; exact rfl; exact rfl; kernel_rfl)
    | refine Wt.seq ?_
    | (apply Wt.regionK; exact rfl)
    | refine Wt.skip ?_
    | refine Wt.exit ?_
    | refine RunK.nil ?_
    | (apply RunK.moveV; exact rfl; exact rfl)
    | (apply RunK.moveS; exact rfl; exact rfl)
    | (apply RunK.lss; exact rfl; exact rfl; exact rfl)
    | (apply RunK.eql; exact rfl; exact rfl; exact rfl)
    | (apply RunK.add; exact rfl; exact rfl; exact rfl; (first | omega | (simp only [List.length_map]; omega)))
    | (apply RunK.len; exact rfl; exact rfl)
    | (apply Wt.cond; exact rfl; all_goals (intro hg; (first | exact absurd hg (by decide) | skip); (first | (with_reducible replace hg := not_t hg) | (with_reducible replace hg := not_f hg) | skip); (first | (with_reducible replace hg := dec_t hg) | (with_reducible replace hg := dec_f hg) | skip); (first | (with_reducible exact absurd rfl hg) | skip); (repeat rw [List.length_map] at hg); try (exfalso; omega))))
          · refine ⟨(i + 1, (r1', r2b, r7, rb), L'), ⟨hlt, k1, k3, rdy0_push hRd (by rw [hgd]; omega) k2, hhb, hR2b, hH7, h71, hG2⟩, by dsimp only; omega, ?_⟩
            dsimp only
            (refine Le.mk ?_ ?_; (repeat' (first | exact LeEnv.done | refine LeEnv.cons ?_ ?_ | exact PVLe.refl _ | exact PVLe.s (SVLe.nil _ _ _) | exact PVLe.s (SVLe.no _ _ _ _) | (refine PVLe.int ?_; first | rfl | omega | (simp; done) | (simp; omega)) | (refine PVLe.els ?_; first | rfl | assumption | (simp; done)) | (refine PVLe.bool ?_; first | rfl | assumption) | (refine PVLe.bsl ?_; first | rfl | assumption | (simp; done))));  (repeat' (first | exact LeBox.done | refine LeBox.cons ?_ ?_ | exact rfl)))
          · refine ⟨(i + 1, (r1, r2b, r7, rb), L), ⟨hlt, hR1, hH, rdy0_skip hRd (by rw [hgd]; omega), hhb, hR2b, hH7, h71, hG2⟩, by dsimp only; omega, ?_⟩
            dsimp only
            (refine Le.mk ?_ ?_; (repeat' (first | exact LeEnv.done | refine LeEnv.cons ?_ ?_ | exact PVLe.refl _ | exact PVLe.s (SVLe.nil _ _ _) | exact PVLe.s (SVLe.no _ _ _ _) | (refine PVLe.int ?_; first | rfl | omega | (simp; done) | (simp; omega)) | (refine PVLe.els ?_; first | rfl | assumption | (simp; done)) | (refine PVLe.bool ?_; first | rfl | assumption) | (refine PVLe.bsl ?_; first | rfl | assumption | (simp; done))));  (repeat' (first | exact LeBox.done | refine LeBox.cons ?_ ?_ | exact rfl)))
    · obtain rfl : i = N.length := by omega
      have hRy := rdy_start hRd
      rw [seen_all] at hR2
      clear hRd
      repeat' (first
    | (apply RunK.indexN; exact rfl; exact rfl; exact rfl; (first | exact rfl | exact (rfl : (0 : Int) = ((0 : Nat) : Int)) | exact (rfl : (1 : Int) = ((1 : Nat) : Int)) | exact (rfl : (2 : Int) = ((2 : Nat) : Int)) | exact (rfl : (3 : Int) = ((3 : Nat) : Int)) | assumption); (first | omega | exact lt_of_get ‹_› | (rw [List.length_map]; omega) | (simp; omega))) | (apply RunK.loadNS; exact rfl; exact rfl; assumption; exact rfl) | (apply RunK.lenNs; exact rfl; exact rfl) | (apply RunK.moveNs; exact rfl; exact rfl) | (apply RunK.assignNs; exact rfl; exact rfl)
    | refine Wt.seq ?_
    | (apply Wt.regionK; exact rfl)
    | refine Wt.block ?_
    | refine Wt.exit ?_
    | refine RunK.nil ?_
    | (apply RunK.assignV; exact rfl; exact rfl)
    | (apply RunK.assignN; exact rfl; exact rfl)
    | (apply RunK.lss; exact rfl; exact rfl; exact rfl)
    | (apply Wt.cond; exact rfl; all_goals (intro hg; (first | exact absurd hg (by decide) | skip); (first | (with_reducible replace hg := not_t hg) | (with_reducible replace hg := not_f hg) | skip); (first | (with_reducible replace hg := dec_t hg) | (with_reducible replace hg := dec_f hg) | skip); (first | (with_reducible exact absurd rfl hg) | skip); (repeat rw [List.length_map] at hg); try (exfalso; omega))))
      refine Wt.loop (fun s : Nat × (NRow × NRow) × List Nat => ⟨(6, .s (.v H6)) :: (7, .s (.v H7)) :: (8, .s (.v (.pointer (some ⟨B, 0, none⟩)))) :: (13, .s (.v (.func (.func 44) #[] #[]))) :: (14, .s (.sl (some 0) (.front 3) 1 ((intR (topoN N s.1)).map ival))) :: topF B s.2.1.1 s.2.1.2 r7 rb, []⟩) (fun s => s.1 ≤ N.length ∧ RowL s.2.1.1 s.2.2 ∧ Hp s.2.2 s.2.2.length ∧ Rdy N (topoN N s.1) (leftN N (topoN N s.1)) s.2.2 ∧ s.2.1.2.hdr = H6 ∧ RowL s.2.1.2 (mrow N.length (leftN N (topoN N s.1)))) (fun s => N.length - s.1) (0, (r1, r2), L) ⟨Nat.zero_le _, hR1, hH, hRy, hH6, hR2⟩ ?_ ?_
      · (refine Le.mk ?_ ?_; (repeat' (first | exact LeEnv.done | refine LeEnv.cons ?_ ?_ | exact PVLe.refl _ | exact PVLe.s (SVLe.nil _ _ _) | exact PVLe.s (SVLe.no _ _ _ _) | (refine PVLe.int ?_; first | rfl | omega | (simp; done) | (simp; omega)) | (refine PVLe.els ?_; first | rfl | assumption | (simp; done)) | (refine PVLe.bool ?_; first | rfl | assumption) | (refine PVLe.bsl ?_; first | rfl | assumption | (simp; done))));  (repeat' (first | exact LeBox.done | refine LeBox.cons ?_ ?_ | exact rfl)))
      · clear hR1 hH hRy hH6 hR2 r1 r2 L
        rintro ⟨m, ⟨r1, r2⟩, L⟩ ⟨hm, hR1, hH, hRy, hH6, hR2⟩
        dsimp only at hm hR1 hH hRy hH6 hR2 ⊢
        have hc3 := nLen r1 L hR1
        by_cases hL0 : 0 < L.length
        · have hLn := hRy.len
          have hc4 := hPop B r1 L hR1 (by omega) hL0 hH
          repeat' (first
    | (refine stopQ 25 ?_) | (apply RunK.loadP 2000000; exact rfl; exact rfl; exact rfl; exact rfl; first | exact rfl | assumption) | (apply RunK.nilCheckP; exact rfl; exact rfl) | (apply RunK.actF [] 900004 hc3; (case hw => exact rfl); (case he => exact fun h => nomatch h); (case hx => exact rfl); (case ha => (repeat (first | exact ArgsLe.nil | refine ArgsLe.cons ?_ ?_ | exact ArgLe.v _ | exact ArgLe.sl _ _ _ _ | exact ArgLe.nil _ | exact ArgLe.nil' | exact ArgLe.nsl _ _ _ _ _ | exact ArgLe.nsn _ | (apply ArgLe.bsl; exact rfl; (first | exact rfl | (rw [List.length_map]; done) | (simp only [List.length_map]; done) | (simp; done) | (simp; omega)); (first | assumption | exact map_len (fun _ => rfl)))))); (case hf => exact .nil); (case hap => exact ApartE.nil _); (case hng => exact noNest_nil _); intro res fs' hres hkb; clear hkb; obtain ⟨rfl, rfl⟩ := hres) | (apply RunK.actF [2000000, 2000001] 900001 hc4; (case hw => exact rfl); (case he => exact fun h => nomatch h); (case hx => exact rfl); (case ha => (repeat (first | exact ArgsLe.nil | refine ArgsLe.cons ?_ ?_ | exact ArgLe.v _ | exact ArgLe.sl _ _ _ _ | exact ArgLe.nil _ | exact ArgLe.nil' | exact ArgLe.nsl _ _ _ _ _ | exact ArgLe.nsn _ | (apply ArgLe.bsl; exact rfl; (first | exact rfl | (rw [List.length_map]; done) | (simp only [List.length_map]; done) | (simp; done) | (simp; omega)); (first | assumption | exact map_len (fun _ => rfl)))))); (case hf => exact .kept 2000000 rfl rfl (.nest 2000001 rfl rfl rfl .nil)); (case hap => (repeat' (first | exact trivial | refine And.intro ?_ ?_))); (case hng => exact rfl); intro res fs' hres hkb; clear hkb; obtain ⟨rfl, r1b, L1, k1, k2, k3, rfl⟩ := hres) | (apply RunK.mkIface; exact rfl; exact rfl; kernel_rfl) | (apply RunK.assertK; exact rfl; exact rfl; kernel_rfl)
    | refine Wt.seq ?_
    | (apply Wt.regionK; exact rfl)
    | refine Wt.block ?_
    | refine Wt.skip ?_
    | refine RunK.nil ?_
    | (apply RunK.moveV; exact rfl; exact rfl)
    | (apply RunK.assignV; exact rfl; exact rfl)
    | (apply RunK.gtr; exact rfl; exact rfl; exact rfl)
    | (apply Wt.cond; exact rfl; all_goals (intro hg; (first | exact absurd hg (by decide) | skip); (first | (with_reducible replace hg := not_t hg) | (with_reducible replace hg := not_f hg) | skip); (first | (with_reducible replace hg := dec_t hg) | (with_reducible replace hg := dec_f hg) | skip); (first | (with_reducible exact absurd rfl hg) | skip); (repeat rw [List.length_map] at hg); try (exfalso; omega))))
          all_goals try (exfalso; omega)
          refine StoppedQ.mk' ?_
          obtain ⟨hml, hin, hit, hiz, hTn, hRy1⟩ := rdy_pop hN ha hm hRy hL0 hH k2
          generalize hie : at0 L 0 = i at *
          refine Wt.le ⟨(15, .s (.v (.int .i64 (i : Int)))) :: (6, .s (.v H6)) :: (7, .s (.v H7)) :: (8, .s (.v (.pointer (some ⟨B, 0, none⟩)))) :: (13, .s (.v (.func (.func 44) #[] #[]))) :: (14, .s (.sl (some 0) (.front 3) 1 ((intR (topoN N m)).map ival))) :: topF B r1b r2 r7 rb, []⟩ (by (refine Le.mk ?_ ?_; (repeat' (first | exact LeEnv.done | refine LeEnv.cons ?_ ?_ | exact PVLe.refl _ | exact PVLe.s (SVLe.nil _ _ _) | exact PVLe.s (SVLe.no _ _ _ _) | (refine PVLe.int ?_; first | rfl | omega | (simp; done) | (simp; omega)) | (refine PVLe.els ?_; first | rfl | assumption | (simp; done)) | (refine PVLe.bool ?_; first | rfl | assumption) | (refine PVLe.bsl ?_; first | rfl | assumption | (simp; done))));  (repeat' (first | exact LeBox.done | refine LeBox.cons ?_ ?_ | exact rfl)))) ?_
          clear hg hc3 hc4 hR1 hH hRy hL0 hLn hie k2 r1 L
          obtain ⟨q, hqa, hqm, hqe, hqh⟩ := rowsO_at hG hin
          rw [← h71] at hqh
          have h7m : r7 ∈ [r7] := List.mem_singleton.2 rfl
          have hqe : q.els = (intR (bk N i)).map ival := hqe
          have hql : q.els.length = (bk N i).length := by rw [hqe]; simp [intR]
          have hbkl : (bk N i).length ≤ 2000000 := by
            have := backP_len hrow N.length 0 i
            have h2 : (N.length + 1) * 1000 ≤ 1001 * 1000 := Nat.mul_le_mul_right _ (by omega)
            unfold bk; omega
          have htl := (topo_ord hN ha m hm).2
          have hil : (intR (topoN N m)).length = m := by rw [intR, List.length_map]; exact htl
          have hbn := fun j k h => bk_notin hN ha hml hit hiz hTn (j := j) (k := k) h
          have hsn : (intR (topoN N (m + 1))).map ival = (intR (topoN N m)).map ival ++ [[.int .i64 (i : Int)]] := by rw [hTn]; simp [intR, ival]
          have hend := fun x hx => miss_end (g := N) (T := topoN N m) (i := i) (x := x) hit hx
          rw [← hTn] at hend
          rw [← hH7]
          repeat' (first
    | (refine stopQ 27 ?_) | (apply RunK.indexN; exact rfl; exact rfl; exact rfl; (first | exact rfl | exact (rfl : (0 : Int) = ((0 : Nat) : Int)) | exact (rfl : (1 : Int) = ((1 : Nat) : Int)) | exact (rfl : (2 : Int) = ((2 : Nat) : Int)) | exact (rfl : (3 : Int) = ((3 : Nat) : Int)) | assumption); (first | omega | exact lt_of_get ‹_› | (rw [List.length_map]; omega) | (simp; omega))) | (apply RunK.loadNS; exact rfl; exact rfl; assumption; exact rfl) | (apply RunK.lenNs; exact rfl; exact rfl) | (apply RunK.moveNs; exact rfl; exact rfl) | (apply RunK.assignNs; exact rfl; exact rfl) | (apply RunK.lenK; exact rfl; exact rfl) | (apply RunK.idxN 2000003; exact rfl; exact rfl; exact rfl; exact rfl; exact rfl; exact rfl; assumption; assumption) | (apply RunK.loadRN 2000003; exact rfl; exact rfl; exact rfl; exact rfl; assumption; assumption) | (apply RunK.append; exact rfl; exact rfl; exact rfl; (first | exact ReadLe.sl _ _ _ _ | exact ReadLe.nil _); exact rfl; (first | exact one_rows rfl | exact one_map (fun _ => rfl) _); (simp only [List.length_map, List.length_cons, List.length_nil]; omega))
    | refine Wt.seq ?_
    | (apply Wt.regionK; exact rfl)
    | refine Wt.block ?_
    | refine RunK.nil ?_
    | (apply RunK.moveV; exact rfl; exact rfl)
    | (apply RunK.moveS; exact rfl; exact rfl)
    | (apply RunK.assignS; exact rfl; exact rfl)
    | (apply RunK.rows; exact rfl; exact rfl; (repeat (first | exact PartsOk.nil | (apply PartsOk.cons; exact rfl) | (apply PartsOk.consN; exact rfl))); (repeat (first | exact Rows.nil _ | (apply Rows.cons; (first | exact Cells.agg _ | exact Cells.int _ _ | exact Cells.bool _ | exact Cells.one _ rfl); exact rfl))); exact rfl; exact rfl))
          rw [hH7]
          refine Wt.loop (fun s : Nat × (NRow × NRow) × List Nat => ⟨(91, .s (.v q.hdr)) :: (92, .s (.v (.int .i64 (q.els.length : Int)))) :: (93, .s (.v (.int .i64 s.1))) :: (6, .s (.v H6)) :: (7, .s (.v H7)) :: (8, .s (.v (.pointer (some ⟨B, 0, none⟩)))) :: (13, .s (.v (.func (.func 44) #[] #[]))) :: (14, .s (.sl (some 0) (.front 3) 1 ((intR (topoN N (m + 1))).map ival))) :: topF B s.2.1.1 s.2.1.2 r7 rb, []⟩) (fun s => s.1 ≤ (bk N i).length ∧ RowL s.2.1.1 s.2.2 ∧ Hp s.2.2 s.2.2.length ∧ Rdy N (topoN N (m + 1)) (missJ N (topoN N m) i s.1) s.2.2 ∧ s.2.1.2.hdr = H6 ∧ RowL s.2.1.2 (mrow N.length (missJ N (topoN N m) i s.1))) (fun s => (bk N i).length - s.1) (0, (r1b, r2), L1) ⟨Nat.zero_le _, k1, k3, hRy1.congr fun x _ => miss_zero .., hH6, by rw [mrow_congr fun x _ => miss_zero ..]; exact hR2⟩ ?_ ?_
          · rw [hsn]; (refine Le.mk ?_ ?_; (repeat' (first | exact LeEnv.done | refine LeEnv.cons ?_ ?_ | exact PVLe.refl _ | exact PVLe.s (SVLe.nil _ _ _) | exact PVLe.s (SVLe.no _ _ _ _) | (refine PVLe.int ?_; first | rfl | omega | (simp; done) | (simp; omega)) | (refine PVLe.els ?_; first | rfl | assumption | (simp; done)) | (refine PVLe.bool ?_; first | rfl | assumption) | (refine PVLe.bsl ?_; first | rfl | assumption | (simp; done))));  (repeat' (first | exact LeBox.done | refine LeBox.cons ?_ ?_ | exact rfl)))
          · clear k1 k3 hRy1 hH6 hR2 r1b r2 L1
            rintro ⟨j, ⟨r1, r2⟩, L⟩ ⟨hj, hR1, hH, hRy, hH6, hR2⟩
            dsimp only at hj hR1 hH hRy hH6 hR2 ⊢
            by_cases hjt : j < (bk N i).length
            · obtain ⟨k, hjk⟩ := exists_at hjt
              obtain ⟨hkn, hkT⟩ := hbn j k hjk
              have hmn := miss_next hit hjk
              have hqj : q.els[j]? = some [.int .i64 (k : Int)] := by rw [hqe]; exact int_get hjk
              have hLn := hRy.len
              have hc2 := hPush B r1 L k hR1 (by omega) hH
              have hvb : missJ N (topoN N m) i (j + 1) k < 1000000 := by
                have h1 := hrow k
                have h2 := left_le N (topoN N m) k
                unfold missJ; omega
              have hc5 := nDone r2 _ hR2 k (missJ N (topoN N m) i (j + 1) k) (by rw [mrow_len]; exact hkn) (by rw [mrow_at _ hkn]; exact hmn) hvb
              rw [mrow_set (f' := missJ N (topoN N m) i (j + 1)) rfl fun x _ hne => miss_other hjk hne] at hc5
              have hpush := fun (L' : List Nat) (hp : L'.Perm (k :: L)) (hv : missJ N (topoN N m) i (j + 1) k = 0) => rdy_push hRy hit hjk ⟨hkn, hkT⟩ hv hp
              have hkeep := fun hv => rdy_keep hRy hit hjk hv
              rw [← hH6]
              repeat' (first
    | (apply RunK.actF [2000002] 900005 hc5; (case hw => exact rfl); (case he => exact fun h => nomatch h); (case hx => exact rfl); (case ha => (repeat (first | exact ArgsLe.nil | refine ArgsLe.cons ?_ ?_ | exact ArgLe.v _ | exact ArgLe.sl _ _ _ _ | exact ArgLe.nil _ | exact ArgLe.nil' | exact ArgLe.nsl _ _ _ _ _ | exact ArgLe.nsn _ | (apply ArgLe.bsl; exact rfl; (first | exact rfl | (rw [List.length_map]; done) | (simp only [List.length_map]; done) | (simp; done) | (simp; omega)); (first | assumption | exact map_len (fun _ => rfl)))))); (case hf => exact .nest 2000002 rfl rfl rfl .nil); (case hap => exact ApartE.nil _); (case hng => exact rfl); intro res fs' hres hkb; clear hkb; obtain ⟨rfl, r2', q1, q2, rfl⟩ := hres) | (apply RunK.idxN 2000004; exact rfl; exact rfl; exact rfl; exact rfl; exact rfl; exact rfl; assumption; assumption) | (apply RunK.loadRN 2000004; exact rfl; exact rfl; exact rfl; exact rfl; assumption; assumption) | (apply RunK.actF [2000000, 2000001] 900001 hc2; (case hw => exact rfl); (case he => exact fun h => nomatch h); (case hx => exact rfl); (case ha => (repeat (first | exact ArgsLe.nil | refine ArgsLe.cons ?_ ?_ | exact ArgLe.v _ | exact ArgLe.sl _ _ _ _ | exact ArgLe.nil _ | exact ArgLe.nil' | exact ArgLe.nsl _ _ _ _ _ | exact ArgLe.nsn _ | (apply ArgLe.bsl; exact rfl; (first | exact rfl | (rw [List.length_map]; done) | (simp only [List.length_map]; done) | (simp; done) | (simp; omega)); (first | assumption | exact map_len (fun _ => rfl)))))); (case hf => exact .kept 2000000 rfl rfl (.nest 2000001 rfl rfl rfl .nil)); (case hap => (repeat' (first | exact trivial | refine And.intro ?_ ?_))); (case hng => exact rfl); intro res fs' hres hkb; clear hkb; obtain ⟨rfl, r1', L', k1, k2, k3, rfl⟩ := hres) | (apply RunK.mkIface; exact rfl; exact rfl; kernel_rfl)
    | refine Wt.seq ?_
    | (apply Wt.regionK; exact rfl)
    | refine Wt.block ?_
    | refine Wt.skip ?_
    | refine RunK.nil ?_
    | (apply RunK.moveV; exact rfl; exact rfl)
    | (apply RunK.assignV; exact rfl; exact rfl)
    | (apply RunK.lss; exact rfl; exact rfl; exact rfl)
    | (apply RunK.add; exact rfl; exact rfl; exact rfl; (first | omega | (simp only [List.length_map]; omega)))
    | (apply Wt.cond; exact rfl; all_goals (intro hg; (first | exact absurd hg (by decide) | skip); (first | (with_reducible replace hg := not_t hg) | (with_reducible replace hg := not_f hg) | skip); (first | (with_reducible replace hg := dec_t hg) | (with_reducible replace hg := dec_f hg) | skip); (first | (with_reducible exact absurd rfl hg) | skip); (repeat rw [List.length_map] at hg); try (exfalso; omega))))
              · refine ⟨(j + 1, (r1', r2'), L'), ⟨hjt, k1, k3, hpush L' k2 (by assumption), q1, q2⟩, by dsimp only; omega, ?_⟩
                dsimp only
                (refine Le.mk ?_ ?_; (repeat' (first | exact LeEnv.done | refine LeEnv.cons ?_ ?_ | exact PVLe.refl _ | exact PVLe.s (SVLe.nil _ _ _) | exact PVLe.s (SVLe.no _ _ _ _) | (refine PVLe.int ?_; first | rfl | omega | (simp; done) | (simp; omega)) | (refine PVLe.els ?_; first | rfl | assumption | (simp; done)) | (refine PVLe.bool ?_; first | rfl | assumption) | (refine PVLe.bsl ?_; first | rfl | assumption | (simp; done))));  (repeat' (first | exact LeBox.done | refine LeBox.cons ?_ ?_ | exact rfl)))
              · refine ⟨(j + 1, (r1, r2'), L), ⟨hjt, hR1, hH, hkeep (by assumption), q1, q2⟩, by dsimp only; omega, ?_⟩
                dsimp only
                (refine Le.mk ?_ ?_; (repeat' (first | exact LeEnv.done | refine LeEnv.cons ?_ ?_ | exact PVLe.refl _ | exact PVLe.s (SVLe.nil _ _ _) | exact PVLe.s (SVLe.no _ _ _ _) | (refine PVLe.int ?_; first | rfl | omega | (simp; done) | (simp; omega)) | (refine PVLe.els ?_; first | rfl | assumption | (simp; done)) | (refine PVLe.bool ?_; first | rfl | assumption) | (refine PVLe.bsl ?_; first | rfl | assumption | (simp; done))));  (repeat' (first | exact LeBox.done | refine LeBox.cons ?_ ?_ | exact rfl)))
            · obtain rfl : j = (bk N i).length := by omega
              repeat' (first
    | (apply RunK.indexN; exact rfl; exact rfl; exact rfl; (first | exact rfl | exact (rfl : (0 : Int) = ((0 : Nat) : Int)) | exact (rfl : (1 : Int) = ((1 : Nat) : Int)) | exact (rfl : (2 : Int) = ((2 : Nat) : Int)) | exact (rfl : (3 : Int) = ((3 : Nat) : Int)) | assumption); (first | omega | exact lt_of_get ‹_› | (rw [List.length_map]; omega) | (simp; omega))) | (apply RunK.loadNS; exact rfl; exact rfl; assumption; exact rfl) | (apply RunK.lenNs; exact rfl; exact rfl) | (apply RunK.moveNs; exact rfl; exact rfl) | (apply RunK.assignNs; exact rfl; exact rfl)
    | refine Wt.seq ?_
    | (apply Wt.regionK; exact rfl)
    | refine Wt.exit ?_
    | refine RunK.nil ?_
    | (apply RunK.lss; exact rfl; exact rfl; exact rfl)
    | (apply Wt.cond; exact rfl; all_goals (intro hg; (first | exact absurd hg (by decide) | skip); (first | (with_reducible replace hg := not_t hg) | (with_reducible replace hg := not_f hg) | skip); (first | (with_reducible replace hg := dec_t hg) | (with_reducible replace hg := dec_f hg) | skip); (first | (with_reducible exact absurd rfl hg) | skip); (repeat rw [List.length_map] at hg); try (exfalso; omega))))
              refine ⟨(m + 1, (r1, r2), L), ⟨hml, hR1, hH, hRy.congr fun x hx => (hend x hx).symm, hH6, by rw [← mrow_congr hend]; exact hR2⟩, by dsimp only; omega, ?_⟩
              dsimp only
              (refine Le.mk ?_ ?_; (repeat' (first | exact LeEnv.done | refine LeEnv.cons ?_ ?_ | exact PVLe.refl _ | exact PVLe.s (SVLe.nil _ _ _) | exact PVLe.s (SVLe.no _ _ _ _) | (refine PVLe.int ?_; first | rfl | omega | (simp; done) | (simp; omega)) | (refine PVLe.els ?_; first | rfl | assumption | (simp; done)) | (refine PVLe.bool ?_; first | rfl | assumption) | (refine PVLe.bsl ?_; first | rfl | assumption | (simp; done))));  (repeat' (first | exact LeBox.done | refine LeBox.cons ?_ ?_ | exact rfl)))
        · obtain rfl := rdy_nil hN ha hm hRy hL0
          repeat' (first
    | (exfalso; omega) | (apply RunK.loadP 2000000; exact rfl; exact rfl; exact rfl; exact rfl; first | exact rfl | assumption) | (apply RunK.nilCheckP; exact rfl; exact rfl) | (apply RunK.actF [] 900004 hc3; (case hw => exact rfl); (case he => exact fun h => nomatch h); (case hx => exact rfl); (case ha => (repeat (first | exact ArgsLe.nil | refine ArgsLe.cons ?_ ?_ | exact ArgLe.v _ | exact ArgLe.sl _ _ _ _ | exact ArgLe.nil _ | exact ArgLe.nil' | exact ArgLe.nsl _ _ _ _ _ | exact ArgLe.nsn _ | (apply ArgLe.bsl; exact rfl; (first | exact rfl | (rw [List.length_map]; done) | (simp only [List.length_map]; done) | (simp; done) | (simp; omega)); (first | assumption | exact map_len (fun _ => rfl)))))); (case hf => exact .nil); (case hap => exact ApartE.nil _); (case hng => exact noNest_nil _); intro res fs' hres hkb; clear hkb; obtain ⟨rfl, rfl⟩ := hres)
    | refine Wt.seq ?_
    | (apply Wt.regionK; exact rfl)
    | refine Wt.ret ?_
    | refine Wt.exit ?_
    | refine RunK.nil ?_
    | (apply RunK.moveV; exact rfl; exact rfl)
    | (apply RunK.assignV; exact rfl; exact rfl)
    | (apply RunK.moveS; exact rfl; exact rfl)
    | (apply RunK.assignS; exact rfl; exact rfl)
    | (apply RunK.gtr; exact rfl; exact rfl; exact rfl)
    | (apply Wt.cond; exact rfl; all_goals (intro hg; (first | exact absurd hg (by decide) | skip); (first | (with_reducible replace hg := not_t hg) | (with_reducible replace hg := not_f hg) | skip); (first | (with_reducible replace hg := dec_t hg) | (with_reducible replace hg := dec_f hg) | skip); (first | (with_reducible exact absurd rfl hg) | skip); (repeat rw [List.length_map] at hg); try (exfalso; omega))))
          all_goals (apply ResOk.sv; exact rfl; exact rfl; exact rfl; exact rfl)
end Go.Proofs.Ytfokjpmcifkoeaa
