/- The walk of Fit. No condition. -/
import Derived.Test.YtfokjpmcifkoeaaCC
namespace Go.Proofs.Ytfokjpmcifkoeaa
open Pv Go.RowKit
/-- A number brought to a node. -/
def fitV (n : Nat) (y : Int) : Int := (y.tmod n + n).tmod n
def fitG (g : List (List Int)) : List (List Int) := (cutG g).map (·.map (fitV (cutG g).length))
set_option maxRecDepth 100000 in
theorem tmod_bd (y : Int) {n : Nat} (hn : 0 < n) : -(n : Int) < y.tmod n ∧ y.tmod n < n := ⟨by have := Int.lt_tmod_of_pos y (b := (n : Int)) (by omega); omega, Int.tmod_lt_of_pos y (by omega)⟩
set_option maxRecDepth 100000 in
theorem fitV_ok (n : Nat) (hn : 0 < n) (y : Int) : 0 ≤ fitV n y ∧ fitV n y < n := by
  have h1 := tmod_bd y hn
  unfold fitV
  rw [Int.tmod_eq_emod_of_nonneg (by omega)]
  exact ⟨Int.emod_nonneg _ (by omega), Int.emod_lt_of_pos _ (by omega)⟩
set_option maxRecDepth 100000 in
theorem hdr_put (r : NRow) (j : Nat) (u : Value) : (r.put j u).hdr = r.hdr := by
  unfold NRow.hdr NRow.put; simp
set_option maxRecDepth 100000 in
theorem hds_put {rows : List NRow} {i : Nat} {r : NRow} (h : rows[i]? = some r) (j : Nat) (u : Value) : hds (rows.set i (r.put j u)) = hds rows := by
  unfold hds
  refine List.ext_getElem? fun q => ?_
  rw [List.getElem?_map, List.getElem?_map, List.getElem?_set]
  split
  · rename_i e; subst e; rw [h, if_pos (List.getElem?_eq_some_iff.1 h).1]; exact congrArg (fun x => some [x]) (hdr_put r j u)
  · rfl
set_option maxRecDepth 100000 in
theorem els_at {rows : List NRow} {g : List (List Int)} (h : rows.map (·.els) = g.map (·.map ival)) {i : Nat} {r : List Int} (hr : g[i]? = some r) : ∃ q, rows[i]? = some q ∧ q ∈ rows ∧ q.els = r.map ival ∧ (hds rows)[i]? = some [q.hdr] := by
  have h1 : (rows.map (·.els))[i]? = some (r.map ival) := by rw [h, List.getElem?_map, hr]; rfl
  rw [List.getElem?_map] at h1
  cases hq : rows[i]? with
  | none => rw [hq] at h1; cases h1
  | some q =>
    rw [hq] at h1
    injection h1 with h1
    exact ⟨q, rfl, List.mem_of_getElem? hq, h1, by unfold hds; rw [List.getElem?_map, hq]; rfl⟩
set_option maxRecDepth 100000 in
theorem els_put {rows : List NRow} {g : List (List Int)} (h : rows.map (·.els) = g.map (·.map ival)) {i : Nat} {r : List Int} {q : NRow} (hq : q.els = r.map ival) (k : Nat) (z : Int) : (rows.set i (q.put k (.int .i64 z))).map (·.els) = (g.set i (r.set k z)).map (·.map ival) := by
  rw [List.map_set, List.map_set, h]
  congr 1
  show q.els.set k _ = _
  rw [hq, List.map_set]; rfl
set_option maxRecDepth 100000 in
theorem cutG_len (g : List (List Int)) : (cutG g).length ≤ 24 := by unfold cutG; simp; omega
set_option maxRecDepth 100000 in
theorem cutG_row {g : List (List Int)} {r : List Int} (h : r ∈ cutG g) : r.length ≤ 30 := by
  unfold cutG at h
  obtain ⟨q, _, rfl⟩ := List.mem_map.1 h
  simp; omega
/-- The first i changed. -/
def part {α : Type} (f : α → α) (c : List α) (i : Nat) : List α := (c.take i).map f ++ c.drop i
set_option maxRecDepth 100000 in
theorem part_zero {α : Type} (f : α → α) (c : List α) : part f c 0 = c := by simp [part]
set_option maxRecDepth 100000 in
theorem part_all {α : Type} (f : α → α) {c : List α} {i : Nat} (h : c.length ≤ i) : part f c i = c.map f := by simp [part, List.take_of_length_le h, List.drop_of_length_le h]
set_option maxRecDepth 100000 in
theorem part_len {α : Type} (f : α → α) (c : List α) (i : Nat) : (part f c i).length = c.length := by simp [part]; omega
set_option maxRecDepth 100000 in
theorem part_at {α : Type} {f : α → α} {c : List α} {i : Nat} {r : α} (h : c[i]? = some r) : (part f c i)[i]? = some r := by
  unfold part
  have hi := (List.getElem?_eq_some_iff.1 h).1
  rw [List.getElem?_append_right (by simp; omega)]
  simp [Nat.min_eq_left (Nat.le_of_lt hi), h]
set_option maxRecDepth 100000 in
theorem part_set {α : Type} {f : α → α} {c : List α} {i : Nat} {r : α} (h : c[i]? = some r) : (part f c i).set i (f r) = part f c (i + 1) := by
  unfold part
  have hi := (List.getElem?_eq_some_iff.1 h).1
  rw [List.set_append_right _ _ (by simp; omega)]
  have e1 : c.drop i = r :: c.drop (i + 1) := by rw [List.drop_eq_getElem_cons hi]; congr 1; rw [List.getElem?_eq_getElem hi] at h; injection h
  rw [e1, List.take_add_one, h]
  simp [Nat.min_eq_left (Nat.le_of_lt hi)]
set_option maxRecDepth 100000 in
theorem set_same {α : Type} {l : List α} {i : Nat} {r : α} (h : l[i]? = some r) : l.set i r = l := by
  refine List.ext_getElem? fun q => ?_
  rw [List.getElem?_set]
  split
  · rename_i e; subst e; rw [h, if_pos (List.getElem?_eq_some_iff.1 h).1]
  · rfl
set_option maxRecDepth 100000 in
theorem set_at {α : Type} {l : List α} {i : Nat} {r : α} (h : i < l.length) : (l.set i r)[i]? = some r := by rw [List.getElem?_set]; simp [h]
set_option maxRecDepth 100000 in
theorem gE_L (c : List (List Int)) : gE c = (c.map (·.map ival)).map fun e => [EV.sl 1 e] := by rw [List.map_map]; rfl
set_option maxRecDepth 100000 in
theorem fit (g : List (List Int)) : Pure Try.prog 25 [graph g] (.s (graphR (fitG g))) := by
  have hc := cut g
  unfold fitG
  have hc1 := cutG_len g
  have hc2 := fun r => cutG_row (g := g) (r := r)
  generalize cutG g = c at *
  refine pure_of_wt Try.func25 rfl (by decide) _ Try.ntmps25 rfl Try.results25 fun w0 => ?_
  repeat' (first
    | (apply RunK.indexN; exact rfl; exact rfl; exact rfl; (first | exact rfl | exact (rfl : (0 : Int) = ((0 : Nat) : Int)) | exact (rfl : (1 : Int) = ((1 : Nat) : Int)) | exact (rfl : (2 : Int) = ((2 : Nat) : Int)) | exact (rfl : (3 : Int) = ((3 : Nat) : Int)) | assumption); (first | omega | exact lt_of_get ‹_› | (rw [List.length_map]; omega) | (simp; omega))) | (apply RunK.loadNS; exact rfl; exact rfl; assumption; exact rfl) | (apply RunK.lenNs; exact rfl; exact rfl) | (apply RunK.moveNs; exact rfl; exact rfl) | (apply RunK.assignNs; exact rfl; exact rfl) | (apply RunK.callS; exact rfl; exact rfl; exact hc; (repeat (first | exact ArgsLe.nil | refine ArgsLe.cons ?_ ?_ | exact ArgLe.v _ | exact ArgLe.sl _ _ _ _ | exact ArgLe.nil _ | exact ArgLe.nil' | exact ArgLe.nsl _ _ _ _ _ | exact ArgLe.nsn _ | (apply ArgLe.bsl; exact rfl; (first | exact rfl | (rw [List.length_map]; done) | (simp only [List.length_map]; done) | (simp; done) | (simp; omega)); (first | assumption | exact map_len (fun _ => rfl))))); exact rfl)
    | refine Wt.seq ?_
    | (apply Wt.regionK; exact rfl)
    | refine Wt.block ?_
    | refine RunK.nil ?_
    | (apply RunK.assignV; exact rfl; exact rfl)
    | (apply RunK.assignN; exact rfl; exact rfl))
  refine Wt.weakS (Turns.thawN 3 2000000 1 (τ := 7) rfl (gE_L c) rfl) ?_
  rintro s1 ⟨rows0, h1, h2, rfl⟩
  have hl0 : rows0.length = c.length := by have := congrArg List.length h1; simpa using this
  have hdl : (hds rows0).length = c.length := by rw [List.length_map]; exact hl0
  generalize hH : hds rows0 = H at *
  refine Wt.loop (fun i : Nat × List NRow => ⟨[(3, .s (.sl (some 7) .no 1 H)), (4, .s (.v (.int .i64 i.1))), (2000000, .nest 1 1 i.2)], []⟩) (fun i => i.1 ≤ c.length ∧ hds i.2 = H ∧ i.2.map (·.els) = (part (·.map (fitV c.length)) c i.1).map (·.map ival)) (fun i => c.length - i.1) (0, rows0) ⟨Nat.zero_le _, hH, by rw [part_zero]; exact h1⟩ ?_ ?_
  · (refine Le.mk ?_ ?_; (repeat' (first | exact LeEnv.done | refine LeEnv.cons ?_ ?_ | exact PVLe.refl _ | exact PVLe.s (SVLe.nil _ _ _) | exact PVLe.s (SVLe.no _ _ _ _) | (refine PVLe.int ?_; first | rfl | omega | (simp; done) | (simp; omega)) | (refine PVLe.els ?_; first | rfl | assumption | (simp; done)) | (refine PVLe.bool ?_; first | rfl | assumption) | (refine PVLe.bsl ?_; first | rfl | assumption | (simp; done))));  (repeat' (first | exact LeBox.done | refine LeBox.cons ?_ ?_ | exact rfl)))
  · rintro ⟨i, rows⟩ ⟨hi, hS, hG⟩
    dsimp only at hi hS hG ⊢
    by_cases hlt : i < c.length
    · obtain ⟨r, hr⟩ := exists_at hlt
      have hrl := hc2 r (List.mem_of_getElem? hr)
      have hn0 : (H.length : Int) ≠ 0 := by rw [hdl]; omega
      repeat' (first
    | (apply RunK.indexN; exact rfl; exact rfl; exact rfl; (first | exact rfl | exact (rfl : (0 : Int) = ((0 : Nat) : Int)) | exact (rfl : (1 : Int) = ((1 : Nat) : Int)) | exact (rfl : (2 : Int) = ((2 : Nat) : Int)) | exact (rfl : (3 : Int) = ((3 : Nat) : Int)) | assumption); (first | omega | exact lt_of_get ‹_› | (rw [List.length_map]; omega) | (simp; omega))) | (apply RunK.loadNS; exact rfl; exact rfl; assumption; exact rfl) | (apply RunK.lenNs; exact rfl; exact rfl) | (apply RunK.moveNs; exact rfl; exact rfl) | (apply RunK.assignNs; exact rfl; exact rfl)
    | refine Wt.seq ?_
    | (apply Wt.regionK; exact rfl)
    | refine Wt.block ?_
    | refine Wt.skip ?_
    | refine RunK.nil ?_
    | (apply RunK.moveV; exact rfl; exact rfl)
    | (apply RunK.assignV; exact rfl; exact rfl)
    | (apply RunK.moveS; exact rfl; exact rfl)
    | (apply RunK.lss; exact rfl; exact rfl; exact rfl)
    | (apply RunK.len; exact rfl; exact rfl)
    | (apply Wt.cond; exact rfl; all_goals (intro hg; (first | exact absurd hg (by decide) | skip); (first | (with_reducible replace hg := not_t hg) | (with_reducible replace hg := not_f hg) | skip); (first | (with_reducible replace hg := dec_t hg) | (with_reducible replace hg := dec_f hg) | skip); (first | (with_reducible exact absurd rfl hg) | skip); (repeat rw [List.length_map] at hg); try (exfalso; omega))))
      refine Wt.loop (fun k : Nat × List NRow => ⟨[(3, .s (.sl (some 7) .no 1 H)), (4, .s (.v (.int .i64 i))), (5, .s (.v (.int .i64 k.1))), (2000000, .nest 1 1 k.2)], []⟩) (fun k => k.1 ≤ r.length ∧ hds k.2 = H ∧ k.2.map (·.els) = ((part (·.map (fitV c.length)) c i).set i (part (fitV c.length) r k.1)).map (·.map ival)) (fun k => r.length - k.1) (0, rows) ⟨Nat.zero_le _, hS, by rw [part_zero, set_same (part_at hr)]; exact hG⟩ ?_ ?_
      · (refine Le.mk ?_ ?_; (repeat' (first | exact LeEnv.done | refine LeEnv.cons ?_ ?_ | exact PVLe.refl _ | exact PVLe.s (SVLe.nil _ _ _) | exact PVLe.s (SVLe.no _ _ _ _) | (refine PVLe.int ?_; first | rfl | omega | (simp; done) | (simp; omega)) | (refine PVLe.els ?_; first | rfl | assumption | (simp; done)) | (refine PVLe.bool ?_; first | rfl | assumption) | (refine PVLe.bsl ?_; first | rfl | assumption | (simp; done))));  (repeat' (first | exact LeBox.done | refine LeBox.cons ?_ ?_ | exact rfl)))
      · rintro ⟨k, rows1⟩ ⟨hk, hS1, hG1⟩
        dsimp only at hk hS1 hG1 ⊢
        obtain ⟨q, hq, hqm, hqe, hqh⟩ := els_at hG1 (set_at (by rw [part_len]; exact hlt))
        rw [hS1] at hqh
        have hql : q.els.length = r.length := by rw [hqe, List.length_map, part_len]
        by_cases hkt : k < r.length
        · obtain ⟨y, hy⟩ := exists_at hkt
          have hye : q.els[k]? = some (ival y) := by rw [hqe]; exact get_map (part_at hy)
          have hb1 := tmod_bd y (n := H.length) (by omega)
          repeat' (first
    | (apply RunK.indexN; exact rfl; exact rfl; exact rfl; (first | exact rfl | exact (rfl : (0 : Int) = ((0 : Nat) : Int)) | exact (rfl : (1 : Int) = ((1 : Nat) : Int)) | exact (rfl : (2 : Int) = ((2 : Nat) : Int)) | exact (rfl : (3 : Int) = ((3 : Nat) : Int)) | assumption); (first | omega | exact lt_of_get ‹_› | (rw [List.length_map]; omega) | (simp; omega))) | (apply RunK.loadNS; exact rfl; exact rfl; assumption; exact rfl) | (apply RunK.lenNs; exact rfl; exact rfl) | (apply RunK.moveNs; exact rfl; exact rfl) | (apply RunK.assignNs; exact rfl; exact rfl) | (apply RunK.lenK; exact rfl; exact rfl) | (apply RunK.idxN 2000000; exact rfl; exact rfl; exact rfl; (first | exact rfl | exact (rfl : (0 : Int) = ((0 : Nat) : Int)) | exact (rfl : (1 : Int) = ((1 : Nat) : Int)) | exact (rfl : (2 : Int) = ((2 : Nat) : Int)) | exact (rfl : (3 : Int) = ((3 : Nat) : Int)) | assumption); exact rfl; exact rfl; assumption; assumption) | (apply RunK.loadRN 2000000; exact rfl; exact rfl; exact rfl; exact rfl; assumption; assumption) | (apply RunK.storeRN 2000000; exact rfl; exact rfl; exact rfl; exact rfl; assumption; assumption; exact rfl; exact rfl; exact rfl; exact rfl) | (apply RunK.bin; exact rfl; exact rfl; exact rfl; exact BinRun.rem hn0)
    | refine Wt.seq ?_
    | (apply Wt.regionK; exact rfl)
    | (apply Wt.regionD; kernel_rfl; kernel_rfl; exact rfl; exact rfl)
    | refine Wt.block ?_
    | refine Wt.skip ?_
    | refine RunK.nil ?_
    | (apply RunK.moveV; exact rfl; exact rfl)
    | (apply RunK.index; exact rfl; exact rfl; exact rfl; (first | exact rfl | exact (rfl : (0 : Int) = ((0 : Nat) : Int)) | exact (rfl : (1 : Int) = ((1 : Nat) : Int)) | exact (rfl : (2 : Int) = ((2 : Nat) : Int)) | exact (rfl : (3 : Int) = ((3 : Nat) : Int)) | assumption); (first | omega | exact lt_of_get ‹_› | (rw [List.length_map]; omega) | (simp; omega)))
    | (apply RunK.loadE1; exact rfl; exact rfl; assumption; exact rfl)
    | (apply RunK.assignV; exact rfl; exact rfl)
    | (apply RunK.moveS; exact rfl; exact rfl)
    | (apply RunK.lss; exact rfl; exact rfl; exact rfl)
    | (apply RunK.add; exact rfl; exact rfl; exact rfl; (first | omega | (simp only [List.length_map]; omega)))
    | (apply RunK.len; exact rfl; exact rfl)
    | (apply Wt.cond; exact rfl; all_goals (intro hg; (first | exact absurd hg (by decide) | skip); (first | (with_reducible replace hg := not_t hg) | (with_reducible replace hg := not_f hg) | skip); (first | (with_reducible replace hg := dec_t hg) | (with_reducible replace hg := dec_f hg) | skip); (first | (with_reducible exact absurd rfl hg) | skip); (repeat rw [List.length_map] at hg); try (exfalso; omega))))
          refine ⟨(k + 1, rows1.set i (q.put k (.int .i64 (fitV H.length y)))), ⟨hkt, (hds_put hq _ _).trans hS1, ?_⟩, by dsimp only; omega, ?_⟩
          · dsimp only
            rw [els_put hG1 hqe, List.set_set, hdl, part_set hy]
          · dsimp only
            (refine Le.mk ?_ ?_; (repeat' (first | exact LeEnv.done | refine LeEnv.cons ?_ ?_ | exact PVLe.refl _ | exact PVLe.s (SVLe.nil _ _ _) | exact PVLe.s (SVLe.no _ _ _ _) | (refine PVLe.int ?_; first | rfl | omega | (simp; done) | (simp; omega)) | (refine PVLe.els ?_; first | rfl | assumption | (simp; done)) | (refine PVLe.bool ?_; first | rfl | assumption) | (refine PVLe.bsl ?_; first | rfl | assumption | (simp; done))));  (repeat' (first | exact LeBox.done | refine LeBox.cons ?_ ?_ | exact rfl)))
        · obtain rfl : k = r.length := by omega
          repeat' (first
    | (apply RunK.indexN; exact rfl; exact rfl; exact rfl; (first | exact rfl | exact (rfl : (0 : Int) = ((0 : Nat) : Int)) | exact (rfl : (1 : Int) = ((1 : Nat) : Int)) | exact (rfl : (2 : Int) = ((2 : Nat) : Int)) | exact (rfl : (3 : Int) = ((3 : Nat) : Int)) | assumption); (first | omega | exact lt_of_get ‹_› | (rw [List.length_map]; omega) | (simp; omega))) | (apply RunK.loadNS; exact rfl; exact rfl; assumption; exact rfl) | (apply RunK.lenNs; exact rfl; exact rfl) | (apply RunK.moveNs; exact rfl; exact rfl) | (apply RunK.assignNs; exact rfl; exact rfl) | (apply RunK.lenK; exact rfl; exact rfl) | (apply RunK.idxN 2000000; exact rfl; exact rfl; exact rfl; (first | exact rfl | exact (rfl : (0 : Int) = ((0 : Nat) : Int)) | exact (rfl : (1 : Int) = ((1 : Nat) : Int)) | exact (rfl : (2 : Int) = ((2 : Nat) : Int)) | exact (rfl : (3 : Int) = ((3 : Nat) : Int)) | assumption); exact rfl; exact rfl; assumption; assumption) | (apply RunK.loadRN 2000000; exact rfl; exact rfl; exact rfl; exact rfl; assumption; assumption) | (apply RunK.storeRN 2000000; exact rfl; exact rfl; exact rfl; exact rfl; assumption; assumption; exact rfl; exact rfl; exact rfl; exact rfl)
    | refine Wt.seq ?_
    | (apply Wt.regionK; exact rfl)
    | refine Wt.exit ?_
    | refine RunK.nil ?_
    | (apply RunK.moveV; exact rfl; exact rfl)
    | (apply RunK.index; exact rfl; exact rfl; exact rfl; (first | exact rfl | exact (rfl : (0 : Int) = ((0 : Nat) : Int)) | exact (rfl : (1 : Int) = ((1 : Nat) : Int)) | exact (rfl : (2 : Int) = ((2 : Nat) : Int)) | exact (rfl : (3 : Int) = ((3 : Nat) : Int)) | assumption); (first | omega | exact lt_of_get ‹_› | (rw [List.length_map]; omega) | (simp; omega)))
    | (apply RunK.loadE1; exact rfl; exact rfl; assumption; exact rfl)
    | (apply RunK.assignV; exact rfl; exact rfl)
    | (apply RunK.moveS; exact rfl; exact rfl)
    | (apply RunK.lss; exact rfl; exact rfl; exact rfl)
    | (apply RunK.add; exact rfl; exact rfl; exact rfl; (first | omega | (simp only [List.length_map]; omega)))
    | (apply Wt.cond; exact rfl; all_goals (intro hg; (first | exact absurd hg (by decide) | skip); (first | (with_reducible replace hg := not_t hg) | (with_reducible replace hg := not_f hg) | skip); (first | (with_reducible replace hg := dec_t hg) | (with_reducible replace hg := dec_f hg) | skip); (first | (with_reducible exact absurd rfl hg) | skip); (repeat rw [List.length_map] at hg); try (exfalso; omega))))
          refine ⟨(i + 1, rows1), ⟨hlt, hS1, ?_⟩, by dsimp only; omega, ?_⟩
          · dsimp only
            rw [hG1, part_all _ (Nat.le_refl _), part_set hr]
          · dsimp only
            (refine Le.mk ?_ ?_; (repeat' (first | exact LeEnv.done | refine LeEnv.cons ?_ ?_ | exact PVLe.refl _ | exact PVLe.s (SVLe.nil _ _ _) | exact PVLe.s (SVLe.no _ _ _ _) | (refine PVLe.int ?_; first | rfl | omega | (simp; done) | (simp; omega)) | (refine PVLe.els ?_; first | rfl | assumption | (simp; done)) | (refine PVLe.bool ?_; first | rfl | assumption) | (refine PVLe.bsl ?_; first | rfl | assumption | (simp; done))));  (repeat' (first | exact LeBox.done | refine LeBox.cons ?_ ?_ | exact rfl)))
    · rw [part_all _ (by omega)] at hG
      refine Wt.weak (Turns.freezeN 3 2000000 7 rfl rfl hS.symm hG rfl) ?_
      repeat' (first
    | (apply RunK.indexN; exact rfl; exact rfl; exact rfl; (first | exact rfl | exact (rfl : (0 : Int) = ((0 : Nat) : Int)) | exact (rfl : (1 : Int) = ((1 : Nat) : Int)) | exact (rfl : (2 : Int) = ((2 : Nat) : Int)) | exact (rfl : (3 : Int) = ((3 : Nat) : Int)) | assumption); (first | omega | exact lt_of_get ‹_› | (rw [List.length_map]; omega) | (simp; omega))) | (apply RunK.loadNS; exact rfl; exact rfl; assumption; exact rfl) | (apply RunK.lenNs; exact rfl; exact rfl) | (apply RunK.moveNs; exact rfl; exact rfl) | (apply RunK.assignNs; exact rfl; exact rfl)
    | refine Wt.seq ?_
    | (apply Wt.regionK; exact rfl)
    | refine Wt.ret ?_
    | refine Wt.exit ?_
    | refine RunK.nil ?_
    | (apply RunK.moveV; exact rfl; exact rfl)
    | (apply RunK.lss; exact rfl; exact rfl; exact rfl)
    | (apply Wt.cond; exact rfl; all_goals (intro hg; (first | exact absurd hg (by decide) | skip); (first | (with_reducible replace hg := not_t hg) | (with_reducible replace hg := not_f hg) | skip); (first | (with_reducible replace hg := dec_t hg) | (with_reducible replace hg := dec_f hg) | skip); (first | (with_reducible exact absurd rfl hg) | skip); (repeat rw [List.length_map] at hg); try (exfalso; omega))))
      all_goals (apply ResOk.g1; exact rfl; exact rfl; exact els_gE hG)
end Go.Proofs.Ytfokjpmcifkoeaa
