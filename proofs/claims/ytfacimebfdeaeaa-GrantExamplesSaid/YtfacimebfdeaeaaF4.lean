/- The walks of the checks of rules. -/
import Derived.Test.YtfacimebfdeaeaaF3
import Derived.Test.YtfacimebfdeaeaaEqs
namespace Go.Proofs.Ytfacimebfdeaeaa
open Pv Go.RowKit

set_option maxRecDepth 100000 in
theorem check_users {n : Int} (l : List Rule) (h : ¬(1 ≤ n ∧ n ≤ 64)) : checkS n l = (0, 2) := by
  have : users1 n = false := decide_eq_false h
  simp [checkS, this]
set_option maxRecDepth 100000 in
theorem check_long {n : Int} {l : List Rule} (h : 1 ≤ n ∧ n ≤ 64) (hl : 64 < l.length) : checkS n l = (64, 5) := by
  have h1 : users1 n = true := decide_eq_true h
  have h2 : l.isEmpty = false := by cases l with | nil => simp at hl | cons => rfl
  rw [checkS, h1, h2]
  simp; omega
set_option maxRecDepth 100000 in
theorem check_sheet {n : Int} {l : List Rule} {r : Rule} (h : 1 ≤ n ∧ n ≤ 64) (hl : l.length ≤ 64) (h0 : l[0]? = some r) (hr : ¬r.rect = sheetR) : checkS n l = (0, 2) := by
  have h1 : users1 n = true := decide_eq_true h
  have h2 : l.isEmpty = false := by cases l with | nil => simp at h0 | cons => rfl
  have h3 : ¬(l.map Rule.rect).head? = some sheetR := by rw [head_rect h0]; simpa using hr
  simp only [checkS, h1, h2, if_pos hl, if_neg h3]; rfl
set_option maxRecDepth 100000 in
theorem check_scan {n : Int} {l : List Rule} {r : Rule} (h : 1 ≤ n ∧ n ≤ 64) (hl : l.length ≤ 64) (h0 : l[0]? = some r) (hr : r.rect = sheetR) : checkS n l = scanR n 0 l := by
  have h1 : users1 n = true := decide_eq_true h
  have h2 : l.isEmpty = false := by cases l with | nil => simp at h0 | cons => rfl
  have h3 : (l.map Rule.rect).head? = some sheetR := by rw [head_rect h0, hr]
  simp only [checkS, h1, h2, if_pos hl, if_pos h3]; rfl
set_option maxRecDepth 100000 in
theorem scan_rect {n : Int} {l : List Rule} {k : Nat} {r : Rule} (h : ∀ j r, j < k → l[j]? = some r → goodR n r = true) (hr : l[k]? = some r) (hb : rectOk r.rect = false) : scanR n 0 l = ((k : Int), 3) := by
  rw [scan_hit h hr, hb]; rfl
set_option maxRecDepth 100000 in
theorem scan_rights {n : Int} {l : List Rule} {k : Nat} {r : Rule} (h : ∀ j r, j < k → l[j]? = some r → goodR n r = true) (hr : l[k]? = some r) (ha : rectOk r.rect = true) (hb : rightsIn r.rights n = false) : scanR n 0 l = ((k : Int), 2) := by
  rw [scan_hit h hr, ha, hb]; rfl
set_option maxRecDepth 100000 in
theorem aclCheck (n : Int) (l : List Rule) (hL : l.length < 1000000000000000) (hok : ∀ r ∈ l, r.ok) : Pure Try.prog 62 [.v (.int .i64 n), rules l] (.tup [.v (.int .i64 (checkS n l).1), .v (.int .i64 (checkS n l).2)]) := by
  by_cases hn : 1 ≤ n ∧ n ≤ 64
  · cases hl0 : l with
    | nil =>
      rw [check_nil]
      refine pure_of_wt Try.func62 rfl (by decide) _ Try.ntmps62 rfl Try.results62 fun w0 => ?_
      repeat' (first
    | (apply RunK.callT; exact rfl; exact rfl; exact (groupAll n ⟨by omega, hn.2⟩); (repeat (first | exact ArgsLe.nil | refine ArgsLe.cons ?_ ?_ | exact ArgLe.v _ | exact ArgLe.sl _ _ _ _ | exact ArgLe.nil _ | exact ArgLe.nil' | exact ArgLe.nsl _ _ _ _ _ | exact ArgLe.nsn _ | (apply ArgLe.bsl; exact rfl; (first | exact rfl | (rw [List.length_map]; done) | (simp only [List.length_map]; done) | (simp; done) | (simp; omega)); (first | assumption | exact map_len (fun _ => rfl))))); exact rfl)
    | refine Wt.seq ?_
    | (apply Wt.regionK; exact rfl)
    | refine Wt.ret ?_
    | refine Wt.block ?_
    | refine RunK.nil ?_
    | (apply RunK.moveV; exact rfl; exact rfl)
    | (apply RunK.assignV; exact rfl; exact rfl)
    | (apply RunK.moveS; exact rfl; exact rfl)
    | (apply RunK.moveT; exact rfl; exact rfl)
    | (apply RunK.pickF; exact rfl; exact rfl; exact rfl)
    | (apply RunK.eql; exact rfl; exact rfl; exact rfl)
    | (apply RunK.neq; exact rfl; exact rfl; exact rfl)
    | (apply RunK.len; exact rfl; exact rfl)
    | (apply RunK.extract; exact rfl; exact rfl; exact rfl)
    | (apply RunK.guard; exact rfl; exact rfl; exact rfl; all_goals (intro hg; (first | exact absurd hg (by decide) | skip); (first | (with_reducible replace hg := not_t hg) | (with_reducible replace hg := not_f hg) | skip); (first | (with_reducible replace hg := dec_t hg) | (with_reducible replace hg := dec_f hg) | skip); (first | (with_reducible exact absurd rfl hg) | skip); (repeat rw [List.length_map] at hg); try (exfalso; omega)))
    | (apply Wt.cond; exact rfl; all_goals (intro hg; (first | exact absurd hg (by decide) | skip); (first | (with_reducible replace hg := not_t hg) | (with_reducible replace hg := not_f hg) | skip); (first | (with_reducible replace hg := dec_t hg) | (with_reducible replace hg := dec_f hg) | skip); (first | (with_reducible exact absurd rfl hg) | skip); (repeat rw [List.length_map] at hg); try (exfalso; omega))))
      all_goals (apply ResOk.vv <;> exact rfl)
    | cons r0 rest =>
      have h0 : l[0]? = some r0 := by rw [hl0]; rfl
      have hp : 0 < l.length := lt_of_get h0
      rw [← hl0]
      have hx0 := get_map (f := Rule.vals) h0
      refine pure_of_wt Try.func62 rfl (by decide) _ Try.ntmps62 rfl Try.results62 fun w0 => ?_
      repeat' (first
    | (apply RunK.callT; exact rfl; exact rfl; exact (groupAll n ⟨by omega, hn.2⟩); (repeat (first | exact ArgsLe.nil | refine ArgsLe.cons ?_ ?_ | exact ArgLe.v _ | exact ArgLe.sl _ _ _ _ | exact ArgLe.nil _ | exact ArgLe.nil' | exact ArgLe.nsl _ _ _ _ _ | exact ArgLe.nsn _ | (apply ArgLe.bsl; exact rfl; (first | exact rfl | (rw [List.length_map]; done) | (simp only [List.length_map]; done) | (simp; done) | (simp; omega)); (first | assumption | exact map_len (fun _ => rfl))))); exact rfl) | (apply RunK.callS; exact rfl; exact rfl; exact aclSheet; (repeat (first | exact ArgsLe.nil | refine ArgsLe.cons ?_ ?_ | exact ArgLe.v _ | exact ArgLe.sl _ _ _ _ | exact ArgLe.nil _ | exact ArgLe.nil' | exact ArgLe.nsl _ _ _ _ _ | exact ArgLe.nsn _ | (apply ArgLe.bsl; exact rfl; (first | exact rfl | (rw [List.length_map]; done) | (simp only [List.length_map]; done) | (simp; done) | (simp; omega)); (first | assumption | exact map_len (fun _ => rfl))))); exact rfl) | (apply RunK.bin; exact rfl; exact rfl; exact rfl; exact neqRect r0.rect sheetR)
    | refine Wt.seq ?_
    | (apply Wt.regionK; exact rfl)
    | (apply Wt.regionD; kernel_rfl; kernel_rfl; exact rfl; exact rfl)
    | refine Wt.ret ?_
    | refine Wt.block ?_
    | refine Wt.skip ?_
    | refine RunK.nil ?_
    | (apply RunK.moveV; exact rfl; exact rfl)
    | (apply RunK.index; exact rfl; exact rfl; exact rfl; (first | exact rfl | exact (rfl : (0 : Int) = ((0 : Nat) : Int)) | exact (rfl : (1 : Int) = ((1 : Nat) : Int)) | exact (rfl : (2 : Int) = ((2 : Nat) : Int)) | exact (rfl : (3 : Int) = ((3 : Nat) : Int)) | assumption); (first | omega | exact lt_of_get ‹_› | (rw [List.length_map]; omega) | (simp; omega)))
    | (apply RunK.fieldE; exact rfl; exact rfl)
    | (apply RunK.assignV; exact rfl; exact rfl)
    | (apply RunK.moveS; exact rfl; exact rfl)
    | (apply RunK.moveT; exact rfl; exact rfl)
    | (apply RunK.loadER; exact rfl; exact rfl; assumption; exact rfl; (apply cut_eq; repeat (first | exact Cut.nil _ | apply Cut.cons | apply Cut.skip)))
    | (apply RunK.pickF; exact rfl; exact rfl; exact rfl)
    | (apply RunK.gtr; exact rfl; exact rfl; exact rfl)
    | (apply RunK.eql; exact rfl; exact rfl; exact rfl)
    | (apply RunK.neq; exact rfl; exact rfl; exact rfl)
    | (apply RunK.len; exact rfl; exact rfl)
    | (apply RunK.extract; exact rfl; exact rfl; exact rfl)
    | (apply RunK.guard; exact rfl; exact rfl; exact rfl; all_goals (intro hg; (first | exact absurd hg (by decide) | skip); (first | (with_reducible replace hg := not_t hg) | (with_reducible replace hg := not_f hg) | skip); (first | (with_reducible replace hg := dec_t hg) | (with_reducible replace hg := dec_f hg) | skip); (first | (with_reducible exact absurd rfl hg) | skip); (repeat rw [List.length_map] at hg); try (exfalso; omega)))
    | (apply Wt.cond; exact rfl; all_goals (intro hg; (first | exact absurd hg (by decide) | skip); (first | (with_reducible replace hg := not_t hg) | (with_reducible replace hg := not_f hg) | skip); (first | (with_reducible replace hg := dec_t hg) | (with_reducible replace hg := dec_f hg) | skip); (first | (with_reducible exact absurd rfl hg) | skip); (repeat rw [List.length_map] at hg); try (exfalso; omega))))
      · rw [check_long hn (by omega)]; apply ResOk.vv <;> exact rfl
      · rw [check_sheet hn (by omega) h0 hg]; apply ResOk.vv <;> exact rfl
      rename_i hlen _
      rw [check_scan hn (by omega) h0 hg]
      refine Wt.loop (fun k : Nat => ⟨[(6, .s (.v (.int .u64 (allN n)))), (37, .s (rules l)), (38, .s (.v (.int .i64 l.length))), (39, .s (.v (.int .i64 k)))], []⟩) (fun k => k ≤ l.length ∧ ∀ j r, j < k → l[j]? = some r → goodR n r = true) (fun k => l.length - k) 0 ⟨Nat.zero_le _, fun j r h => absurd h (by omega)⟩ ?_ ?_
      · (refine Le.mk ?_ ?_; (repeat' (first | exact LeEnv.done | refine LeEnv.cons ?_ ?_ | exact PVLe.refl _ | exact PVLe.s (SVLe.nil _ _ _) | exact PVLe.s (SVLe.no _ _ _ _) | (refine PVLe.int ?_; first | rfl | omega | (simp; done) | (simp; omega)) | (refine PVLe.els ?_; first | rfl | assumption | (simp; done)) | (refine PVLe.bool ?_; first | rfl | assumption) | (refine PVLe.bsl ?_; first | rfl | assumption | (simp; done))));  (repeat' (first | exact LeBox.done | refine LeBox.cons ?_ ?_ | exact rfl)))
      · rintro k ⟨hk, hG⟩
        by_cases hlt : k < l.length
        · obtain ⟨r, hr⟩ := exists_at hlt
          have hx := get_map (f := Rule.vals) hr
          have hro := (hok r (List.mem_of_getElem? hr)).rights
          obtain ⟨z, hz, hz0⟩ := or_within hro.read hro.write hro.own hn.2
          repeat' (first
    | (apply RunK.callS; exact rfl; exact rfl; exact (rectCheck r.rect); (repeat (first | exact ArgsLe.nil | refine ArgsLe.cons ?_ ?_ | exact ArgLe.v _ | exact ArgLe.sl _ _ _ _ | exact ArgLe.nil _ | exact ArgLe.nil' | exact ArgLe.nsl _ _ _ _ _ | exact ArgLe.nsn _ | (apply ArgLe.bsl; exact rfl; (first | exact rfl | (rw [List.length_map]; done) | (simp only [List.length_map]; done) | (simp; done) | (simp; omega)); (first | assumption | exact map_len (fun _ => rfl))))); exact rfl) | (apply RunK.bin; exact rfl; exact rfl; exact rfl; exact runBits (.inr (.inl rfl)) rfl) | (apply RunK.bin; exact rfl; exact rfl; exact rfl; exact runBits (.inr (.inr (.inr rfl))) hz)
    | refine Wt.seq ?_
    | (apply Wt.regionK; exact rfl)
    | refine Wt.ret ?_
    | refine Wt.block ?_
    | refine Wt.skip ?_
    | refine RunK.nil ?_
    | (apply RunK.moveV; exact rfl; exact rfl)
    | (apply RunK.index; exact rfl; exact rfl; exact rfl; (first | exact rfl | exact (rfl : (0 : Int) = ((0 : Nat) : Int)) | exact (rfl : (1 : Int) = ((1 : Nat) : Int)) | exact (rfl : (2 : Int) = ((2 : Nat) : Int)) | exact (rfl : (3 : Int) = ((3 : Nat) : Int)) | assumption); (first | omega | exact lt_of_get ‹_› | (rw [List.length_map]; omega) | (simp; omega)))
    | (apply RunK.load1; exact rfl; exact rfl; exact rfl; exact rfl)
    | (apply RunK.field; exact rfl; exact rfl)
    | (apply RunK.assignV; exact rfl; exact rfl)
    | (apply RunK.alloc; exact rfl; apply Cells.eq; (first | exact Cells.agg _ | exact Cells.int _ _ | exact Cells.bool _ | exact Cells.one _ rfl); exact rfl)
    | (apply RunK.loadR; exact rfl; exact rfl; exact rfl; exact rfl; (apply cut_eq; repeat (first | exact Cut.nil _ | apply Cut.cons | apply Cut.skip)))
    | (apply RunK.loadER; exact rfl; exact rfl; assumption; exact rfl; (apply cut_eq; repeat (first | exact Cut.nil _ | apply Cut.cons | apply Cut.skip)))
    | (apply RunK.lss; exact rfl; exact rfl; exact rfl)
    | (apply RunK.neq; exact rfl; exact rfl; exact rfl)
    | (apply RunK.add; exact rfl; exact rfl; exact rfl; (first | omega | (simp only [List.length_map]; omega)))
    | (apply RunK.store; exact rfl; exact rfl; exact rfl; exact rfl; exact rfl; exact rfl; exact rfl; apply upd_eq; exact rfl; (first | exact Cells.agg _ | exact Cells.int _ _ | exact Cells.bool _ | exact Cells.one _ rfl); (repeat (first | exact Upd.nil _ | apply Upd.cons | apply Upd.skip)))
    | (apply Wt.cond; exact rfl; all_goals (intro hg; (first | exact absurd hg (by decide) | skip); (first | (with_reducible replace hg := not_t hg) | (with_reducible replace hg := not_f hg) | skip); (first | (with_reducible replace hg := dec_t hg) | (with_reducible replace hg := dec_f hg) | skip); (first | (with_reducible exact absurd rfl hg) | skip); (repeat rw [List.length_map] at hg); try (exfalso; omega))))
          · rw [scan_rect hG hr (chk_not hg)]; apply ResOk.vv <;> exact rfl
          · have hb : rightsIn r.rights n = false := by rw [← Bool.not_eq_true]; exact fun h => hg (hz0.2 h)
            rw [scan_rights hG hr (chk_zero ‹_›) hb]; apply ResOk.vv <;> exact rfl
          · have hb : rightsIn r.rights n = true := hz0.1 hg
            refine ⟨k + 1, ⟨hlt, good_step hG hr (by simp [goodR, chk_zero ‹chk r.rect = 0›, hb])⟩, by omega, ?_⟩
            (refine Le.mk ?_ ?_; (repeat' (first | exact LeEnv.done | refine LeEnv.cons ?_ ?_ | exact PVLe.refl _ | exact PVLe.s (SVLe.nil _ _ _) | exact PVLe.s (SVLe.no _ _ _ _) | (refine PVLe.int ?_; first | rfl | omega | (simp; done) | (simp; omega)) | (refine PVLe.els ?_; first | rfl | assumption | (simp; done)) | (refine PVLe.bool ?_; first | rfl | assumption) | (refine PVLe.bsl ?_; first | rfl | assumption | (simp; done))));  (repeat' (first | exact LeBox.done | refine LeBox.cons ?_ ?_ | exact rfl)))
        · repeat' (first
    | refine Wt.seq ?_
    | (apply Wt.regionK; exact rfl)
    | refine Wt.ret ?_
    | refine Wt.exit ?_
    | refine RunK.nil ?_
    | (apply RunK.assignV; exact rfl; exact rfl)
    | (apply RunK.lss; exact rfl; exact rfl; exact rfl)
    | (apply Wt.cond; exact rfl; all_goals (intro hg; (first | exact absurd hg (by decide) | skip); (first | (with_reducible replace hg := not_t hg) | (with_reducible replace hg := not_f hg) | skip); (first | (with_reducible replace hg := dec_t hg) | (with_reducible replace hg := dec_f hg) | skip); (first | (with_reducible exact absurd rfl hg) | skip); (repeat rw [List.length_map] at hg); try (exfalso; omega))))
          rw [scan_end n l fun j r hj hr => hG j r (by omega) hr]; apply ResOk.vv <;> exact rfl
  · rw [check_users l hn]
    by_cases hn2 : 0 ≤ n ∧ n ≤ 64
    · refine pure_of_wt Try.func62 rfl (by decide) _ Try.ntmps62 rfl Try.results62 fun w0 => ?_
      repeat' (first
    | (apply RunK.callT; exact rfl; exact rfl; exact (groupAll n hn2); (repeat (first | exact ArgsLe.nil | refine ArgsLe.cons ?_ ?_ | exact ArgLe.v _ | exact ArgLe.sl _ _ _ _ | exact ArgLe.nil _ | exact ArgLe.nil' | exact ArgLe.nsl _ _ _ _ _ | exact ArgLe.nsn _ | (apply ArgLe.bsl; exact rfl; (first | exact rfl | (rw [List.length_map]; done) | (simp only [List.length_map]; done) | (simp; done) | (simp; omega)); (first | assumption | exact map_len (fun _ => rfl))))); exact rfl)
    | refine Wt.seq ?_
    | (apply Wt.regionK; exact rfl)
    | refine Wt.ret ?_
    | refine Wt.block ?_
    | refine RunK.nil ?_
    | (apply RunK.moveV; exact rfl; exact rfl)
    | (apply RunK.assignV; exact rfl; exact rfl)
    | (apply RunK.moveT; exact rfl; exact rfl)
    | (apply RunK.pickT; exact rfl; exact rfl; exact rfl)
    | (apply RunK.pickF; exact rfl; exact rfl; exact rfl)
    | (apply RunK.eql; exact rfl; exact rfl; exact rfl)
    | (apply RunK.neq; exact rfl; exact rfl; exact rfl)
    | (apply RunK.extract; exact rfl; exact rfl; exact rfl)
    | (apply RunK.skip; exact rfl; exact rfl)
    | (apply RunK.guard; exact rfl; exact rfl; exact rfl; all_goals (intro hg; (first | exact absurd hg (by decide) | skip); (first | (with_reducible replace hg := not_t hg) | (with_reducible replace hg := not_f hg) | skip); (first | (with_reducible replace hg := dec_t hg) | (with_reducible replace hg := dec_f hg) | skip); (first | (with_reducible exact absurd rfl hg) | skip); (repeat rw [List.length_map] at hg); try (exfalso; omega)))
    | (apply Wt.cond; exact rfl; all_goals (intro hg; (first | exact absurd hg (by decide) | skip); (first | (with_reducible replace hg := not_t hg) | (with_reducible replace hg := not_f hg) | skip); (first | (with_reducible replace hg := dec_t hg) | (with_reducible replace hg := dec_f hg) | skip); (first | (with_reducible exact absurd rfl hg) | skip); (repeat rw [List.length_map] at hg); try (exfalso; omega))))
      all_goals (apply ResOk.vv <;> exact rfl)
    · refine pure_of_wt Try.func62 rfl (by decide) _ Try.ntmps62 rfl Try.results62 fun w0 => ?_
      repeat' (first
    | (apply RunK.callT; exact rfl; exact rfl; exact (groupAllX n hn2); (repeat (first | exact ArgsLe.nil | refine ArgsLe.cons ?_ ?_ | exact ArgLe.v _ | exact ArgLe.sl _ _ _ _ | exact ArgLe.nil _ | exact ArgLe.nil' | exact ArgLe.nsl _ _ _ _ _ | exact ArgLe.nsn _ | (apply ArgLe.bsl; exact rfl; (first | exact rfl | (rw [List.length_map]; done) | (simp only [List.length_map]; done) | (simp; done) | (simp; omega)); (first | assumption | exact map_len (fun _ => rfl))))); exact rfl)
    | refine Wt.seq ?_
    | (apply Wt.regionK; exact rfl)
    | refine Wt.ret ?_
    | refine Wt.block ?_
    | refine RunK.nil ?_
    | (apply RunK.moveV; exact rfl; exact rfl)
    | (apply RunK.assignV; exact rfl; exact rfl)
    | (apply RunK.moveT; exact rfl; exact rfl)
    | (apply RunK.pickT; exact rfl; exact rfl; exact rfl)
    | (apply RunK.neq; exact rfl; exact rfl; exact rfl)
    | (apply RunK.extract; exact rfl; exact rfl; exact rfl)
    | (apply RunK.skip; exact rfl; exact rfl)
    | (apply Wt.cond; exact rfl; all_goals (intro hg; (first | exact absurd hg (by decide) | skip); (first | (with_reducible replace hg := not_t hg) | (with_reducible replace hg := not_f hg) | skip); (first | (with_reducible replace hg := dec_t hg) | (with_reducible replace hg := dec_f hg) | skip); (first | (with_reducible exact absurd rfl hg) | skip); (repeat rw [List.length_map] at hg); try (exfalso; omega))))
      all_goals (apply ResOk.vv <;> exact rfl)
end Go.Proofs.Ytfacimebfdeaeaa
