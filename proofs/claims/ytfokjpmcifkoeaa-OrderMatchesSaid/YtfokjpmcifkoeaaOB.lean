/- The walks of the reference's Levels and Check. No condition. -/
import Derived.Test.YtfokjpmcifkoeaaOA
namespace Go.Proofs.Ytfokjpmcifkoeaa
open Pv Go.RowKit Scc
section
variable (N : G) (hN : GOk N) (hn : N.length ≤ 1000) (hr : ∀ r ∈ N, r.length < 1000)
include hN hn hr
set_option maxRecDepth 100000 in
theorem refLevels (h : loopsN N = []) : Pure Try.prog 38 [graph (intG N)] (.tup [intsR (intR (levels N)), .v (.int .i64 0)]) := by
  have h1 := refTopo N hN hn hr h
  have ha := acyc_of hN h
  obtain ⟨ho, hol⟩ := topo_ord hN ha N.length (Nat.le_refl _)
  have hlt := ho.lt
  have hll : (topo N).length = N.length := hol
  have hgl : (gE (intG N)).length = N.length := by simp [gE, intG]
  have hil : (intR (topo N)).length = N.length := by rw [intR, List.length_map]; exact hll
  unfold levels
  have hlt : ∀ x ∈ topo N, x < N.length := hlt
  clear ho hol h
  generalize topo N = T at *
  refine pure_of_wt Try.func38 rfl (by decide) _ Try.ntmps38 rfl Try.results38 fun w0 => ?_
  repeat' (first
    | (apply RunK.indexN; exact rfl; exact rfl; exact rfl; (first | exact rfl | exact (rfl : (0 : Int) = ((0 : Nat) : Int)) | exact (rfl : (1 : Int) = ((1 : Nat) : Int)) | exact (rfl : (2 : Int) = ((2 : Nat) : Int)) | exact (rfl : (3 : Int) = ((3 : Nat) : Int)) | assumption); (first | omega | exact lt_of_get ‹_› | (rw [List.length_map]; omega) | (simp; omega))) | (apply RunK.loadNS; exact rfl; exact rfl; assumption; exact rfl) | (apply RunK.lenNs; exact rfl; exact rfl) | (apply RunK.moveNs; exact rfl; exact rfl) | (apply RunK.assignNs; exact rfl; exact rfl) | (apply RunK.callT; exact rfl; exact rfl; exact h1; (repeat (first | exact ArgsLe.nil | refine ArgsLe.cons ?_ ?_ | exact ArgLe.v _ | exact ArgLe.sl _ _ _ _ | exact ArgLe.nil _ | exact ArgLe.nil' | exact ArgLe.nsl _ _ _ _ _ | exact ArgLe.nsn _ | (apply ArgLe.bsl; exact rfl; (first | exact rfl | (rw [List.length_map]; done) | (simp only [List.length_map]; done) | (simp; done) | (simp; omega)); (first | assumption | exact map_len (fun _ => rfl))))); exact rfl) | (apply RunK.makeSlE (n := N.length); exact rfl; exact rfl; exact rfl; exact (by simp); exact (by simp); exact (by omega); exact rfl)
    | refine Wt.seq ?_
    | (apply Wt.regionK; exact rfl)
    | refine Wt.block ?_
    | refine Wt.skip ?_
    | refine RunK.nil ?_
    | (apply RunK.moveV; exact rfl; exact rfl)
    | (apply RunK.assignV; exact rfl; exact rfl)
    | (apply RunK.moveT; exact rfl; exact rfl)
    | (apply RunK.assignS; exact rfl; exact rfl)
    | (apply RunK.assignN; exact rfl; exact rfl)
    | (apply RunK.neq; exact rfl; exact rfl; exact rfl)
    | (apply RunK.extract; exact rfl; exact rfl; exact rfl)
    | (apply Wt.cond; exact rfl; all_goals (intro hg; (first | exact absurd hg (by decide) | skip); (first | (with_reducible replace hg := not_t hg) | (with_reducible replace hg := not_f hg) | skip); (first | (with_reducible replace hg := dec_t hg) | (with_reducible replace hg := dec_f hg) | skip); (first | (with_reducible exact absurd rfl hg) | skip); (repeat rw [List.length_map] at hg); try (exfalso; omega))))
  refine Wt.le ⟨[(0, .s (graph (intG N))), (4, .s (.sl (some 12) .no 1 ((intR T).map ival))), (6, .s (.sl (some 20) (.front 3) 1 (List.replicate N.length [.int .i64 0]))), (7, .s (.v (.int .i64 0)))], []⟩ (by (refine Le.mk ?_ ?_; (repeat' (first | exact LeEnv.done | refine LeEnv.cons ?_ ?_ | exact PVLe.refl _ | exact PVLe.s (SVLe.nil _ _ _) | exact PVLe.s (SVLe.no _ _ _ _) | (refine PVLe.int ?_; first | rfl | omega | (simp; done) | (simp; omega)) | (refine PVLe.els ?_; first | rfl | assumption | (simp; done)) | (refine PVLe.bool ?_; first | rfl | assumption) | (refine PVLe.bsl ?_; first | rfl | assumption | (simp; done))));  (repeat' (first | exact LeBox.done | refine LeBox.cons ?_ ?_ | exact rfl)))) ?_
  rw [rep_int]
  have hl0 : ((intR (List.replicate N.length 0)).map ival).length = N.length := by simp [intR]
  refine Wt.thaw 6 6 rfl rfl rfl ?_
  refine Wt.loop (fun i : Nat × List Nat => ⟨[(0, .s (graph (intG N))), (4, .s (.sl (some 12) .no 1 ((intR T).map ival))), (6, .bsl 6 0 1 N.length), (7, .s (.v (.int .i64 i.1)))], [(6, ((intR i.2).map ival).flatten)]⟩) (fun i => i.1 ≤ N.length ∧ i.2 = levN N (T.take i.1) ∧ ∀ y, i.2.getD y 0 ≤ i.1 * 1000) (fun i => N.length - i.1) (0, List.replicate N.length 0) ⟨Nat.zero_le _, rfl, fun y => by
    dsimp only
    rw [List.getD_eq_getElem?_getD, List.getElem?_replicate]
    split <;> exact Nat.zero_le _⟩ ?_ ?_
  · (refine Le.mk ?_ ?_; (repeat' (first | exact LeEnv.done | (refine LeEnv.consN ?_ ?_; exact rfl) | refine LeEnv.cons ?_ ?_ | exact PVLe.refl _ | exact PVLe.s (SVLe.nil _ _ _) | exact PVLe.s (SVLe.no _ _ _ _) | (refine PVLe.int ?_; first | rfl | omega | (simp; done) | (simp; omega)) | (refine PVLe.els ?_; first | rfl | assumption | (simp; done)) | (refine PVLe.bool ?_; first | rfl | assumption) | (refine PVLe.hdE ?_; first | rfl | assumption) | (refine PVLe.bsl ?_; first | rfl | assumption | (simp; done) | (simp; omega)))); (repeat' (first | exact LeBox.done | (refine LeBox.consN ?_ ?_; exact rfl) | (refine LeBox.cons ?_ ?_; exact rfl) | (refine LeBox.consE rfl ?_ ?_; first | assumption | (refine congrArg List.flatten ?_; first | rfl | assumption | (symm; assumption))))))
  · rintro ⟨m, L⟩ ⟨hm, hL, hbd⟩
    dsimp only at hm hL hbd ⊢
    have hLl : L.length = N.length := by rw [hL]; exact levN_len ..
    by_cases hmt : m < N.length
    · obtain ⟨x, hxm⟩ := exists_at (l := T) (k := m) (by omega)
      have hxn := hlt x (List.mem_of_getElem? hxm)
      have hx2 := int_get hxm
      obtain ⟨r, hri⟩ := exists_at hxn
      have hgx := gE_at (intG_at hri)
      have hgd := getD_of hri (d := [])
      have hrl := hr r (List.mem_of_getElem? hri)
      have hrl2 : (intR r).length = r.length := by simp [intR]
      repeat' (first
    | (apply RunK.indexN; exact rfl; exact rfl; exact rfl; (first | exact rfl | exact (rfl : (0 : Int) = ((0 : Nat) : Int)) | exact (rfl : (1 : Int) = ((1 : Nat) : Int)) | exact (rfl : (2 : Int) = ((2 : Nat) : Int)) | exact (rfl : (3 : Int) = ((3 : Nat) : Int)) | assumption); (first | omega | exact lt_of_get ‹_› | (rw [List.length_map]; omega) | (simp; omega))) | (apply RunK.loadNS; exact rfl; exact rfl; assumption; exact rfl) | (apply RunK.lenNs; exact rfl; exact rfl) | (apply RunK.moveNs; exact rfl; exact rfl) | (apply RunK.assignNs; exact rfl; exact rfl)
    | refine Wt.seq ?_
    | (apply Wt.regionK; exact rfl)
    | refine Wt.block ?_
    | refine Wt.skip ?_
    | refine RunK.nil ?_
    | (apply RunK.moveV; exact rfl; exact rfl)
    | (apply RunK.index; exact rfl; exact rfl; exact rfl; (first | exact rfl | exact (rfl : (0 : Int) = ((0 : Nat) : Int)) | exact (rfl : (1 : Int) = ((1 : Nat) : Int)) | exact (rfl : (2 : Int) = ((2 : Nat) : Int)) | exact (rfl : (3 : Int) = ((3 : Nat) : Int)) | assumption); (first | omega | exact lt_of_get ‹_› | (rw [List.length_map]; omega) | (simp; omega)))
    | (apply RunK.loadE1; exact rfl; exact rfl; assumption; exact rfl)
    | (apply RunK.assignV; exact rfl; exact rfl)
    | (apply RunK.moveS; exact rfl; exact rfl)
    | (apply RunK.assignS; exact rfl; exact rfl)
    | (apply RunK.lss; exact rfl; exact rfl; exact rfl)
    | (apply RunK.len; exact rfl; exact rfl)
    | (apply Wt.cond; exact rfl; all_goals (intro hg; (first | exact absurd hg (by decide) | skip); (first | (with_reducible replace hg := not_t hg) | (with_reducible replace hg := not_f hg) | skip); (first | (with_reducible replace hg := dec_t hg) | (with_reducible replace hg := dec_f hg) | skip); (first | (with_reducible exact absurd rfl hg) | skip); (repeat rw [List.length_map] at hg); try (exfalso; omega))))
      refine Wt.loop (fun k : Nat × List Nat => ⟨[(0, .s (graph (intG N))), (4, .s (.sl (some 12) .no 1 ((intR T).map ival))), (6, .bsl 6 0 1 N.length), (7, .s (.v (.int .i64 m))), (8, .s (.sl none .no 1 ((intR r).map ival))), (9, .s (.v (.int .i64 k.1)))], [(6, ((intR k.2).map ival).flatten)]⟩) (fun k => k.1 ≤ r.length ∧ k.2 = levK x L (r.take k.1) ∧ ∀ y, k.2.getD y 0 ≤ m * 1000 + k.1) (fun k => r.length - k.1) (0, L) ⟨Nat.zero_le _, rfl, hbd⟩ ?_ ?_
      · (refine Le.mk ?_ ?_; (repeat' (first | exact LeEnv.done | (refine LeEnv.consN ?_ ?_; exact rfl) | refine LeEnv.cons ?_ ?_ | exact PVLe.refl _ | exact PVLe.s (SVLe.nil _ _ _) | exact PVLe.s (SVLe.no _ _ _ _) | (refine PVLe.int ?_; first | rfl | omega | (simp; done) | (simp; omega)) | (refine PVLe.els ?_; first | rfl | assumption | (simp; done)) | (refine PVLe.bool ?_; first | rfl | assumption) | (refine PVLe.hdE ?_; first | rfl | assumption) | (refine PVLe.bsl ?_; first | rfl | assumption | (simp; done) | (simp; omega)))); (repeat' (first | exact LeBox.done | (refine LeBox.consN ?_ ?_; exact rfl) | (refine LeBox.cons ?_ ?_; exact rfl) | (refine LeBox.consE rfl ?_ ?_; first | assumption | (refine congrArg List.flatten ?_; first | rfl | assumption | (symm; assumption))))))
      · rintro ⟨k, M⟩ ⟨hk, hM, hbd2⟩
        dsimp only at hk hM hbd2 ⊢
        have hMl : M.length = N.length := by rw [hM, levK_len]; exact hLl
        by_cases hkt : k < r.length
        · obtain ⟨z, hzk⟩ := exists_at hkt
          have hz2 := int_get hzk
          have hzn : z < N.length := hN _ _ (edge_of hri hzk)
          have ha1 := int_at (L := M) (k := x) (by omega)
          have ha2 := int_at (L := M) (k := z) (by omega)
          have hb1 := hbd2 x
          have hb2 := hbd2 z
          have hmm : m * 1000 ≤ 1000 * 1000 := Nat.mul_le_mul_right _ (by omega)
          have hset := int_set M x (max (M.getD x 0) (M.getD z 0 + 1))
          have hmx : max ((M.getD x 0 : Nat) : Int) (((M.getD z 0 : Nat) : Int) + 1) = ((max (M.getD x 0) (M.getD z 0 + 1) : Nat) : Int) := by omega
          repeat' (first
    | (apply RunK.indexN; exact rfl; exact rfl; exact rfl; (first | exact rfl | exact (rfl : (0 : Int) = ((0 : Nat) : Int)) | exact (rfl : (1 : Int) = ((1 : Nat) : Int)) | exact (rfl : (2 : Int) = ((2 : Nat) : Int)) | exact (rfl : (3 : Int) = ((3 : Nat) : Int)) | assumption); (first | omega | exact lt_of_get ‹_› | (rw [List.length_map]; omega) | (simp; omega))) | (apply RunK.loadNS; exact rfl; exact rfl; assumption; exact rfl) | (apply RunK.lenNs; exact rfl; exact rfl) | (apply RunK.moveNs; exact rfl; exact rfl) | (apply RunK.assignNs; exact rfl; exact rfl)
    | refine Wt.seq ?_
    | (apply Wt.regionK; exact rfl)
    | (apply Wt.regionD; kernel_rfl; kernel_rfl; exact rfl; exact rfl)
    | refine Wt.block ?_
    | refine Wt.skip ?_
    | refine RunK.nil ?_
    | (apply RunK.moveV; exact rfl; exact rfl)
    | (apply RunK.index; exact rfl; exact rfl; exact rfl; (first | exact rfl | exact (rfl : (0 : Int) = ((0 : Nat) : Int)) | exact (rfl : (1 : Int) = ((1 : Nat) : Int)) | exact (rfl : (2 : Int) = ((2 : Nat) : Int)) | exact (rfl : (3 : Int) = ((3 : Nat) : Int)) | assumption); (first | omega | exact lt_of_get ‹_› | (rw [List.length_map]; omega) | (simp; omega)))
    | (apply RunK.loadE1; exact rfl; exact rfl; assumption; exact rfl)
    | (apply RunK.assignV; exact rfl; exact rfl)
    | (apply RunK.moveS; exact rfl; exact rfl)
    | (apply RunK.moveBs; exact rfl; exact rfl)
    | (apply RunK.indexS; exact rfl; exact rfl; exact rfl; (first | exact rfl | exact (rfl : (0 : Int) = ((0 : Nat) : Int)) | exact (rfl : (1 : Int) = ((1 : Nat) : Int)) | exact (rfl : (2 : Int) = ((2 : Nat) : Int)) | exact (rfl : (3 : Int) = ((3 : Nat) : Int)) | assumption); (first | omega | exact lt_of_get ‹_› | (rw [List.length_map]; omega) | (simp; omega)))
    | (apply RunK.loadF1; exact rfl; exact rfl; exact rfl; (first | exact off0 _ _ | exact off1 _ _ _ | exact off2 _ _ _ _ | exact off3 _ _ _ _ _ | omega); (first | assumption | exact map_len (fun _ => rfl)); assumption; exact rfl)
    | (apply RunK.lss; exact rfl; exact rfl; exact rfl)
    | (apply RunK.add; exact rfl; exact rfl; exact rfl; (first | omega | (simp only [List.length_map]; omega)))
    | (apply RunK.len; exact rfl; exact rfl)
    | (apply RunK.max; exact rfl; exact rfl; exact rfl)
    | (apply RunK.storeF; exact rfl; exact rfl; exact rfl; exact rfl; (first | exact off0 _ _ | exact off1 _ _ _ | exact off2 _ _ _ _ | exact off3 _ _ _ _ _ | omega); (first | assumption | exact map_len (fun _ => rfl)); assumption; exact rfl; exact rfl; exact rfl; (first | exact Cells.agg _ | exact Cells.int _ _ | exact Cells.bool _ | exact Cells.one _ rfl); (repeat (first | exact Upd.nil _ | apply Upd.cons | apply Upd.skip)))
    | (apply Wt.cond; exact rfl; all_goals (intro hg; (first | exact absurd hg (by decide) | skip); (first | (with_reducible replace hg := not_t hg) | (with_reducible replace hg := not_f hg) | skip); (first | (with_reducible replace hg := dec_t hg) | (with_reducible replace hg := dec_f hg) | skip); (first | (with_reducible exact absurd rfl hg) | skip); (repeat rw [List.length_map] at hg); try (exfalso; omega))))
          refine ⟨(k + 1, levS x M z), ⟨hkt, ?_, fun y => ?_⟩, by dsimp only; omega, ?_⟩
          · dsimp only
            rw [List.take_add_one, hzk]
            show _ = levK x L (r.take k ++ [z])
            rw [levK_snoc, ← hM]
          · have := levS_bd hbd2 (x := x) z y
            dsimp only; omega
          · dsimp only
            unfold levS
            rw [hmx, ← hset]
            (refine Le.mk ?_ ?_; (repeat' (first | exact LeEnv.done | (refine LeEnv.consN ?_ ?_; exact rfl) | refine LeEnv.cons ?_ ?_ | exact PVLe.refl _ | exact PVLe.s (SVLe.nil _ _ _) | exact PVLe.s (SVLe.no _ _ _ _) | (refine PVLe.int ?_; first | rfl | omega | (simp; done) | (simp; omega)) | (refine PVLe.els ?_; first | rfl | assumption | (simp; done)) | (refine PVLe.bool ?_; first | rfl | assumption) | (refine PVLe.hdE ?_; first | rfl | assumption) | (refine PVLe.bsl ?_; first | rfl | assumption | (simp; done) | (simp; omega)))); (repeat' (first | exact LeBox.done | (refine LeBox.consN ?_ ?_; exact rfl) | (refine LeBox.cons ?_ ?_; exact rfl) | (refine LeBox.consE rfl ?_ ?_; first | assumption | (refine congrArg List.flatten ?_; first | rfl | assumption | (symm; assumption))))))
        · obtain rfl : k = r.length := by omega
          repeat' (first
    | (apply RunK.indexN; exact rfl; exact rfl; exact rfl; (first | exact rfl | exact (rfl : (0 : Int) = ((0 : Nat) : Int)) | exact (rfl : (1 : Int) = ((1 : Nat) : Int)) | exact (rfl : (2 : Int) = ((2 : Nat) : Int)) | exact (rfl : (3 : Int) = ((3 : Nat) : Int)) | assumption); (first | omega | exact lt_of_get ‹_› | (rw [List.length_map]; omega) | (simp; omega))) | (apply RunK.loadNS; exact rfl; exact rfl; assumption; exact rfl) | (apply RunK.lenNs; exact rfl; exact rfl) | (apply RunK.moveNs; exact rfl; exact rfl) | (apply RunK.assignNs; exact rfl; exact rfl)
    | refine Wt.seq ?_
    | (apply Wt.regionK; exact rfl)
    | refine Wt.exit ?_
    | refine RunK.nil ?_
    | (apply RunK.moveV; exact rfl; exact rfl)
    | (apply RunK.assignV; exact rfl; exact rfl)
    | (apply RunK.moveS; exact rfl; exact rfl)
    | (apply RunK.lss; exact rfl; exact rfl; exact rfl)
    | (apply RunK.add; exact rfl; exact rfl; exact rfl; (first | omega | (simp only [List.length_map]; omega)))
    | (apply RunK.len; exact rfl; exact rfl)
    | (apply Wt.cond; exact rfl; all_goals (intro hg; (first | exact absurd hg (by decide) | skip); (first | (with_reducible replace hg := not_t hg) | (with_reducible replace hg := not_f hg) | skip); (first | (with_reducible replace hg := dec_t hg) | (with_reducible replace hg := dec_f hg) | skip); (first | (with_reducible exact absurd rfl hg) | skip); (repeat rw [List.length_map] at hg); try (exfalso; omega))))
          refine ⟨(m + 1, M), ⟨hmt, ?_, fun y => ?_⟩, by dsimp only; omega, ?_⟩
          · dsimp only
            rw [List.take_add_one, hxm]
            show _ = levN N (T.take m ++ [x])
            rw [levN_snoc, hgd, hM, List.take_length, hL]
          · have := hbd2 y
            dsimp only; omega
          · dsimp only
            (refine Le.mk ?_ ?_; (repeat' (first | exact LeEnv.done | (refine LeEnv.consN ?_ ?_; exact rfl) | refine LeEnv.cons ?_ ?_ | exact PVLe.refl _ | exact PVLe.s (SVLe.nil _ _ _) | exact PVLe.s (SVLe.no _ _ _ _) | (refine PVLe.int ?_; first | rfl | omega | (simp; done) | (simp; omega)) | (refine PVLe.els ?_; first | rfl | assumption | (simp; done)) | (refine PVLe.bool ?_; first | rfl | assumption) | (refine PVLe.hdE ?_; first | rfl | assumption) | (refine PVLe.bsl ?_; first | rfl | assumption | (simp; done) | (simp; omega)))); (repeat' (first | exact LeBox.done | (refine LeBox.consN ?_ ?_; exact rfl) | (refine LeBox.cons ?_ ?_; exact rfl) | (refine LeBox.consE rfl ?_ ?_; first | assumption | (refine congrArg List.flatten ?_; first | rfl | assumption | (symm; assumption))))))
    · obtain rfl : m = N.length := by omega
      rw [List.take_of_length_le (by omega)] at hL
      have hsz : N.length = ((intR L).map ival).length := by simp [intR]; omega
      refine Wt.freeze 6 6 3 rfl rfl hsz (map_len fun _ => rfl) ?_
      repeat' (first
    | (apply RunK.indexN; exact rfl; exact rfl; exact rfl; (first | exact rfl | exact (rfl : (0 : Int) = ((0 : Nat) : Int)) | exact (rfl : (1 : Int) = ((1 : Nat) : Int)) | exact (rfl : (2 : Int) = ((2 : Nat) : Int)) | exact (rfl : (3 : Int) = ((3 : Nat) : Int)) | assumption); (first | omega | exact lt_of_get ‹_› | (rw [List.length_map]; omega) | (simp; omega))) | (apply RunK.loadNS; exact rfl; exact rfl; assumption; exact rfl) | (apply RunK.lenNs; exact rfl; exact rfl) | (apply RunK.moveNs; exact rfl; exact rfl) | (apply RunK.assignNs; exact rfl; exact rfl)
    | refine Wt.seq ?_
    | (apply Wt.regionK; exact rfl)
    | refine Wt.ret ?_
    | refine Wt.exit ?_
    | refine RunK.nil ?_
    | (apply RunK.moveV; exact rfl; exact rfl)
    | (apply RunK.assignV; exact rfl; exact rfl)
    | (apply RunK.moveS; exact rfl; exact rfl)
    | (apply RunK.assignS; exact rfl; exact rfl)
    | (apply RunK.lss; exact rfl; exact rfl; exact rfl)
    | (apply RunK.len; exact rfl; exact rfl)
    | (apply Wt.cond; exact rfl; all_goals (intro hg; (first | exact absurd hg (by decide) | skip); (first | (with_reducible replace hg := not_t hg) | (with_reducible replace hg := not_f hg) | skip); (first | (with_reducible replace hg := dec_t hg) | (with_reducible replace hg := dec_f hg) | skip); (first | (with_reducible exact absurd rfl hg) | skip); (repeat rw [List.length_map] at hg); try (exfalso; omega))))
      all_goals (apply ResOk.sv; exact rfl; (rw [hL]); exact rfl; exact rfl)
set_option maxRecDepth 100000 in
theorem refCheck (l : List Int) (_hl : l.length < 1000000000) : Pure Try.prog 39 [graph (intG N), ints l] (.s (.v (.int .i64 (if l.length = N.length ∧ chkL N [] l = true then 0 else 12)))) := by
  have hv : validG (intG N) = true := valid_intG hN
  have h1 := refValid (intG N) (by rw [List.length_map]; omega) (fun r h => by
    obtain ⟨q, hq, rfl⟩ := List.mem_map.1 h
    have := hr q hq
    rw [intR, List.length_map]; omega)
  rw [hv] at h1
  have hmay := refMay N hN hr
  have hgl : (gE (intG N)).length = N.length := by simp [gE, intG]
  refine pure_of_wt Try.func39 rfl (by decide) _ Try.ntmps39 rfl Try.results39 fun w0 => ?_
  by_cases hll : l.length = N.length
  · repeat' (first
    | (exfalso; omega) | (apply RunK.indexN; exact rfl; exact rfl; exact rfl; (first | exact rfl | exact (rfl : (0 : Int) = ((0 : Nat) : Int)) | exact (rfl : (1 : Int) = ((1 : Nat) : Int)) | exact (rfl : (2 : Int) = ((2 : Nat) : Int)) | exact (rfl : (3 : Int) = ((3 : Nat) : Int)) | assumption); (first | omega | exact lt_of_get ‹_› | (rw [List.length_map]; omega) | (simp; omega))) | (apply RunK.loadNS; exact rfl; exact rfl; assumption; exact rfl) | (apply RunK.lenNs; exact rfl; exact rfl) | (apply RunK.moveNs; exact rfl; exact rfl) | (apply RunK.assignNs; exact rfl; exact rfl) | (apply RunK.callS; exact rfl; exact rfl; exact h1; (repeat (first | exact ArgsLe.nil | refine ArgsLe.cons ?_ ?_ | exact ArgLe.v _ | exact ArgLe.sl _ _ _ _ | exact ArgLe.nil _ | exact ArgLe.nil' | exact ArgLe.nsl _ _ _ _ _ | exact ArgLe.nsn _ | (apply ArgLe.bsl; exact rfl; (first | exact rfl | (rw [List.length_map]; done) | (simp only [List.length_map]; done) | (simp; done) | (simp; omega)); (first | assumption | exact map_len (fun _ => rfl))))); exact rfl) | (apply RunK.makeSlE (n := N.length); exact rfl; exact rfl; exact rfl; exact (by simp); exact (by simp); exact (by omega); exact rfl)
    | refine Wt.seq ?_
    | (apply Wt.regionK; exact rfl)
    | refine Wt.block ?_
    | refine Wt.skip ?_
    | refine RunK.nil ?_
    | (apply RunK.assignV; exact rfl; exact rfl)
    | (apply RunK.moveS; exact rfl; exact rfl)
    | (apply RunK.assignS; exact rfl; exact rfl)
    | (apply RunK.neq; exact rfl; exact rfl; exact rfl)
    | (apply RunK.not; exact rfl; exact rfl)
    | (apply RunK.len; exact rfl; exact rfl)
    | (apply Wt.cond; exact rfl; all_goals (intro hg; (first | exact absurd hg (by decide) | skip); (first | (with_reducible replace hg := not_t hg) | (with_reducible replace hg := not_f hg) | skip); (first | (with_reducible replace hg := dec_t hg) | (with_reducible replace hg := dec_f hg) | skip); (first | (with_reducible exact absurd rfl hg) | skip); (repeat rw [List.length_map] at hg); try (exfalso; omega))))
    rw [inB_nil]
    have hl0 := inB_len N.length []
    refine Wt.thaw 5 5 rfl rfl rfl ?_
    refine Wt.loop (fun i : Nat => ⟨[(0, .s (graph (intG N))), (1, .s (ints l)), (5, .bsl 5 0 1 N.length), (6, .s (.v (.int .i64 i)))], [(5, (inB N.length ((l.take i).map Int.toNat)).flatten)]⟩) (fun i => i ≤ l.length ∧ chkL N [] l = chkL N ((l.take i).map Int.toNat) (l.drop i)) (fun i => l.length - i) 0 ⟨Nat.zero_le _, rfl⟩ ?_ ?_
    · (refine Le.mk ?_ ?_; (repeat' (first | exact LeEnv.done | (refine LeEnv.consN ?_ ?_; exact rfl) | refine LeEnv.cons ?_ ?_ | exact PVLe.refl _ | exact PVLe.s (SVLe.nil _ _ _) | exact PVLe.s (SVLe.no _ _ _ _) | (refine PVLe.int ?_; first | rfl | omega | (simp; done) | (simp; omega)) | (refine PVLe.els ?_; first | rfl | assumption | (simp; done)) | (refine PVLe.bool ?_; first | rfl | assumption) | (refine PVLe.hdE ?_; first | rfl | assumption) | (refine PVLe.bsl ?_; first | rfl | assumption | (simp; done) | (simp; omega)))); (repeat' (first | exact LeBox.done | (refine LeBox.consN ?_ ?_; exact rfl) | (refine LeBox.cons ?_ ?_; exact rfl) | (refine LeBox.consE rfl ?_ ?_; first | assumption | (refine congrArg List.flatten ?_; first | rfl | assumption | (symm; assumption))))))
    · rintro i ⟨hi, hck⟩
      by_cases hit : i < l.length
      · obtain ⟨z, hz⟩ := exists_at hit
        have hz2 := get_map (f := ival) hz
        have hdr : l.drop i = z :: l.drop (i + 1) := by rw [List.drop_eq_getElem_cons hit]; congr 1; rw [List.getElem?_eq_getElem hit] at hz; injection hz
        have htk : (l.take (i + 1)).map Int.toNat = (l.take i).map Int.toNat ++ [z.toNat] := by rw [List.take_add_one, hz]; simp
        rw [hdr] at hck
        have hbl := inB_len N.length ((l.take i).map Int.toNat)
        have hbw := inB_wid N.length ((l.take i).map Int.toNat)
        by_cases hzr : 0 ≤ z ∧ z < N.length
        · obtain ⟨x, rfl⟩ : ∃ x : Nat, z = (x : Int) := ⟨z.toNat, by omega⟩
          have hxn : x < N.length := by omega
          rw [chk_step N _ _ _ hzr.1 hzr.2] at hck
          rw [Int.toNat_natCast] at hck htk
          have hc1 := hmay ((l.take i).map Int.toNat) x hxn
          have hset := inB_set ((l.take i).map Int.toNat) hxn
          have hat := inB_at ((l.take i).map Int.toNat) hxn
          rw [← htk] at hset
          generalize hI : inB N.length ((l.take i).map Int.toNat) = I at *
          clear hmay
          cases hb : mayB N ((l.take i).map Int.toNat) x with
          | true =>
            rw [hb] at hc1 hck
            repeat' (first
    | (apply RunK.indexN; exact rfl; exact rfl; exact rfl; (first | exact rfl | exact (rfl : (0 : Int) = ((0 : Nat) : Int)) | exact (rfl : (1 : Int) = ((1 : Nat) : Int)) | exact (rfl : (2 : Int) = ((2 : Nat) : Int)) | exact (rfl : (3 : Int) = ((3 : Nat) : Int)) | assumption); (first | omega | exact lt_of_get ‹_› | (rw [List.length_map]; omega) | (simp; omega))) | (apply RunK.loadNS; exact rfl; exact rfl; assumption; exact rfl) | (apply RunK.lenNs; exact rfl; exact rfl) | (apply RunK.moveNs; exact rfl; exact rfl) | (apply RunK.assignNs; exact rfl; exact rfl) | (apply RunK.callS; exact rfl; exact rfl; exact hc1; (exact .cons (.nsl _ _ _ _ _) (.cons (by apply ArgLe.bsl; exact rfl; (first | exact hbl.symm | exact hbl); exact hbw) (.cons (.v _) .nil))); exact rfl)
    | refine Wt.seq ?_
    | (apply Wt.regionK; exact rfl)
    | refine Wt.block ?_
    | refine Wt.skip ?_
    | refine RunK.nil ?_
    | (apply RunK.moveV; exact rfl; exact rfl)
    | (apply RunK.index; exact rfl; exact rfl; exact rfl; (first | exact rfl | exact (rfl : (0 : Int) = ((0 : Nat) : Int)) | exact (rfl : (1 : Int) = ((1 : Nat) : Int)) | exact (rfl : (2 : Int) = ((2 : Nat) : Int)) | exact (rfl : (3 : Int) = ((3 : Nat) : Int)) | assumption); (first | omega | exact lt_of_get ‹_› | (rw [List.length_map]; omega) | (simp; omega)))
    | (apply RunK.loadE1; exact rfl; exact rfl; assumption; exact rfl)
    | (apply RunK.assignV; exact rfl; exact rfl)
    | (apply RunK.moveS; exact rfl; exact rfl)
    | (apply RunK.moveBs; exact rfl; exact rfl)
    | (apply RunK.indexS; exact rfl; exact rfl; exact rfl; (first | exact rfl | exact (rfl : (0 : Int) = ((0 : Nat) : Int)) | exact (rfl : (1 : Int) = ((1 : Nat) : Int)) | exact (rfl : (2 : Int) = ((2 : Nat) : Int)) | exact (rfl : (3 : Int) = ((3 : Nat) : Int)) | assumption); (first | omega | exact lt_of_get ‹_› | (rw [List.length_map]; omega) | (simp; omega)))
    | (apply RunK.pickF; exact rfl; exact rfl; exact rfl)
    | (apply RunK.geq; exact rfl; exact rfl; exact rfl)
    | (apply RunK.lss; exact rfl; exact rfl; exact rfl)
    | (apply RunK.add; exact rfl; exact rfl; exact rfl; (first | omega | (simp only [List.length_map]; omega)))
    | (apply RunK.not; exact rfl; exact rfl)
    | (apply RunK.len; exact rfl; exact rfl)
    | (apply RunK.storeF; exact rfl; exact rfl; exact rfl; exact rfl; (first | exact off0 _ _ | exact off1 _ _ _ | exact off2 _ _ _ _ | exact off3 _ _ _ _ _ | omega); (first | assumption | exact map_len (fun _ => rfl)); assumption; exact rfl; exact rfl; exact rfl; (first | exact Cells.agg _ | exact Cells.int _ _ | exact Cells.bool _ | exact Cells.one _ rfl); (repeat (first | exact Upd.nil _ | apply Upd.cons | apply Upd.skip)))
    | (apply RunK.guard; exact rfl; exact rfl; exact rfl; all_goals (intro hg; (first | exact absurd hg (by decide) | skip); (first | (with_reducible replace hg := not_t hg) | (with_reducible replace hg := not_f hg) | skip); (first | (with_reducible replace hg := dec_t hg) | (with_reducible replace hg := dec_f hg) | skip); (first | (with_reducible exact absurd rfl hg) | skip); (repeat rw [List.length_map] at hg); try (exfalso; omega)))
    | (apply Wt.cond; exact rfl; all_goals (intro hg; (first | exact absurd hg (by decide) | skip); (first | (with_reducible replace hg := not_t hg) | (with_reducible replace hg := not_f hg) | skip); (first | (with_reducible replace hg := dec_t hg) | (with_reducible replace hg := dec_f hg) | skip); (first | (with_reducible exact absurd rfl hg) | skip); (repeat rw [List.length_map] at hg); try (exfalso; omega))))
            all_goals first
              | (exfalso; omega)
              | (refine ⟨i + 1, ⟨hit, by rw [hck, htk]; rfl⟩, by omega, ?_⟩; rw [← hset]; (refine Le.mk ?_ ?_; (repeat' (first | exact LeEnv.done | (refine LeEnv.consN ?_ ?_; exact rfl) | refine LeEnv.cons ?_ ?_ | exact PVLe.refl _ | exact PVLe.s (SVLe.nil _ _ _) | exact PVLe.s (SVLe.no _ _ _ _) | (refine PVLe.int ?_; first | rfl | omega | (simp; done) | (simp; omega)) | (refine PVLe.els ?_; first | rfl | assumption | (simp; done)) | (refine PVLe.bool ?_; first | rfl | assumption) | (refine PVLe.hdE ?_; first | rfl | assumption) | (refine PVLe.bsl ?_; first | rfl | assumption | (simp; done) | (simp; omega)))); (repeat' (first | exact LeBox.done | (refine LeBox.consN ?_ ?_; exact rfl) | (refine LeBox.cons ?_ ?_; exact rfl) | (refine LeBox.consE rfl ?_ ?_; first | assumption | (refine congrArg List.flatten ?_; first | rfl | assumption | (symm; assumption)))))))
          | false =>
            rw [hb] at hc1 hck
            rw [if_neg fun h => by rw [hck] at h; exact absurd h.2 (by simp)]
            repeat' (first
    | (apply RunK.indexN; exact rfl; exact rfl; exact rfl; (first | exact rfl | exact (rfl : (0 : Int) = ((0 : Nat) : Int)) | exact (rfl : (1 : Int) = ((1 : Nat) : Int)) | exact (rfl : (2 : Int) = ((2 : Nat) : Int)) | exact (rfl : (3 : Int) = ((3 : Nat) : Int)) | assumption); (first | omega | exact lt_of_get ‹_› | (rw [List.length_map]; omega) | (simp; omega))) | (apply RunK.loadNS; exact rfl; exact rfl; assumption; exact rfl) | (apply RunK.lenNs; exact rfl; exact rfl) | (apply RunK.moveNs; exact rfl; exact rfl) | (apply RunK.assignNs; exact rfl; exact rfl) | (apply RunK.callS; exact rfl; exact rfl; exact hc1; (exact .cons (.nsl _ _ _ _ _) (.cons (by apply ArgLe.bsl; exact rfl; (first | exact hbl.symm | exact hbl); exact hbw) (.cons (.v _) .nil))); exact rfl)
    | refine Wt.seq ?_
    | (apply Wt.regionK; exact rfl)
    | refine Wt.ret ?_
    | refine Wt.block ?_
    | refine Wt.skip ?_
    | refine RunK.nil ?_
    | (apply RunK.moveV; exact rfl; exact rfl)
    | (apply RunK.index; exact rfl; exact rfl; exact rfl; (first | exact rfl | exact (rfl : (0 : Int) = ((0 : Nat) : Int)) | exact (rfl : (1 : Int) = ((1 : Nat) : Int)) | exact (rfl : (2 : Int) = ((2 : Nat) : Int)) | exact (rfl : (3 : Int) = ((3 : Nat) : Int)) | assumption); (first | omega | exact lt_of_get ‹_› | (rw [List.length_map]; omega) | (simp; omega)))
    | (apply RunK.loadE1; exact rfl; exact rfl; assumption; exact rfl)
    | (apply RunK.assignV; exact rfl; exact rfl)
    | (apply RunK.moveS; exact rfl; exact rfl)
    | (apply RunK.moveBs; exact rfl; exact rfl)
    | (apply RunK.pickF; exact rfl; exact rfl; exact rfl)
    | (apply RunK.geq; exact rfl; exact rfl; exact rfl)
    | (apply RunK.lss; exact rfl; exact rfl; exact rfl)
    | (apply RunK.not; exact rfl; exact rfl)
    | (apply RunK.len; exact rfl; exact rfl)
    | (apply RunK.guard; exact rfl; exact rfl; exact rfl; all_goals (intro hg; (first | exact absurd hg (by decide) | skip); (first | (with_reducible replace hg := not_t hg) | (with_reducible replace hg := not_f hg) | skip); (first | (with_reducible replace hg := dec_t hg) | (with_reducible replace hg := dec_f hg) | skip); (first | (with_reducible exact absurd rfl hg) | skip); (repeat rw [List.length_map] at hg); try (exfalso; omega)))
    | (apply Wt.cond; exact rfl; all_goals (intro hg; (first | exact absurd hg (by decide) | skip); (first | (with_reducible replace hg := not_t hg) | (with_reducible replace hg := not_f hg) | skip); (first | (with_reducible replace hg := dec_t hg) | (with_reducible replace hg := dec_f hg) | skip); (first | (with_reducible exact absurd rfl hg) | skip); (repeat rw [List.length_map] at hg); try (exfalso; omega))))
            all_goals first
              | (exfalso; omega)
              | (apply ResOk.v1; exact rfl; exact rfl)
        · have hf : chkL N [] l = false := by
            rw [hck, chkL]
            by_cases h1 : 0 ≤ z
            · rw [decide_eq_false (p := z < (N.length : Int)) fun h2 => hzr ⟨h1, h2⟩]; simp
            · rw [decide_eq_false h1]; rfl
          rw [if_neg fun h => by rw [hf] at h; exact absurd h.2 (by decide)]
          clear hck hf hmay
          repeat' (first
    | (exfalso; omega) | (apply RunK.indexN; exact rfl; exact rfl; exact rfl; (first | exact rfl | exact (rfl : (0 : Int) = ((0 : Nat) : Int)) | exact (rfl : (1 : Int) = ((1 : Nat) : Int)) | exact (rfl : (2 : Int) = ((2 : Nat) : Int)) | exact (rfl : (3 : Int) = ((3 : Nat) : Int)) | assumption); (first | omega | exact lt_of_get ‹_› | (rw [List.length_map]; omega) | (simp; omega))) | (apply RunK.loadNS; exact rfl; exact rfl; assumption; exact rfl) | (apply RunK.lenNs; exact rfl; exact rfl) | (apply RunK.moveNs; exact rfl; exact rfl) | (apply RunK.assignNs; exact rfl; exact rfl)
    | refine Wt.seq ?_
    | (apply Wt.regionK; exact rfl)
    | refine Wt.ret ?_
    | refine Wt.block ?_
    | refine Wt.skip ?_
    | refine RunK.nil ?_
    | (apply RunK.moveV; exact rfl; exact rfl)
    | (apply RunK.index; exact rfl; exact rfl; exact rfl; (first | exact rfl | exact (rfl : (0 : Int) = ((0 : Nat) : Int)) | exact (rfl : (1 : Int) = ((1 : Nat) : Int)) | exact (rfl : (2 : Int) = ((2 : Nat) : Int)) | exact (rfl : (3 : Int) = ((3 : Nat) : Int)) | assumption); (first | omega | exact lt_of_get ‹_› | (rw [List.length_map]; omega) | (simp; omega)))
    | (apply RunK.loadE1; exact rfl; exact rfl; assumption; exact rfl)
    | (apply RunK.assignV; exact rfl; exact rfl)
    | (apply RunK.moveS; exact rfl; exact rfl)
    | (apply RunK.pickT; exact rfl; exact rfl; exact rfl)
    | (apply RunK.pickF; exact rfl; exact rfl; exact rfl)
    | (apply RunK.geq; exact rfl; exact rfl; exact rfl)
    | (apply RunK.lss; exact rfl; exact rfl; exact rfl)
    | (apply RunK.len; exact rfl; exact rfl)
    | (apply RunK.skip; exact rfl; exact rfl)
    | (apply RunK.guard; exact rfl; exact rfl; exact rfl; all_goals (intro hg; (first | exact absurd hg (by decide) | skip); (first | (with_reducible replace hg := not_t hg) | (with_reducible replace hg := not_f hg) | skip); (first | (with_reducible replace hg := dec_t hg) | (with_reducible replace hg := dec_f hg) | skip); (first | (with_reducible exact absurd rfl hg) | skip); (repeat rw [List.length_map] at hg); try (exfalso; omega)))
    | (apply Wt.cond; exact rfl; all_goals (intro hg; (first | exact absurd hg (by decide) | skip); (first | (with_reducible replace hg := not_t hg) | (with_reducible replace hg := not_f hg) | skip); (first | (with_reducible replace hg := dec_t hg) | (with_reducible replace hg := dec_f hg) | skip); (first | (with_reducible exact absurd rfl hg) | skip); (repeat rw [List.length_map] at hg); try (exfalso; omega))))
          all_goals first
            | (exfalso; omega)
            | (apply ResOk.v1; exact rfl; exact rfl)
      · obtain rfl : i = l.length := by omega
        rw [List.drop_length] at hck
        rw [if_pos ⟨hll, hck⟩]
        repeat' (first
    | (apply RunK.indexN; exact rfl; exact rfl; exact rfl; (first | exact rfl | exact (rfl : (0 : Int) = ((0 : Nat) : Int)) | exact (rfl : (1 : Int) = ((1 : Nat) : Int)) | exact (rfl : (2 : Int) = ((2 : Nat) : Int)) | exact (rfl : (3 : Int) = ((3 : Nat) : Int)) | assumption); (first | omega | exact lt_of_get ‹_› | (rw [List.length_map]; omega) | (simp; omega))) | (apply RunK.loadNS; exact rfl; exact rfl; assumption; exact rfl) | (apply RunK.lenNs; exact rfl; exact rfl) | (apply RunK.moveNs; exact rfl; exact rfl) | (apply RunK.assignNs; exact rfl; exact rfl)
    | refine Wt.seq ?_
    | (apply Wt.regionK; exact rfl)
    | refine Wt.ret ?_
    | refine Wt.exit ?_
    | refine RunK.nil ?_
    | (apply RunK.moveV; exact rfl; exact rfl)
    | (apply RunK.assignV; exact rfl; exact rfl)
    | (apply RunK.moveS; exact rfl; exact rfl)
    | (apply RunK.lss; exact rfl; exact rfl; exact rfl)
    | (apply RunK.len; exact rfl; exact rfl)
    | (apply Wt.cond; exact rfl; all_goals (intro hg; (first | exact absurd hg (by decide) | skip); (first | (with_reducible replace hg := not_t hg) | (with_reducible replace hg := not_f hg) | skip); (first | (with_reducible replace hg := dec_t hg) | (with_reducible replace hg := dec_f hg) | skip); (first | (with_reducible exact absurd rfl hg) | skip); (repeat rw [List.length_map] at hg); try (exfalso; omega))))
        all_goals (apply ResOk.v1; exact rfl; exact rfl)
  · rw [if_neg fun h => hll h.1]
    repeat' (first
    | (apply RunK.indexN; exact rfl; exact rfl; exact rfl; (first | exact rfl | exact (rfl : (0 : Int) = ((0 : Nat) : Int)) | exact (rfl : (1 : Int) = ((1 : Nat) : Int)) | exact (rfl : (2 : Int) = ((2 : Nat) : Int)) | exact (rfl : (3 : Int) = ((3 : Nat) : Int)) | assumption); (first | omega | exact lt_of_get ‹_› | (rw [List.length_map]; omega) | (simp; omega))) | (apply RunK.loadNS; exact rfl; exact rfl; assumption; exact rfl) | (apply RunK.lenNs; exact rfl; exact rfl) | (apply RunK.moveNs; exact rfl; exact rfl) | (apply RunK.assignNs; exact rfl; exact rfl) | (apply RunK.callS; exact rfl; exact rfl; exact h1; (repeat (first | exact ArgsLe.nil | refine ArgsLe.cons ?_ ?_ | exact ArgLe.v _ | exact ArgLe.sl _ _ _ _ | exact ArgLe.nil _ | exact ArgLe.nil' | exact ArgLe.nsl _ _ _ _ _ | exact ArgLe.nsn _ | (apply ArgLe.bsl; exact rfl; (first | exact rfl | (rw [List.length_map]; done) | (simp only [List.length_map]; done) | (simp; done) | (simp; omega)); (first | assumption | exact map_len (fun _ => rfl))))); exact rfl)
    | refine Wt.seq ?_
    | (apply Wt.regionK; exact rfl)
    | refine Wt.ret ?_
    | refine Wt.skip ?_
    | refine RunK.nil ?_
    | (apply RunK.assignV; exact rfl; exact rfl)
    | (apply RunK.moveS; exact rfl; exact rfl)
    | (apply RunK.neq; exact rfl; exact rfl; exact rfl)
    | (apply RunK.not; exact rfl; exact rfl)
    | (apply RunK.len; exact rfl; exact rfl)
    | (apply Wt.cond; exact rfl; all_goals (intro hg; (first | exact absurd hg (by decide) | skip); (first | (with_reducible replace hg := not_t hg) | (with_reducible replace hg := not_f hg) | skip); (first | (with_reducible replace hg := dec_t hg) | (with_reducible replace hg := dec_f hg) | skip); (first | (with_reducible exact absurd rfl hg) | skip); (repeat rw [List.length_map] at hg); try (exfalso; omega))))
    all_goals first
      | (exfalso; omega)
      | (apply ResOk.v1; exact rfl; exact rfl)
end
end Go.Proofs.Ytfokjpmcifkoeaa
