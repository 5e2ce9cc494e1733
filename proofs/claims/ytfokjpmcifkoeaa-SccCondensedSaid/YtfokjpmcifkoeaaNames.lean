/- The law SccNames, from what says, awake and scc's functions give at its graphs. No condition. -/
import Derived.Test.YtfokjpmcifkoeaaCV0
namespace Go.Proofs.Ytfokjpmcifkoeaa
open Pv Go.RowKit Scc
def ringN (k : Nat) : List (List Int) := (List.range k).map fun (i : Nat) => [((i : Int) + 1).tmod 50]
def allN (k : Nat) : List (List Int) := (List.range k).map fun (i : Nat) => [(i : Int)]
def wholeN (k : Nat) : List Int := (List.range k).map fun (i : Nat) => (i : Int)
set_option maxRecDepth 100000 in
theorem ringN_s (k : Nat) : ringN (k + 1) = ringN k ++ [[((k : Int) + 1).tmod 50]] := by simp [ringN, List.range_succ]
set_option maxRecDepth 100000 in
theorem allN_s (k : Nat) : allN (k + 1) = allN k ++ [[(k : Int)]] := by simp [allN, List.range_succ]
set_option maxRecDepth 100000 in
theorem wholeN_s (k : Nat) : wholeN (k + 1) = wholeN k ++ [(k : Int)] := by simp [wholeN, List.range_succ]
set_option maxRecDepth 100000 in
theorem wholeN_l (k : Nat) : (wholeN k).length = k := by simp [wholeN]
def badsN : List Int := [-1, 2, 4611686018427387904, -9223372036854775808]
set_option maxHeartbeats 4000000 in
set_option maxRecDepth 100000 in
theorem names0 (hE : ∀ y ∈ badsN, Pure Try.prog 19 [graph [[0], [1, y]]] (.tup [graphR [], .v (.int .i64 3)]) ∧ Pure Try.prog 20 [graph [[0], [1, y]]] (.tup [intsR [], .v (.int .i64 3)]) ∧ Pure Try.prog 21 [graph [[0], [1, y]]] (.tup [graphR [], .v (.int .i64 3)]))
    (s1 : Pure Try.prog 22 [graph [], graph [], ints [], graph []] (.s (.v (.bool true))))
    (s2 : Pure Try.prog 22 [graph [[], []], graph [[0], [1]], ints [], graph [[], []]] (.s (.v (.bool true))))
    (s3 : Pure Try.prog 22 [graph (ringN 50), graph [wholeN 50], ints (wholeN 50), graph [[]]] (.s (.v (.bool true))))
    (s4 : Pure Try.prog 22 [graph ((allN 50).take 3), graph ((allN 50).take 3), ints [0, 1, 2], graph [[], [], []]] (.s (.v (.bool true))))
    (haw : Pure Try.prog 23 [] (.s (.v (.bool true)))) : Pure Try.prog 5 [] (.s (.v (.bool true))) := by
  refine pure_of_wt Try.func5 rfl (by decide) _ Try.ntmps5 rfl Try.results5 fun w0 => ?_
  repeat' (first
    | (apply RunK.indexN; exact rfl; exact rfl; exact rfl; (first | exact rfl | exact (rfl : (0 : Int) = ((0 : Nat) : Int)) | exact (rfl : (1 : Int) = ((1 : Nat) : Int)) | exact (rfl : (2 : Int) = ((2 : Nat) : Int)) | exact (rfl : (3 : Int) = ((3 : Nat) : Int)) | assumption); (first | omega | exact lt_of_get ‹_› | (rw [List.length_map]; omega) | (simp; omega))) | (apply RunK.loadNS; exact rfl; exact rfl; assumption; exact rfl) | (apply RunK.lenNs; exact rfl; exact rfl) | (apply RunK.moveNs; exact rfl; exact rfl) | (apply RunK.assignNs; exact rfl; exact rfl) | (apply RunK.buildNsl; exact rfl; exact rfl; (repeat (first | exact PartsE.nil | (apply PartsE.sl; exact rfl) | (apply PartsE.nl; exact rfl))); exact rfl; exact rfl; exact rfl)
    | refine Wt.seq ?_
    | (apply Wt.regionK; exact rfl)
    | refine Wt.block ?_
    | refine RunK.nil ?_
    | (apply RunK.moveV; exact rfl; exact rfl)
    | (apply RunK.assignV; exact rfl; exact rfl)
    | (apply RunK.len; exact rfl; exact rfl)
    | (apply RunK.rows; exact rfl; exact rfl; (repeat (first | exact PartsOk.nil | (apply PartsOk.cons; exact rfl) | (apply PartsOk.consN; exact rfl))); (repeat (first | exact Rows.nil _ | (apply Rows.cons; (first | exact Cells.agg _ | exact Cells.int _ _ | exact Cells.bool _ | exact Cells.one _ rfl); exact rfl))); exact rfl; exact rfl))
  refine Wt.le ⟨[(14, .s (.sl (some 14) .no 1 (badsN.map ival))), (15, .s (.v (.int .i64 4))), (16, .s (.v (.int .i64 0)))], []⟩ (by (refine Le.mk ?_ ?_; (repeat' (first | exact LeEnv.done | refine LeEnv.cons ?_ ?_ | exact PVLe.refl _ | exact PVLe.s (SVLe.nil _ _ _) | exact PVLe.s (SVLe.no _ _ _ _) | (refine PVLe.int ?_; first | rfl | omega | (simp; done) | (simp; omega)) | (refine PVLe.els ?_; first | rfl | assumption | (simp; done)) | (refine PVLe.bool ?_; first | rfl | assumption) | (refine PVLe.bsl ?_; first | rfl | assumption | (simp; done))));  (repeat' (first | exact LeBox.done | refine LeBox.cons ?_ ?_ | exact rfl)))) ?_
  refine Wt.loop (fun k : Nat => ⟨[(14, .s (.sl (some 14) .no 1 (badsN.map ival))), (15, .s (.v (.int .i64 4))), (16, .s (.v (.int .i64 k)))], []⟩) (fun k => k ≤ 4) (fun k => 4 - k) 0 (Nat.zero_le _) ?_ ?_
  · (refine Le.mk ?_ ?_; (repeat' (first | exact LeEnv.done | refine LeEnv.cons ?_ ?_ | exact PVLe.refl _ | exact PVLe.s (SVLe.nil _ _ _) | exact PVLe.s (SVLe.no _ _ _ _) | (refine PVLe.int ?_; first | rfl | omega | (simp; done) | (simp; omega)) | (refine PVLe.els ?_; first | rfl | assumption | (simp; done)) | (refine PVLe.bool ?_; first | rfl | assumption) | (refine PVLe.bsl ?_; first | rfl | assumption | (simp; done))));  (repeat' (first | exact LeBox.done | refine LeBox.cons ?_ ?_ | exact rfl)))
  · intro k hk
    by_cases hlt : k < 4
    · obtain ⟨y, hy⟩ := exists_at (l := badsN) (k := k) hlt
      have hy2 := get_map (f := ival) hy
      obtain ⟨c1, c2, c3⟩ := hE y (List.mem_of_getElem? hy)
      have hbl : (badsN.map ival).length = 4 := rfl
      clear hE s1 s2 s3 s4 haw
      repeat' (first
    | (apply RunK.indexN; exact rfl; exact rfl; exact rfl; (first | exact rfl | exact (rfl : (0 : Int) = ((0 : Nat) : Int)) | exact (rfl : (1 : Int) = ((1 : Nat) : Int)) | exact (rfl : (2 : Int) = ((2 : Nat) : Int)) | exact (rfl : (3 : Int) = ((3 : Nat) : Int)) | assumption); (first | omega | exact lt_of_get ‹_› | (rw [List.length_map]; omega) | (simp; omega))) | (apply RunK.loadNS; exact rfl; exact rfl; assumption; exact rfl) | (apply RunK.lenNs; exact rfl; exact rfl) | (apply RunK.moveNs; exact rfl; exact rfl) | (apply RunK.assignNs; exact rfl; exact rfl) | (apply RunK.buildNsl; exact rfl; exact rfl; (repeat (first | exact PartsE.nil | (apply PartsE.sl; exact rfl) | (apply PartsE.nl; exact rfl))); exact rfl; exact rfl; exact rfl) | (apply RunK.callT; exact rfl; exact rfl; exact c1; (repeat (first | exact ArgsLe.nil | refine ArgsLe.cons ?_ ?_ | exact ArgLe.v _ | exact ArgLe.sl _ _ _ _ | exact ArgLe.nil _ | exact ArgLe.nil' | exact ArgLe.nsl _ _ _ _ _ | exact ArgLe.nsn _ | (apply ArgLe.bsl; exact rfl; (first | exact rfl | (rw [List.length_map]; done) | (simp only [List.length_map]; done) | (simp; done) | (simp; omega)); (first | assumption | exact map_len (fun _ => rfl))))); exact rfl) | (apply RunK.callT; exact rfl; exact rfl; exact c2; (repeat (first | exact ArgsLe.nil | refine ArgsLe.cons ?_ ?_ | exact ArgLe.v _ | exact ArgLe.sl _ _ _ _ | exact ArgLe.nil _ | exact ArgLe.nil' | exact ArgLe.nsl _ _ _ _ _ | exact ArgLe.nsn _ | (apply ArgLe.bsl; exact rfl; (first | exact rfl | (rw [List.length_map]; done) | (simp only [List.length_map]; done) | (simp; done) | (simp; omega)); (first | assumption | exact map_len (fun _ => rfl))))); exact rfl) | (apply RunK.callT; exact rfl; exact rfl; exact c3; (repeat (first | exact ArgsLe.nil | refine ArgsLe.cons ?_ ?_ | exact ArgLe.v _ | exact ArgLe.sl _ _ _ _ | exact ArgLe.nil _ | exact ArgLe.nil' | exact ArgLe.nsl _ _ _ _ _ | exact ArgLe.nsn _ | (apply ArgLe.bsl; exact rfl; (first | exact rfl | (rw [List.length_map]; done) | (simp only [List.length_map]; done) | (simp; done) | (simp; omega)); (first | assumption | exact map_len (fun _ => rfl))))); exact rfl)
    | refine Wt.seq ?_
    | (apply Wt.regionK; exact rfl)
    | refine Wt.block ?_
    | refine Wt.skip ?_
    | refine RunK.nil ?_
    | (apply RunK.moveV; exact rfl; exact rfl)
    | (apply RunK.index; exact rfl; exact rfl; exact rfl; (first | exact rfl | exact (rfl : (0 : Int) = ((0 : Nat) : Int)) | exact (rfl : (1 : Int) = ((1 : Nat) : Int)) | exact (rfl : (2 : Int) = ((2 : Nat) : Int)) | exact (rfl : (3 : Int) = ((3 : Nat) : Int)) | assumption); (first | omega | exact lt_of_get ‹_› | (rw [List.length_map]; omega) | (simp; omega)))
    | (apply RunK.loadE1; exact rfl; exact rfl; assumption; exact rfl)
    | (apply RunK.assignV; exact rfl; exact rfl)
    | (apply RunK.moveT; exact rfl; exact rfl)
    | (apply RunK.assignS; exact rfl; exact rfl)
    | (apply RunK.pickF; exact rfl; exact rfl; exact rfl)
    | (apply RunK.lss; exact rfl; exact rfl; exact rfl)
    | (apply RunK.neq; exact rfl; exact rfl; exact rfl)
    | (apply RunK.add; exact rfl; exact rfl; exact rfl; (first | omega | (simp only [List.length_map]; omega)))
    | (apply RunK.extract; exact rfl; exact rfl; exact rfl)
    | (apply RunK.rows; exact rfl; exact rfl; (repeat (first | exact PartsOk.nil | (apply PartsOk.cons; exact rfl) | (apply PartsOk.consN; exact rfl))); (repeat (first | exact Rows.nil _ | (apply Rows.cons; (first | exact Cells.agg _ | exact Cells.int _ _ | exact Cells.bool _ | exact Cells.one _ rfl); exact rfl))); exact rfl; exact rfl)
    | (apply Wt.cond; exact rfl; all_goals (intro hg; (first | exact absurd hg (by decide) | skip); (first | (with_reducible replace hg := not_t hg) | (with_reducible replace hg := not_f hg) | skip); (first | (with_reducible replace hg := dec_t hg) | (with_reducible replace hg := dec_f hg) | skip); (first | (with_reducible exact absurd rfl hg) | skip); (repeat rw [List.length_map] at hg); try (exfalso; omega))))
      refine ⟨k + 1, hlt, by omega, by (refine Le.mk ?_ ?_; (repeat' (first | exact LeEnv.done | refine LeEnv.cons ?_ ?_ | exact PVLe.refl _ | exact PVLe.s (SVLe.nil _ _ _) | exact PVLe.s (SVLe.no _ _ _ _) | (refine PVLe.int ?_; first | rfl | omega | (simp; done) | (simp; omega)) | (refine PVLe.els ?_; first | rfl | assumption | (simp; done)) | (refine PVLe.bool ?_; first | rfl | assumption) | (refine PVLe.bsl ?_; first | rfl | assumption | (simp; done))));  (repeat' (first | exact LeBox.done | refine LeBox.cons ?_ ?_ | exact rfl)))⟩
    · clear hE
      repeat' (first
    | (apply RunK.indexN; exact rfl; exact rfl; exact rfl; (first | exact rfl | exact (rfl : (0 : Int) = ((0 : Nat) : Int)) | exact (rfl : (1 : Int) = ((1 : Nat) : Int)) | exact (rfl : (2 : Int) = ((2 : Nat) : Int)) | exact (rfl : (3 : Int) = ((3 : Nat) : Int)) | assumption); (first | omega | exact lt_of_get ‹_› | (rw [List.length_map]; omega) | (simp; omega))) | (apply RunK.loadNS; exact rfl; exact rfl; assumption; exact rfl) | (apply RunK.lenNs; exact rfl; exact rfl) | (apply RunK.moveNs; exact rfl; exact rfl) | (apply RunK.assignNs; exact rfl; exact rfl)
    | refine Wt.seq ?_
    | (apply Wt.regionK; exact rfl)
    | refine Wt.block ?_
    | refine Wt.exit ?_
    | refine RunK.nil ?_
    | (apply RunK.assignV; exact rfl; exact rfl)
    | (apply RunK.assignN; exact rfl; exact rfl)
    | (apply RunK.lss; exact rfl; exact rfl; exact rfl)
    | (apply Wt.cond; exact rfl; all_goals (intro hg; (first | exact absurd hg (by decide) | skip); (first | (with_reducible replace hg := not_t hg) | (with_reducible replace hg := not_f hg) | skip); (first | (with_reducible replace hg := dec_t hg) | (with_reducible replace hg := dec_f hg) | skip); (first | (with_reducible exact absurd rfl hg) | skip); (repeat rw [List.length_map] at hg); try (exfalso; omega))))
      refine Wt.weak (Turns.nestNils 2000000 1 1 0) ?_
      refine Wt.weak (Turns.nestNils 2000001 2 1 0) ?_
      refine Wt.loop (fun i : List NRow × List NRow => ⟨[(10, .s (.sl (some 10) (.front 23) 1 (hds i.1))), (11, .s (.sl (some 11) (.front 23) 1 (hds i.2))), (12, .s (.sl (some 0) (.front 3) 1 ((wholeN i.1.length).map ival))), (13, .s (.v (.int .i64 i.1.length))), (2000000, .nest 1 1 i.1), (2000001, .nest 2 1 i.2)], []⟩) (fun i => i.1.length ≤ 50 ∧ i.2.length = i.1.length ∧ i.1.map (·.els) = (ringN i.1.length).map (·.map ival) ∧ i.2.map (·.els) = (allN i.1.length).map (·.map ival)) (fun i => 50 - i.1.length) ([], []) ⟨Nat.zero_le _, rfl, rfl, rfl⟩ ?_ ?_
      · (refine Le.mk ?_ ?_; (repeat' (first | exact LeEnv.done | refine LeEnv.cons ?_ ?_ | exact PVLe.refl _ | exact PVLe.s (SVLe.nil _ _ _) | exact PVLe.s (SVLe.no _ _ _ _) | (refine PVLe.int ?_; first | rfl | omega | (simp; done) | (simp; omega)) | (refine PVLe.els ?_; first | rfl | assumption | (simp; done)) | (refine PVLe.bool ?_; first | rfl | assumption) | (refine PVLe.bsl ?_; first | rfl | assumption | (simp; done))));  (repeat' (first | exact LeBox.done | refine LeBox.cons ?_ ?_ | exact rfl)))
      · rintro ⟨R1, R2⟩ ⟨hk, hl2, hG1, hG2⟩
        dsimp only at hk hl2 hG1 hG2 ⊢
        have hwl := wholeN_l R1.length
        by_cases hlt : R1.length < 50
        · have hn0 : (50 : Int) ≠ 0 := by decide
          repeat' (first
    | (refine stopQ 17 ?_) | (apply RunK.indexN; exact rfl; exact rfl; exact rfl; (first | exact rfl | exact (rfl : (0 : Int) = ((0 : Nat) : Int)) | exact (rfl : (1 : Int) = ((1 : Nat) : Int)) | exact (rfl : (2 : Int) = ((2 : Nat) : Int)) | exact (rfl : (3 : Int) = ((3 : Nat) : Int)) | assumption); (first | omega | exact lt_of_get ‹_› | (rw [List.length_map]; omega) | (simp; omega))) | (apply RunK.loadNS; exact rfl; exact rfl; assumption; exact rfl) | (apply RunK.lenNs; exact rfl; exact rfl) | (apply RunK.moveNs; exact rfl; exact rfl) | (apply RunK.assignNs; exact rfl; exact rfl) | (apply RunK.bin; exact rfl; exact rfl; exact rfl; exact BinRun.rem hn0) | (apply RunK.buildN 2000000; exact rfl; (first | exact (fun _ => rfl) | exact (fun h => nomatch h)); (repeat (first | exact PartsC.nil | (apply PartsC.row; exact rfl; exact rfl) | (apply PartsC.nl; exact rfl) | (apply PartsC.v; exact rfl))); exact rfl; exact rfl; exact rfl; exact rfl; exact rfl; exact rfl; exact rfl; intro new hnew hcap; obtain ⟨r1, rfl, hr1⟩ := map_one hnew) | (apply RunK.appendE; exact rfl; (first | exact (fun _ => rfl) | exact (fun h => nomatch h)); exact rfl; (first | exact ReadLe.sl _ _ _ _ | exact ReadLe.nil _); exact one_hdr _ _ _ _; (first | exact app_b1 (by omega) | exact app_b2 (by omega) | exact app_b3 (by omega) | exact app_b4 (by omega) | exact app_b5 (by omega)))
    | refine Wt.seq ?_
    | (apply Wt.regionK; exact rfl)
    | refine Wt.block ?_
    | refine Wt.skip ?_
    | refine RunK.nil ?_
    | (apply RunK.moveV; exact rfl; exact rfl)
    | (apply RunK.moveS; exact rfl; exact rfl)
    | (apply RunK.assignS; exact rfl; exact rfl)
    | (apply RunK.lss; exact rfl; exact rfl; exact rfl)
    | (apply RunK.add; exact rfl; exact rfl; exact rfl; (first | omega | (simp only [List.length_map]; omega)))
    | (apply RunK.rows; exact rfl; exact rfl; (repeat (first | exact PartsOk.nil | (apply PartsOk.cons; exact rfl) | (apply PartsOk.consN; exact rfl))); (repeat (first | exact Rows.nil _ | (apply Rows.cons; (first | exact Cells.agg _ | exact Cells.int _ _ | exact Cells.bool _ | exact Cells.one _ rfl); exact rfl))); exact rfl; exact rfl)
    | (apply Wt.cond; exact rfl; all_goals (intro hg; (first | exact absurd hg (by decide) | skip); (first | (with_reducible replace hg := not_t hg) | (with_reducible replace hg := not_f hg) | skip); (first | (with_reducible replace hg := dec_t hg) | (with_reducible replace hg := dec_f hg) | skip); (first | (with_reducible exact absurd rfl hg) | skip); (repeat rw [List.length_map] at hg); try (exfalso; omega))))
          refine StoppedQ.mk' ?_
          generalize r1 = ra at *
          have hra := hr1
          clear hr1
          refine Wt.le ⟨[(10, .s (.sl (some 10) (.front 23) 1 (hds (R1 ++ [ra])))), (11, .s (.sl (some 11) (.front 23) 1 (hds R2))), (12, .s (.sl (some 0) (.front 3) 1 ((wholeN R1.length).map ival))), (13, .s (.v (.int .i64 R1.length))), (2000000, .nest 1 1 (R1 ++ [ra])), (2000001, .nest 2 1 R2)], []⟩ (by (refine Le.mk ?_ ?_; (repeat' (first | exact LeEnv.done | refine LeEnv.cons ?_ ?_ | exact PVLe.refl _ | exact PVLe.s (SVLe.nil _ _ _) | exact PVLe.s (SVLe.no _ _ _ _) | (refine PVLe.int ?_; first | rfl | omega | (simp; done) | (simp; omega)) | (refine PVLe.els ?_; first | exact hds_row _ _ _ _ _ | rfl | assumption | (simp; done)) | (refine PVLe.bool ?_; first | rfl | assumption) | (refine PVLe.bsl ?_; first | rfl | assumption | (simp; done))));  (repeat' (first | exact LeBox.done | refine LeBox.cons ?_ ?_ | exact rfl)))) ?_
          repeat' (first
    | (refine stopQ 18 ?_) | (apply RunK.indexN; exact rfl; exact rfl; exact rfl; (first | exact rfl | exact (rfl : (0 : Int) = ((0 : Nat) : Int)) | exact (rfl : (1 : Int) = ((1 : Nat) : Int)) | exact (rfl : (2 : Int) = ((2 : Nat) : Int)) | exact (rfl : (3 : Int) = ((3 : Nat) : Int)) | assumption); (first | omega | exact lt_of_get ‹_› | (rw [List.length_map]; omega) | (simp; omega))) | (apply RunK.loadNS; exact rfl; exact rfl; assumption; exact rfl) | (apply RunK.lenNs; exact rfl; exact rfl) | (apply RunK.moveNs; exact rfl; exact rfl) | (apply RunK.assignNs; exact rfl; exact rfl) | (apply RunK.buildN 2000001; exact rfl; (first | exact (fun _ => rfl) | exact (fun h => nomatch h)); (repeat (first | exact PartsC.nil | (apply PartsC.row; exact rfl; exact rfl) | (apply PartsC.nl; exact rfl) | (apply PartsC.v; exact rfl))); exact rfl; exact rfl; exact rfl; exact rfl; exact rfl; exact rfl; exact rfl; intro new hnew hcap; obtain ⟨r1, rfl, hr1⟩ := map_one hnew) | (apply RunK.appendE; exact rfl; (first | exact (fun _ => rfl) | exact (fun h => nomatch h)); exact rfl; (first | exact ReadLe.sl _ _ _ _ | exact ReadLe.nil _); exact one_hdr _ _ _ _; (first | exact app_b1 (by omega) | exact app_b2 (by omega) | exact app_b3 (by omega) | exact app_b4 (by omega) | exact app_b5 (by omega)))
    | (apply Wt.regionK; exact rfl)
    | refine RunK.nil ?_
    | (apply RunK.moveV; exact rfl; exact rfl)
    | (apply RunK.moveS; exact rfl; exact rfl)
    | (apply RunK.assignS; exact rfl; exact rfl)
    | (apply RunK.rows; exact rfl; exact rfl; (repeat (first | exact PartsOk.nil | (apply PartsOk.cons; exact rfl) | (apply PartsOk.consN; exact rfl))); (repeat (first | exact Rows.nil _ | (apply Rows.cons; (first | exact Cells.agg _ | exact Cells.int _ _ | exact Cells.bool _ | exact Cells.one _ rfl); exact rfl))); exact rfl; exact rfl))
          refine StoppedQ.mk' ?_
          refine Wt.le ⟨[(10, .s (.sl (some 10) (.front 23) 1 (hds (R1 ++ [ra])))), (11, .s (.sl (some 11) (.front 23) 1 (hds (R2 ++ [r1])))), (12, .s (.sl (some 0) (.front 3) 1 ((wholeN R1.length).map ival))), (13, .s (.v (.int .i64 R1.length))), (2000000, .nest 1 1 (R1 ++ [ra])), (2000001, .nest 2 1 (R2 ++ [r1]))], []⟩ (by (refine Le.mk ?_ ?_; (repeat' (first | exact LeEnv.done | refine LeEnv.cons ?_ ?_ | exact PVLe.refl _ | exact PVLe.s (SVLe.nil _ _ _) | exact PVLe.s (SVLe.no _ _ _ _) | (refine PVLe.int ?_; first | rfl | omega | (simp; done) | (simp; omega)) | (refine PVLe.els ?_; first | exact hds_row _ _ _ _ _ | rfl | assumption | (simp; done)) | (refine PVLe.bool ?_; first | rfl | assumption) | (refine PVLe.bsl ?_; first | rfl | assumption | (simp; done))));  (repeat' (first | exact LeBox.done | refine LeBox.cons ?_ ?_ | exact rfl)))) ?_
          repeat' (first
    | (apply RunK.indexN; exact rfl; exact rfl; exact rfl; (first | exact rfl | exact (rfl : (0 : Int) = ((0 : Nat) : Int)) | exact (rfl : (1 : Int) = ((1 : Nat) : Int)) | exact (rfl : (2 : Int) = ((2 : Nat) : Int)) | exact (rfl : (3 : Int) = ((3 : Nat) : Int)) | assumption); (first | omega | exact lt_of_get ‹_› | (rw [List.length_map]; omega) | (simp; omega))) | (apply RunK.loadNS; exact rfl; exact rfl; assumption; exact rfl) | (apply RunK.lenNs; exact rfl; exact rfl) | (apply RunK.moveNs; exact rfl; exact rfl) | (apply RunK.assignNs; exact rfl; exact rfl) | (apply RunK.append; exact rfl; exact rfl; exact rfl; (first | exact ReadLe.sl _ _ _ _ | exact ReadLe.nil _); exact rfl; (first | exact one_rows rfl | exact one_map (fun _ => rfl) _); (simp only [List.length_append, List.length_map, List.length_cons, List.length_nil]; omega))
    | (apply Wt.regionK; exact rfl)
    | refine RunK.nil ?_
    | (apply RunK.moveV; exact rfl; exact rfl)
    | (apply RunK.assignV; exact rfl; exact rfl)
    | (apply RunK.moveS; exact rfl; exact rfl)
    | (apply RunK.assignS; exact rfl; exact rfl)
    | (apply RunK.add; exact rfl; exact rfl; exact rfl; (first | omega | (simp only [List.length_map]; omega)))
    | (apply RunK.rows; exact rfl; exact rfl; (repeat (first | exact PartsOk.nil | (apply PartsOk.cons; exact rfl) | (apply PartsOk.consN; exact rfl))); (repeat (first | exact Rows.nil _ | (apply Rows.cons; (first | exact Cells.agg _ | exact Cells.int _ _ | exact Cells.bool _ | exact Cells.one _ rfl); exact rfl))); exact rfl; exact rfl))
          refine ⟨(R1 ++ [ra], R2 ++ [r1]), ⟨by simp; omega, by simp; omega, ?_, ?_⟩, by simp; omega, ?_⟩
          · rw [List.length_append, List.length_singleton, ringN_s]; simp [hG1, hra]; rfl
          · rw [List.length_append, List.length_singleton, allN_s]; simp [hG2, hr1]; rfl
          · dsimp only
            rw [List.length_append, List.length_singleton, wholeN_s, List.map_append]
            (refine Le.mk ?_ ?_; (repeat' (first | exact LeEnv.done | refine LeEnv.cons ?_ ?_ | exact PVLe.refl _ | exact PVLe.s (SVLe.nil _ _ _) | exact PVLe.s (SVLe.no _ _ _ _) | (refine PVLe.int ?_; first | rfl | omega | (simp; done) | (simp; omega)) | (refine PVLe.els ?_; first | exact hds_row _ _ _ _ _ | rfl | assumption | (simp; done)) | (refine PVLe.bool ?_; first | rfl | assumption) | (refine PVLe.bsl ?_; first | rfl | assumption | (simp; done))));  (repeat' (first | exact LeBox.done | refine LeBox.cons ?_ ?_ | exact rfl)))
        · obtain e : R1.length = 50 := by omega
          rw [e] at hG1 hG2
          rw [e]
          refine Wt.weak (Turns.freezeN 10 2000000 10 rfl rfl rfl hG1 rfl) ?_
          refine Wt.weak (Turns.freezeN 11 2000001 11 rfl rfl rfl hG2 rfl) ?_
          repeat' (first
    | (apply RunK.sliceToNs; exact rfl; exact rfl; exact rfl; (first | exact rfl | exact (rfl : (0 : Int) = ((0 : Nat) : Int)) | exact (rfl : (1 : Int) = ((1 : Nat) : Int)) | exact (rfl : (2 : Int) = ((2 : Nat) : Int)) | exact (rfl : (3 : Int) = ((3 : Nat) : Int)) | assumption); (simp only [List.length_map]; decide)) | (apply RunK.indexN; exact rfl; exact rfl; exact rfl; (first | exact rfl | exact (rfl : (0 : Int) = ((0 : Nat) : Int)) | exact (rfl : (1 : Int) = ((1 : Nat) : Int)) | exact (rfl : (2 : Int) = ((2 : Nat) : Int)) | exact (rfl : (3 : Int) = ((3 : Nat) : Int)) | assumption); (first | omega | exact lt_of_get ‹_› | (rw [List.length_map]; omega) | (simp; omega))) | (apply RunK.loadNS; exact rfl; exact rfl; assumption; exact rfl) | (apply RunK.lenNs; exact rfl; exact rfl) | (apply RunK.moveNs; exact rfl; exact rfl) | (apply RunK.assignNs; exact rfl; exact rfl) | (apply RunK.buildNsl; exact rfl; exact rfl; (repeat (first | exact PartsE.nil | (apply PartsE.sl; exact rfl) | (apply PartsE.nl; exact rfl))); exact rfl; exact rfl; exact rfl) | (apply RunK.callS; exact rfl; exact rfl; exact s1; (repeat (first | exact ArgsLe.nil | refine ArgsLe.cons ?_ ?_ | exact ArgLe.v _ | exact ArgLe.sl _ _ _ _ | exact ArgLe.nil _ | exact ArgLe.nil' | exact ArgLe.nsl _ _ _ _ _ | exact ArgLe.nsn _ | (apply ArgLe.bsl; exact rfl; (first | exact rfl | (rw [List.length_map]; done) | (simp only [List.length_map]; done) | (simp; done) | (simp; omega)); (first | assumption | exact map_len (fun _ => rfl))))); exact rfl) | (apply RunK.callS; exact rfl; exact rfl; exact s2; (repeat (first | exact ArgsLe.nil | refine ArgsLe.cons ?_ ?_ | exact ArgLe.v _ | exact ArgLe.sl _ _ _ _ | exact ArgLe.nil _ | exact ArgLe.nil' | exact ArgLe.nsl _ _ _ _ _ | exact ArgLe.nsn _ | (apply ArgLe.bsl; exact rfl; (first | exact rfl | (rw [List.length_map]; done) | (simp only [List.length_map]; done) | (simp; done) | (simp; omega)); (first | assumption | exact map_len (fun _ => rfl))))); exact rfl) | (apply RunK.callS; exact rfl; exact rfl; exact s3; (repeat (first | exact ArgsLe.nil | refine ArgsLe.cons ?_ ?_ | exact ArgLe.v _ | exact ArgLe.sl _ _ _ _ | exact ArgLe.nil _ | exact ArgLe.nil' | exact ArgLe.nsl _ _ _ _ _ | exact ArgLe.nsn _ | (apply ArgLe.bsl; exact rfl; (first | exact rfl | (rw [List.length_map]; done) | (simp only [List.length_map]; done) | (simp; done) | (simp; omega)); (first | assumption | exact map_len (fun _ => rfl))))); exact rfl) | (apply RunK.callS; exact rfl; exact rfl; exact s4; (repeat (first | exact ArgsLe.nil | refine ArgsLe.cons ?_ ?_ | exact ArgLe.v _ | exact ArgLe.sl _ _ _ _ | exact ArgLe.nil _ | exact ArgLe.nil' | exact ArgLe.nsl _ _ _ _ _ | exact ArgLe.nsn _ | (apply ArgLe.bsl; exact rfl; (first | exact rfl | (rw [List.length_map]; done) | (simp only [List.length_map]; done) | (simp; done) | (simp; omega)); (first | assumption | exact map_len (fun _ => rfl))))); exact rfl) | (apply RunK.callS; exact rfl; exact rfl; exact haw; (repeat (first | exact ArgsLe.nil | refine ArgsLe.cons ?_ ?_ | exact ArgLe.v _ | exact ArgLe.sl _ _ _ _ | exact ArgLe.nil _ | exact ArgLe.nil' | exact ArgLe.nsl _ _ _ _ _ | exact ArgLe.nsn _ | (apply ArgLe.bsl; exact rfl; (first | exact rfl | (rw [List.length_map]; done) | (simp only [List.length_map]; done) | (simp; done) | (simp; omega)); (first | assumption | exact map_len (fun _ => rfl))))); exact rfl)
    | refine Wt.seq ?_
    | (apply Wt.regionK; exact rfl)
    | (apply Wt.regionD; kernel_rfl; kernel_rfl; exact rfl; exact rfl)
    | refine Wt.ret ?_
    | refine Wt.exit ?_
    | refine RunK.nil ?_
    | (apply RunK.moveV; exact rfl; exact rfl)
    | (apply RunK.assignV; exact rfl; exact rfl)
    | (apply RunK.moveS; exact rfl; exact rfl)
    | (apply RunK.pickT; exact rfl; exact rfl; exact rfl)
    | (apply RunK.lss; exact rfl; exact rfl; exact rfl)
    | (apply RunK.rows; exact rfl; exact rfl; (repeat (first | exact PartsOk.nil | (apply PartsOk.cons; exact rfl) | (apply PartsOk.consN; exact rfl))); (repeat (first | exact Rows.nil _ | (apply Rows.cons; (first | exact Cells.agg _ | exact Cells.int _ _ | exact Cells.bool _ | exact Cells.one _ rfl); exact rfl))); exact rfl; exact rfl)
    | (apply Wt.cond; exact rfl; all_goals (intro hg; (first | exact absurd hg (by decide) | skip); (first | (with_reducible replace hg := not_t hg) | (with_reducible replace hg := not_f hg) | skip); (first | (with_reducible replace hg := dec_t hg) | (with_reducible replace hg := dec_f hg) | skip); (first | (with_reducible exact absurd rfl hg) | skip); (repeat rw [List.length_map] at hg); try (exfalso; omega))))
          all_goals (apply ResOk.v1; exact rfl; exact rfl)
end Go.Proofs.Ytfokjpmcifkoeaa
