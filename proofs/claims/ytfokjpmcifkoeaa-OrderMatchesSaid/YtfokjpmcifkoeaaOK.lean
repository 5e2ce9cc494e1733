/- The law's small helpers: at, less, says, awake. No condition. -/
import Derived.Test.YtfokjpmcifkoeaaOH
import Derived.Test.YtfokjpmcifkoeaaPartM
namespace Go.Proofs.Ytfokjpmcifkoeaa
open Pv Go.RowKit Scc
set_option maxRecDepth 100000 in
theorem ordSays0 {g : List (List Int)} {a b : List Int} (h1 : Pure Try.prog 18 [graph g] (.tup [intsR a, .v (.int .i64 0)])) (h2 : Pure Try.prog 14 [graph g] (.tup [intsR b, .v (.int .i64 0)])) (A B : List Int)
    (e1 : Pure Try.prog 31 [ints a, ints A] (.s (.v (.bool (decide (a = A)))))) (e2 : Pure Try.prog 31 [ints b, ints B] (.s (.v (.bool (decide (b = B)))))) :
    Pure Try.prog 35 [graph g, ints A, ints B] (.s (.v (.bool (decide (a = A) && decide (b = B))))) := by
  generalize decide (a = A) = b1 at e1 ⊢
  generalize decide (b = B) = b2 at e2 ⊢
  refine pure_of_wt Try.func35 rfl (by decide) _ Try.ntmps35 rfl Try.results35 fun w0 => ?_
  repeat' (first
    | (refine stopQ 3 ?_) | (apply RunK.indexN; exact rfl; exact rfl; exact rfl; (first | exact rfl | exact (rfl : (0 : Int) = ((0 : Nat) : Int)) | exact (rfl : (1 : Int) = ((1 : Nat) : Int)) | exact (rfl : (2 : Int) = ((2 : Nat) : Int)) | exact (rfl : (3 : Int) = ((3 : Nat) : Int)) | assumption); (first | omega | exact lt_of_get ‹_› | (rw [List.length_map]; omega) | (simp; omega))) | (apply RunK.loadNS; exact rfl; exact rfl; assumption; exact rfl) | (apply RunK.lenNs; exact rfl; exact rfl) | (apply RunK.moveNs; exact rfl; exact rfl) | (apply RunK.assignNs; exact rfl; exact rfl) | (apply RunK.callT; exact rfl; exact rfl; exact h1; (repeat (first | exact ArgsLe.nil | refine ArgsLe.cons ?_ ?_ | exact ArgLe.v _ | exact ArgLe.sl _ _ _ _ | exact ArgLe.nil _ | exact ArgLe.nil' | exact ArgLe.nsl _ _ _ _ _ | exact ArgLe.nsn _ | (apply ArgLe.bsl; exact rfl; (first | exact rfl | (rw [List.length_map]; done) | (simp only [List.length_map]; done) | (simp; done) | (simp; omega)); (first | assumption | exact map_len (fun _ => rfl))))); exact rfl) | (apply RunK.callT; exact rfl; exact rfl; exact h2; (repeat (first | exact ArgsLe.nil | refine ArgsLe.cons ?_ ?_ | exact ArgLe.v _ | exact ArgLe.sl _ _ _ _ | exact ArgLe.nil _ | exact ArgLe.nil' | exact ArgLe.nsl _ _ _ _ _ | exact ArgLe.nsn _ | (apply ArgLe.bsl; exact rfl; (first | exact rfl | (rw [List.length_map]; done) | (simp only [List.length_map]; done) | (simp; done) | (simp; omega)); (first | assumption | exact map_len (fun _ => rfl))))); exact rfl)
    | refine Wt.seq ?_
    | (apply Wt.regionK; exact rfl)
    | refine RunK.nil ?_
    | (apply RunK.assignV; exact rfl; exact rfl)
    | (apply RunK.moveT; exact rfl; exact rfl)
    | (apply RunK.assignS; exact rfl; exact rfl)
    | (apply RunK.extract; exact rfl; exact rfl; exact rfl))
  refine StoppedQ.mk' ?_
  refine Wt.le ⟨[(1, .s (ints A)), (2, .s (ints B)), (7, .s (.sl (some 13) .no 1 (a.map ival))), (8, .s (.v (.int .i64 0))), (9, .s (.sl (some 18) .no 1 (b.map ival))), (10, .s (.v (.int .i64 0)))], []⟩ (by (refine Le.mk ?_ ?_; (repeat' (first | exact LeEnv.done | refine LeEnv.cons ?_ ?_ | exact PVLe.refl _ | exact PVLe.s (SVLe.nil _ _ _) | exact PVLe.s (SVLe.no _ _ _ _) | (refine PVLe.int ?_; first | rfl | omega | (simp; done) | (simp; omega)) | (refine PVLe.els ?_; first | rfl | assumption | (simp; done)) | (refine PVLe.bool ?_; first | rfl | assumption) | (refine PVLe.bsl ?_; first | rfl | assumption | (simp; done))));  (repeat' (first | exact LeBox.done | refine LeBox.cons ?_ ?_ | exact rfl)))) ?_
  cases b1 with
  | false =>
    repeat' (first
    | (apply RunK.indexN; exact rfl; exact rfl; exact rfl; (first | exact rfl | exact (rfl : (0 : Int) = ((0 : Nat) : Int)) | exact (rfl : (1 : Int) = ((1 : Nat) : Int)) | exact (rfl : (2 : Int) = ((2 : Nat) : Int)) | exact (rfl : (3 : Int) = ((3 : Nat) : Int)) | assumption); (first | omega | exact lt_of_get ‹_› | (rw [List.length_map]; omega) | (simp; omega))) | (apply RunK.loadNS; exact rfl; exact rfl; assumption; exact rfl) | (apply RunK.lenNs; exact rfl; exact rfl) | (apply RunK.moveNs; exact rfl; exact rfl) | (apply RunK.assignNs; exact rfl; exact rfl) | (apply RunK.callS; exact rfl; exact rfl; exact e1; (repeat (first | exact ArgsLe.nil | refine ArgsLe.cons ?_ ?_ | exact ArgLe.v _ | exact ArgLe.sl _ _ _ _ | exact ArgLe.nil _ | exact ArgLe.nil' | exact ArgLe.nsl _ _ _ _ _ | exact ArgLe.nsn _ | (apply ArgLe.bsl; exact rfl; (first | exact rfl | (rw [List.length_map]; done) | (simp only [List.length_map]; done) | (simp; done) | (simp; omega)); (first | assumption | exact map_len (fun _ => rfl))))); exact rfl)
    | (apply Wt.regionK; exact rfl)
    | refine Wt.ret ?_
    | refine RunK.nil ?_
    | (apply RunK.moveV; exact rfl; exact rfl)
    | (apply RunK.assignV; exact rfl; exact rfl)
    | (apply RunK.moveS; exact rfl; exact rfl)
    | (apply RunK.pickT; exact rfl; exact rfl; exact rfl)
    | (apply RunK.pickF; exact rfl; exact rfl; exact rfl)
    | (apply RunK.eql; exact rfl; exact rfl; exact rfl)
    | (apply RunK.skip; exact rfl; exact rfl))
    all_goals (apply ResOk.v1; exact rfl; exact rfl)
  | true =>
    repeat' (first
    | (apply RunK.indexN; exact rfl; exact rfl; exact rfl; (first | exact rfl | exact (rfl : (0 : Int) = ((0 : Nat) : Int)) | exact (rfl : (1 : Int) = ((1 : Nat) : Int)) | exact (rfl : (2 : Int) = ((2 : Nat) : Int)) | exact (rfl : (3 : Int) = ((3 : Nat) : Int)) | assumption); (first | omega | exact lt_of_get ‹_› | (rw [List.length_map]; omega) | (simp; omega))) | (apply RunK.loadNS; exact rfl; exact rfl; assumption; exact rfl) | (apply RunK.lenNs; exact rfl; exact rfl) | (apply RunK.moveNs; exact rfl; exact rfl) | (apply RunK.assignNs; exact rfl; exact rfl) | (apply RunK.callS; exact rfl; exact rfl; exact e1; (repeat (first | exact ArgsLe.nil | refine ArgsLe.cons ?_ ?_ | exact ArgLe.v _ | exact ArgLe.sl _ _ _ _ | exact ArgLe.nil _ | exact ArgLe.nil' | exact ArgLe.nsl _ _ _ _ _ | exact ArgLe.nsn _ | (apply ArgLe.bsl; exact rfl; (first | exact rfl | (rw [List.length_map]; done) | (simp only [List.length_map]; done) | (simp; done) | (simp; omega)); (first | assumption | exact map_len (fun _ => rfl))))); exact rfl) | (apply RunK.callS; exact rfl; exact rfl; exact e2; (repeat (first | exact ArgsLe.nil | refine ArgsLe.cons ?_ ?_ | exact ArgLe.v _ | exact ArgLe.sl _ _ _ _ | exact ArgLe.nil _ | exact ArgLe.nil' | exact ArgLe.nsl _ _ _ _ _ | exact ArgLe.nsn _ | (apply ArgLe.bsl; exact rfl; (first | exact rfl | (rw [List.length_map]; done) | (simp only [List.length_map]; done) | (simp; done) | (simp; omega)); (first | assumption | exact map_len (fun _ => rfl))))); exact rfl)
    | (apply Wt.regionK; exact rfl)
    | refine Wt.ret ?_
    | refine RunK.nil ?_
    | (apply RunK.moveV; exact rfl; exact rfl)
    | (apply RunK.assignV; exact rfl; exact rfl)
    | (apply RunK.moveS; exact rfl; exact rfl)
    | (apply RunK.pickT; exact rfl; exact rfl; exact rfl)
    | (apply RunK.eql; exact rfl; exact rfl; exact rfl))
    all_goals (apply ResOk.v1; exact rfl; cases b2 <;> rfl)
set_option maxRecDepth 100000 in
theorem diamondF : Pure Try.prog 34 [] (.s (.nsl (some 0) [some 0] false 1 (gE [[], [0], [0], [1, 2]]))) := by
  refine pure_of_wt Try.func34 rfl (by decide) _ Try.ntmps34 rfl Try.results34 fun w0 => ?_
  repeat' (first
    | (apply RunK.indexN; exact rfl; exact rfl; exact rfl; (first | exact rfl | exact (rfl : (0 : Int) = ((0 : Nat) : Int)) | exact (rfl : (1 : Int) = ((1 : Nat) : Int)) | exact (rfl : (2 : Int) = ((2 : Nat) : Int)) | exact (rfl : (3 : Int) = ((3 : Nat) : Int)) | assumption); (first | omega | exact lt_of_get ‹_› | (rw [List.length_map]; omega) | (simp; omega))) | (apply RunK.loadNS; exact rfl; exact rfl; assumption; exact rfl) | (apply RunK.lenNs; exact rfl; exact rfl) | (apply RunK.moveNs; exact rfl; exact rfl) | (apply RunK.assignNs; exact rfl; exact rfl) | (apply RunK.buildNsl; exact rfl; exact rfl; (repeat (first | exact PartsE.nil | (apply PartsE.sl; exact rfl) | (apply PartsE.nl; exact rfl))); exact rfl; exact rfl; exact rfl)
    | refine Wt.seq ?_
    | (apply Wt.regionK; exact rfl)
    | refine Wt.ret ?_
    | refine RunK.nil ?_
    | (apply RunK.assignN; exact rfl; exact rfl)
    | (apply RunK.rows; exact rfl; exact rfl; (repeat (first | exact PartsOk.nil | (apply PartsOk.cons; exact rfl) | (apply PartsOk.consN; exact rfl))); (repeat (first | exact Rows.nil _ | (apply Rows.cons; (first | exact Cells.agg _ | exact Cells.int _ _ | exact Cells.bool _ | exact Cells.one _ rfl); exact rfl))); exact rfl; exact rfl))
  all_goals (apply ResOk.g1; exact rfl; exact rfl; exact rfl)
def okO (N : G) : Bool := N.all fun r => r.all fun x => Nat.blt x N.length
set_option maxRecDepth 100000 in
theorem okO_ok {N : G} (h : okO N = true) : GOk N := by
  intro i k e
  unfold edge at e
  rw [List.getD_eq_getElem?_getD] at e
  cases hr : N[i]? with
  | none => rw [hr] at e; cases e
  | some r =>
    rw [hr] at e
    exact Nat.blt_eq ▸ List.all_eq_true.1 (List.all_eq_true.1 h r (List.mem_of_getElem? hr)) k e
set_option maxRecDepth 100000 in
theorem topo_len {N : G} (hN : GOk N) (h : loopsN N = []) : (topo N).length = N.length := (topo_ord hN (acyc_of hN h) N.length (Nat.le_refl _)).2
set_option maxRecDepth 100000 in
theorem levels_len (N : G) : (levels N).length = N.length := levN_len ..
set_option maxRecDepth 100000 in
theorem ordSays (N : G) (hN : GOk N) (hn : N.length ≤ 1000) (hr : ∀ r ∈ N, r.length < 1000) (h : loopsN N = []) (A B : List Int) (hA : A.length < 1000000000) (hB : B.length < 1000000000) : Pure Try.prog 35 [graph (intG N), ints A, ints B] (.s (.v (.bool (decide (intR (topo N) = A) && decide (intR (levels N) = B))))) :=
  ordSays0 (ordTopo N hN hn hr h) (ordLevels N hN hn hr h) A B (equalInts _ A (by rw [intR, List.length_map, topo_len hN h]; omega) (by omega)) (equalInts _ B (by rw [intR, List.length_map, levels_len]; omega) (by omega))
def saysO (N : G) (A B : List Int) : Bool := okO N && (Nat.ble N.length 1000 && (N.all (fun r => Nat.blt r.length 1000) && ((loopsN N).isEmpty && (Nat.blt A.length 1000000000 && (Nat.blt B.length 1000000000 && (decide (intR (topo N) = A) && decide (intR (levels N) = B)))))))
set_option maxRecDepth 100000 in
theorem ordSays_at (N : G) (A B : List Int) (h : saysO N A B = true) : Pure Try.prog 35 [graph (intG N), ints A, ints B] (.s (.v (.bool true))) := by
  obtain ⟨h1, h⟩ := (Bool.and_eq_true _ _ ▸ h : _ ∧ _)
  obtain ⟨h2, h⟩ := (Bool.and_eq_true _ _ ▸ h : _ ∧ _)
  obtain ⟨h3, h⟩ := (Bool.and_eq_true _ _ ▸ h : _ ∧ _)
  obtain ⟨h4, h⟩ := (Bool.and_eq_true _ _ ▸ h : _ ∧ _)
  obtain ⟨h5, h⟩ := (Bool.and_eq_true _ _ ▸ h : _ ∧ _)
  obtain ⟨h6, h⟩ := (Bool.and_eq_true _ _ ▸ h : _ ∧ _)
  have := ordSays N (okO_ok h1) (Nat.le_of_ble_eq_true h2) (fun r hr => Nat.blt_eq ▸ List.all_eq_true.1 h3 r hr) (List.isEmpty_iff.1 h4) A B (Nat.blt_eq ▸ h5) (Nat.blt_eq ▸ h6)
  rwa [h] at this
/-- What Check says at a graph and a list. -/
def chkE (N : G) (l : List Int) : Int := if l.length = N.length ∧ chkL N [] l = true then 0 else 12
def chkO (N : G) (l : List Int) : Bool := okO N && (Nat.ble N.length 1000 && (N.all (fun r => Nat.blt r.length 1000) && Nat.blt l.length 1000000000))
set_option maxRecDepth 100000 in
theorem ordCheck_at (N : G) (l : List Int) (c : Int) (h : chkO N l = true) (hc : chkE N l = c) : Pure Try.prog 15 [graph (intG N), ints l] (.s (.v (.int .i64 c))) := by
  obtain ⟨h1, h⟩ := (Bool.and_eq_true _ _ ▸ h : _ ∧ _)
  obtain ⟨h2, h⟩ := (Bool.and_eq_true _ _ ▸ h : _ ∧ _)
  obtain ⟨h3, h⟩ := (Bool.and_eq_true _ _ ▸ h : _ ∧ _)
  have := ordCheck N (okO_ok h1) (Nat.le_of_ble_eq_true h2) (fun r hr => Nat.blt_eq ▸ List.all_eq_true.1 h3 r hr) l (Nat.blt_eq ▸ h)
  rw [← hc]; exact this
set_option maxRecDepth 100000 in
theorem ordAwake : Pure Try.prog 17 [] (.s (.v (.bool true))) := by
  have c1 := ordTopoC [[1], [0]] (okO_ok (by kernel_rfl)) (by decide) (by simp) (by decide +kernel)
  have c2 := ordTopoE [[3]] (by decide) (by simp) (by decide)
  have c3 := diamondF
  have c4 := ordSays_at [[], [0], [0], [1, 2]] [0, 1, 2, 3] [0, 1, 1, 2] (by kernel_rfl)
  have c5 := ordSays_at [[2], [], []] [1, 2, 0] [1, 0, 0] (by kernel_rfl)
  have c6 := ordCheck_at [[], [0], [0], [1, 2]] [0, 2, 1, 3] 0 (by kernel_rfl) (by kernel_rfl)
  have c7 := ordCheck_at [[], [0], [0], [1, 2]] [1, 0, 2, 3] 12 (by kernel_rfl) (by kernel_rfl)
  refine pure_of_wt Try.func17 rfl (by decide) _ Try.ntmps17 rfl Try.results17 fun w0 => ?_
  repeat' (first
    | (apply RunK.indexN; exact rfl; exact rfl; exact rfl; (first | exact rfl | exact (rfl : (0 : Int) = ((0 : Nat) : Int)) | exact (rfl : (1 : Int) = ((1 : Nat) : Int)) | exact (rfl : (2 : Int) = ((2 : Nat) : Int)) | exact (rfl : (3 : Int) = ((3 : Nat) : Int)) | assumption); (first | omega | exact lt_of_get ‹_› | (rw [List.length_map]; omega) | (simp; omega))) | (apply RunK.loadNS; exact rfl; exact rfl; assumption; exact rfl) | (apply RunK.lenNs; exact rfl; exact rfl) | (apply RunK.moveNs; exact rfl; exact rfl) | (apply RunK.assignNs; exact rfl; exact rfl) | (apply RunK.buildNsl; exact rfl; exact rfl; (repeat (first | exact PartsE.nil | (apply PartsE.sl; exact rfl) | (apply PartsE.nl; exact rfl))); exact rfl; exact rfl; exact rfl) | (apply RunK.callT; exact rfl; exact rfl; exact c1; (repeat (first | exact ArgsLe.nil | refine ArgsLe.cons ?_ ?_ | exact ArgLe.v _ | exact ArgLe.sl _ _ _ _ | exact ArgLe.nil _ | exact ArgLe.nil' | exact ArgLe.nsl _ _ _ _ _ | exact ArgLe.nsn _ | (apply ArgLe.bsl; exact rfl; (first | exact rfl | (rw [List.length_map]; done) | (simp only [List.length_map]; done) | (simp; done) | (simp; omega)); (first | assumption | exact map_len (fun _ => rfl))))); exact rfl) | (apply RunK.callT; exact rfl; exact rfl; exact c2; (repeat (first | exact ArgsLe.nil | refine ArgsLe.cons ?_ ?_ | exact ArgLe.v _ | exact ArgLe.sl _ _ _ _ | exact ArgLe.nil _ | exact ArgLe.nil' | exact ArgLe.nsl _ _ _ _ _ | exact ArgLe.nsn _ | (apply ArgLe.bsl; exact rfl; (first | exact rfl | (rw [List.length_map]; done) | (simp only [List.length_map]; done) | (simp; done) | (simp; omega)); (first | assumption | exact map_len (fun _ => rfl))))); exact rfl) | (apply RunK.callS; exact rfl; exact rfl; exact c3; (repeat (first | exact ArgsLe.nil | refine ArgsLe.cons ?_ ?_ | exact ArgLe.v _ | exact ArgLe.sl _ _ _ _ | exact ArgLe.nil _ | exact ArgLe.nil' | exact ArgLe.nsl _ _ _ _ _ | exact ArgLe.nsn _ | (apply ArgLe.bsl; exact rfl; (first | exact rfl | (rw [List.length_map]; done) | (simp only [List.length_map]; done) | (simp; done) | (simp; omega)); (first | assumption | exact map_len (fun _ => rfl))))); exact rfl) | (apply RunK.callS; exact rfl; exact rfl; exact c4; (repeat (first | exact ArgsLe.nil | refine ArgsLe.cons ?_ ?_ | exact ArgLe.v _ | exact ArgLe.sl _ _ _ _ | exact ArgLe.nil _ | exact ArgLe.nil' | exact ArgLe.nsl _ _ _ _ _ | exact ArgLe.nsn _ | (apply ArgLe.bsl; exact rfl; (first | exact rfl | (rw [List.length_map]; done) | (simp only [List.length_map]; done) | (simp; done) | (simp; omega)); (first | assumption | exact map_len (fun _ => rfl))))); exact rfl) | (apply RunK.callS; exact rfl; exact rfl; exact c5; (repeat (first | exact ArgsLe.nil | refine ArgsLe.cons ?_ ?_ | exact ArgLe.v _ | exact ArgLe.sl _ _ _ _ | exact ArgLe.nil _ | exact ArgLe.nil' | exact ArgLe.nsl _ _ _ _ _ | exact ArgLe.nsn _ | (apply ArgLe.bsl; exact rfl; (first | exact rfl | (rw [List.length_map]; done) | (simp only [List.length_map]; done) | (simp; done) | (simp; omega)); (first | assumption | exact map_len (fun _ => rfl))))); exact rfl) | (apply RunK.callS; exact rfl; exact rfl; exact c6; (repeat (first | exact ArgsLe.nil | refine ArgsLe.cons ?_ ?_ | exact ArgLe.v _ | exact ArgLe.sl _ _ _ _ | exact ArgLe.nil _ | exact ArgLe.nil' | exact ArgLe.nsl _ _ _ _ _ | exact ArgLe.nsn _ | (apply ArgLe.bsl; exact rfl; (first | exact rfl | (rw [List.length_map]; done) | (simp only [List.length_map]; done) | (simp; done) | (simp; omega)); (first | assumption | exact map_len (fun _ => rfl))))); exact rfl) | (apply RunK.callS; exact rfl; exact rfl; exact c7; (repeat (first | exact ArgsLe.nil | refine ArgsLe.cons ?_ ?_ | exact ArgLe.v _ | exact ArgLe.sl _ _ _ _ | exact ArgLe.nil _ | exact ArgLe.nil' | exact ArgLe.nsl _ _ _ _ _ | exact ArgLe.nsn _ | (apply ArgLe.bsl; exact rfl; (first | exact rfl | (rw [List.length_map]; done) | (simp only [List.length_map]; done) | (simp; done) | (simp; omega)); (first | assumption | exact map_len (fun _ => rfl))))); exact rfl)
    | refine Wt.seq ?_
    | (apply Wt.regionK; exact rfl)
    | refine Wt.ret ?_
    | refine RunK.nil ?_
    | (apply RunK.moveV; exact rfl; exact rfl)
    | (apply RunK.assignV; exact rfl; exact rfl)
    | (apply RunK.moveT; exact rfl; exact rfl)
    | (apply RunK.assignS; exact rfl; exact rfl)
    | (apply RunK.pickT; exact rfl; exact rfl; exact rfl)
    | (apply RunK.eql; exact rfl; exact rfl; exact rfl)
    | (apply RunK.extract; exact rfl; exact rfl; exact rfl)
    | (apply RunK.rows; exact rfl; exact rfl; (repeat (first | exact PartsOk.nil | (apply PartsOk.cons; exact rfl) | (apply PartsOk.consN; exact rfl))); (repeat (first | exact Rows.nil _ | (apply Rows.cons; (first | exact Cells.agg _ | exact Cells.int _ _ | exact Cells.bool _ | exact Cells.one _ rfl); exact rfl))); exact rfl; exact rfl))
  all_goals (apply ResOk.v1; exact rfl; exact rfl)
end Go.Proofs.Ytfokjpmcifkoeaa
