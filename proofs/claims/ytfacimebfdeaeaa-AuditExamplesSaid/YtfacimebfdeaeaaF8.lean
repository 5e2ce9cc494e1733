/- The walks of the reference's points, and of its Plain. -/
import Derived.Test.YtfacimebfdeaeaaF5
import Derived.Test.YtfacimebfdeaeaaPointMath
import Derived.Test.YtfacimebfdeaeaaPlainMath
namespace Go.Proofs.Ytfacimebfdeaeaa
open Pv Go.RowKit

def isCut (lo : Int) (bs : List Int) (m : Nat) (x : Int) : Bool := decide (x = lo) || (bs.take m).contains x
set_option maxRecDepth 100000 in
theorem isCut_succ {lo : Int} {bs : List Int} {m : Nat} {x y : Int} (h : bs[m]? = some y) : isCut lo bs (m + 1) x = (isCut lo bs m x || decide (y = x)) := by
  unfold isCut
  rw [List.take_add_one, h, Option.toList_some, Bool.or_assoc]
  congr 1
  simp only [List.contains_eq_mem, List.mem_append, List.mem_singleton, Bool.decide_or]
  congr 1
  exact decide_eq_decide.2 ⟨Eq.symm, Eq.symm⟩
set_option maxRecDepth 100000 in
theorem cutsN_succ (lo : Int) (bs : List Int) (k : Nat) : cutsN lo bs (k + 1) = cutsN lo bs k ++ (if isCut lo bs bs.length (lo + (k : Int)) then [lo + (k : Int)] else []) := by
  unfold cutsN isCut
  rw [List.range_succ, List.map_append, List.filter_append, List.take_length]
  congr 1
  simp only [List.map_cons, List.map_nil, List.filter_cons, List.filter_nil]
  congr 1
set_option maxRecDepth 100000 in
theorem cutsN_len (lo : Int) (bs : List Int) (k : Nat) : (cutsN lo bs k).length ≤ k := by
  unfold cutsN
  exact Nat.le_trans (List.length_filter_le _ _) (by simp)
set_option maxRecDepth 100000 in
theorem cuts (lo hi : Int) (bs : List Int) (h1 : -1000000 ≤ lo) (h2 : hi ≤ 1000000) (h3 : lo ≤ 1000000) (hB : bs.length < 1000000000000000) : Pure Try.prog 106 [.v (.int .i64 lo), .v (.int .i64 hi), ints bs] (.s (intsR (cutsL lo hi bs))) := by
  refine pure_of_wt Try.func106 rfl (by decide) _ Try.ntmps106 rfl Try.results106 fun w0 => ?_
  repeat' (first
    | refine Wt.seq ?_
    | (apply Wt.regionK; exact rfl)
    | refine Wt.block ?_
    | refine RunK.nil ?_
    | (apply RunK.moveV; exact rfl; exact rfl)
    | (apply RunK.assignV; exact rfl; exact rfl)
    | (apply RunK.assignN; exact rfl; exact rfl))
  refine Wt.loop (fun k : Nat => ⟨[(0, .s (.v (.int .i64 lo))), (1, .s (.v (.int .i64 hi))), (2, .s (ints bs)), (7, .s (intsR (cutsN lo bs k))), (8, .s (.v (.int .i64 (lo + (k : Int)))))], []⟩) (fun k => k ≤ (hi - lo + 1).toNat) (fun k => (hi - lo + 1).toNat - k) 0 (Nat.zero_le _) ?_ ?_
  · (refine Le.mk ?_ ?_; (repeat' (first | exact LeEnv.done | refine LeEnv.cons ?_ ?_ | exact PVLe.refl _ | exact PVLe.s (SVLe.nil _ _ _) | exact PVLe.s (SVLe.no _ _ _ _) | (refine PVLe.int ?_; first | rfl | omega | (simp; done) | (simp; omega)) | (refine PVLe.els ?_; first | rfl | assumption | (simp; done)) | (refine PVLe.bool ?_; first | rfl | assumption) | (refine PVLe.bsl ?_; first | rfl | assumption | (simp; done))));  (repeat' (first | exact LeBox.done | refine LeBox.cons ?_ ?_ | exact rfl)))
  · rintro k hk
    have hkl := cutsN_len lo bs k
    by_cases hlt : k < (hi - lo + 1).toNat
    · repeat' (first
    | refine Wt.seq ?_
    | (apply Wt.regionK; exact rfl)
    | refine Wt.block ?_
    | refine Wt.skip ?_
    | refine RunK.nil ?_
    | (apply RunK.moveV; exact rfl; exact rfl)
    | (apply RunK.assignV; exact rfl; exact rfl)
    | (apply RunK.leq; exact rfl; exact rfl; exact rfl)
    | (apply RunK.eql; exact rfl; exact rfl; exact rfl)
    | (apply Wt.cond; exact rfl; all_goals (intro hg; (first | exact absurd hg (by decide) | skip); (first | (with_reducible replace hg := not_t hg) | (with_reducible replace hg := not_f hg) | skip); (first | (with_reducible replace hg := dec_t hg) | (with_reducible replace hg := dec_f hg) | skip); (first | (with_reducible exact absurd rfl hg) | skip); (repeat rw [List.length_map] at hg); try (exfalso; omega))))
      refine Wt.loop (fun m : Nat => ⟨[(0, .s (.v (.int .i64 lo))), (1, .s (.v (.int .i64 hi))), (2, .s (ints bs)), (7, .s (intsR (cutsN lo bs k))), (8, .s (.v (.int .i64 (lo + (k : Int))))), (9, .s (.v (.bool (isCut lo bs m (lo + (k : Int)))))), (10, .s (.v (.int .i64 m)))], []⟩) (fun m => m ≤ bs.length) (fun m => bs.length - m) 0 (Nat.zero_le _) ?_ ?_
      · have e0 : decide (lo + (k : Int) = lo) = isCut lo bs 0 (lo + (k : Int)) := by simp [isCut]
        (refine Le.mk ?_ ?_; (repeat' (first | exact LeEnv.done | refine LeEnv.cons ?_ ?_ | exact PVLe.refl _ | exact PVLe.s (SVLe.nil _ _ _) | exact PVLe.s (SVLe.no _ _ _ _) | (refine PVLe.int ?_; first | rfl | omega | (simp; done) | (simp; omega)) | (refine PVLe.els ?_; first | rfl | assumption | (simp; done)) | (refine PVLe.bool ?_; first | rfl | assumption) | (refine PVLe.bsl ?_; first | rfl | assumption | (simp; done))));  (repeat' (first | exact LeBox.done | refine LeBox.cons ?_ ?_ | exact rfl)))
      · rintro m hm
        by_cases hltm : m < bs.length
        · obtain ⟨y, hy⟩ := exists_at hltm
          have hx := get_map (f := ival) hy
          have hs := isCut_succ (lo := lo) (x := lo + (k : Int)) hy
          repeat' (first
    | refine Wt.seq ?_
    | (apply Wt.regionK; exact rfl)
    | refine Wt.block ?_
    | refine Wt.skip ?_
    | refine RunK.nil ?_
    | (apply RunK.moveV; exact rfl; exact rfl)
    | (apply RunK.index; exact rfl; exact rfl; exact rfl; (first | exact rfl | exact (rfl : (0 : Int) = ((0 : Nat) : Int)) | exact (rfl : (1 : Int) = ((1 : Nat) : Int)) | exact (rfl : (2 : Int) = ((2 : Nat) : Int)) | exact (rfl : (3 : Int) = ((3 : Nat) : Int)) | assumption); (first | omega | exact lt_of_get ‹_› | (rw [List.length_map]; omega) | (simp; omega)))
    | (apply RunK.loadE1; exact rfl; exact rfl; assumption; exact rfl)
    | (apply RunK.assignV; exact rfl; exact rfl)
    | (apply RunK.moveS; exact rfl; exact rfl)
    | (apply RunK.pickT; exact rfl; exact rfl; exact rfl)
    | (apply RunK.pickF; exact rfl; exact rfl; exact rfl)
    | (apply RunK.lss; exact rfl; exact rfl; exact rfl)
    | (apply RunK.eql; exact rfl; exact rfl; exact rfl)
    | (apply RunK.add; exact rfl; exact rfl; exact rfl; (first | omega | (simp only [List.length_map]; omega)))
    | (apply RunK.len; exact rfl; exact rfl)
    | (apply RunK.skip; exact rfl; exact rfl)
    | (apply RunK.guard; exact rfl; exact rfl; exact rfl; all_goals (intro hg; (first | exact absurd hg (by decide) | skip); (first | (with_reducible replace hg := not_t hg) | (with_reducible replace hg := not_f hg) | skip); (first | (with_reducible replace hg := dec_t hg) | (with_reducible replace hg := dec_f hg) | skip); (first | (with_reducible exact absurd rfl hg) | skip); (repeat rw [List.length_map] at hg); try (exfalso; omega)))
    | (apply Wt.cond; exact rfl; all_goals (intro hg; (first | exact absurd hg (by decide) | skip); (first | (with_reducible replace hg := not_t hg) | (with_reducible replace hg := not_f hg) | skip); (first | (with_reducible replace hg := dec_t hg) | (with_reducible replace hg := dec_f hg) | skip); (first | (with_reducible exact absurd rfl hg) | skip); (repeat rw [List.length_map] at hg); try (exfalso; omega))))
          · rw [hg, Bool.true_or] at hs
            replace hs := hs.symm
            refine ⟨m + 1, hltm, by omega, ?_⟩
            (refine Le.mk ?_ ?_; (repeat' (first | exact LeEnv.done | refine LeEnv.cons ?_ ?_ | exact PVLe.refl _ | exact PVLe.s (SVLe.nil _ _ _) | exact PVLe.s (SVLe.no _ _ _ _) | (refine PVLe.int ?_; first | rfl | omega | (simp; done) | (simp; omega)) | (refine PVLe.els ?_; first | rfl | assumption | (simp; done)) | (refine PVLe.bool ?_; first | rfl | assumption) | (refine PVLe.bsl ?_; first | rfl | assumption | (simp; done))));  (repeat' (first | exact LeBox.done | refine LeBox.cons ?_ ?_ | exact rfl)))
          · rw [hg, Bool.false_or] at hs
            replace hs := hs.symm
            refine ⟨m + 1, hltm, by omega, ?_⟩
            (refine Le.mk ?_ ?_; (repeat' (first | exact LeEnv.done | refine LeEnv.cons ?_ ?_ | exact PVLe.refl _ | exact PVLe.s (SVLe.nil _ _ _) | exact PVLe.s (SVLe.no _ _ _ _) | (refine PVLe.int ?_; first | rfl | omega | (simp; done) | (simp; omega)) | (refine PVLe.els ?_; first | rfl | assumption | (simp; done)) | (refine PVLe.bool ?_; first | rfl | assumption) | (refine PVLe.bsl ?_; first | rfl | assumption | (simp; done))));  (repeat' (first | exact LeBox.done | refine LeBox.cons ?_ ?_ | exact rfl)))
        · obtain rfl : m = bs.length := by omega
          have hn := cutsN_succ lo bs k
          repeat' (first
    | (first | (apply RunK.append; exact rfl; exact rfl; exact rfl; (first | exact ReadLe.sl _ _ _ _ | exact ReadLe.nil _); exact rfl; (first | exact one_rows rfl | exact one_map (fun _ => rfl) _); (first | exact app_b1 (by omega) | exact app_b2 (by omega) | exact app_b3 (by omega) | exact app_b4 (by omega) | exact app_b5 (by omega))) | (apply RunK.appendN; exact rfl; exact rfl; exact rfl; (first | exact ReadLe.sl _ _ _ _ | exact ReadLe.nil _); exact rfl; (first | exact one_rows rfl | exact one_map (fun _ => rfl) _); (first | exact app_b1 (by omega) | exact app_b2 (by omega) | exact app_b3 (by omega) | exact app_b4 (by omega) | exact app_b5 (by omega))) | (apply RunK.appendF; exact rfl; exact rfl; exact rfl; (first | exact ReadLe.sl _ _ _ _ | exact ReadLe.nil _); (first | exact one_rows rfl | exact one_map (fun _ => rfl) _); (first | exact app_b1 (by omega) | exact app_b2 (by omega) | exact app_b3 (by omega) | exact app_b4 (by omega) | exact app_b5 (by omega))))
    | refine Wt.seq ?_
    | (apply Wt.regionK; exact rfl)
    | refine Wt.skip ?_
    | refine Wt.exit ?_
    | refine RunK.nil ?_
    | (apply RunK.moveV; exact rfl; exact rfl)
    | (apply RunK.assignV; exact rfl; exact rfl)
    | (apply RunK.moveS; exact rfl; exact rfl)
    | (apply RunK.assignS; exact rfl; exact rfl)
    | (apply RunK.lss; exact rfl; exact rfl; exact rfl)
    | (apply RunK.add; exact rfl; exact rfl; exact rfl; (first | omega | (simp only [List.length_map]; omega)))
    | (apply RunK.len; exact rfl; exact rfl)
    | (apply RunK.rows; exact rfl; (repeat (first | exact PartsOk.nil | (apply PartsOk.cons; exact rfl))); (repeat (first | exact Rows.nil _ | (apply Rows.cons; (first | exact Cells.agg _ | exact Cells.int _ _ | exact Cells.bool _ | exact Cells.one _ rfl); exact rfl))); exact rfl; exact rfl)
    | (apply Wt.cond; exact rfl; all_goals (intro hg; (first | exact absurd hg (by decide) | skip); (first | (with_reducible replace hg := not_t hg) | (with_reducible replace hg := not_f hg) | skip); (first | (with_reducible replace hg := dec_t hg) | (with_reducible replace hg := dec_f hg) | skip); (first | (with_reducible exact absurd rfl hg) | skip); (repeat rw [List.length_map] at hg); try (exfalso; omega))))
          · have he : List.map ival (cutsN lo bs k) ++ [[Value.int .i64 (lo + (k : Int))]] = List.map ival (cutsN lo bs (k + 1)) := by rw [hn, if_pos hg, List.map_append]; rfl
            refine ⟨k + 1, hlt, by omega, ?_⟩
            (refine Le.mk ?_ ?_; (repeat' (first | exact LeEnv.done | refine LeEnv.cons ?_ ?_ | exact PVLe.refl _ | exact PVLe.s (SVLe.nil _ _ _) | exact PVLe.s (SVLe.no _ _ _ _) | (refine PVLe.int ?_; first | rfl | omega | (simp; done) | (simp; omega)) | (refine PVLe.els ?_; first | rfl | assumption | (simp; done)) | (refine PVLe.bool ?_; first | rfl | assumption) | (refine PVLe.bsl ?_; first | rfl | assumption | (simp; done))));  (repeat' (first | exact LeBox.done | refine LeBox.cons ?_ ?_ | exact rfl)))
          · have he : List.map ival (cutsN lo bs k) = List.map ival (cutsN lo bs (k + 1)) := by rw [hn, hg]; simp
            refine ⟨k + 1, hlt, by omega, ?_⟩
            (refine Le.mk ?_ ?_; (repeat' (first | exact LeEnv.done | refine LeEnv.cons ?_ ?_ | exact PVLe.refl _ | exact PVLe.s (SVLe.nil _ _ _) | exact PVLe.s (SVLe.no _ _ _ _) | (refine PVLe.int ?_; first | rfl | omega | (simp; done) | (simp; omega)) | (refine PVLe.els ?_; first | rfl | assumption | (simp; done)) | (refine PVLe.bool ?_; first | rfl | assumption) | (refine PVLe.bsl ?_; first | rfl | assumption | (simp; done))));  (repeat' (first | exact LeBox.done | refine LeBox.cons ?_ ?_ | exact rfl)))
    · obtain rfl : k = (hi - lo + 1).toNat := by omega
      repeat' (first
    | refine Wt.seq ?_
    | (apply Wt.regionK; exact rfl)
    | refine Wt.ret ?_
    | refine Wt.exit ?_
    | refine RunK.nil ?_
    | (apply RunK.moveV; exact rfl; exact rfl)
    | (apply RunK.moveS; exact rfl; exact rfl)
    | (apply RunK.assignS; exact rfl; exact rfl)
    | (apply RunK.leq; exact rfl; exact rfl; exact rfl)
    | (apply Wt.cond; exact rfl; all_goals (intro hg; (first | exact absurd hg (by decide) | skip); (first | (with_reducible replace hg := not_t hg) | (with_reducible replace hg := not_f hg) | skip); (first | (with_reducible replace hg := dec_t hg) | (with_reducible replace hg := dec_f hg) | skip); (first | (with_reducible exact absurd rfl hg) | skip); (repeat rw [List.length_map] at hg); try (exfalso; omega))))
      apply ResOk.s1; exact rfl; exact rfl

set_option maxRecDepth 100000 in
theorem cols_succ {l : List Rule} {k : Nat} {x : Rule} (h : l[k]? = some x) : colsOf (l.take (k + 1)) = colsOf (l.take k) ++ [x.rect.c1, x.rect.c2 + 1] := by
  unfold colsOf; rw [List.take_add_one, h, Option.toList_some, List.flatMap_append]; simp
set_option maxRecDepth 100000 in
theorem rows_succ {l : List Rule} {k : Nat} {x : Rule} (h : l[k]? = some x) : rowsOf (l.take (k + 1)) = rowsOf (l.take k) ++ [x.rect.r1, x.rect.r2 + 1] := by
  unfold rowsOf; rw [List.take_add_one, h, Option.toList_some, List.flatMap_append]; simp
set_option maxRecDepth 100000 in
theorem cols_len : ∀ (l : List Rule), (colsOf l).length = 2 * l.length
  | [] => rfl
  | x :: l => by have := cols_len l; unfold colsOf at *; rw [List.flatMap_cons, List.length_append, this]; simp; omega
set_option maxRecDepth 100000 in
theorem rows_len : ∀ (l : List Rule), (rowsOf l).length = 2 * l.length
  | [] => rfl
  | x :: l => by have := rows_len l; unfold rowsOf at *; rw [List.flatMap_cons, List.length_append, this]; simp; omega
set_option maxRecDepth 100000 in
theorem cuts_len {lo hi : Int} {bs : List Int} (h1 : 1 ≤ lo) (h2 : hi ≤ 1024) : (cutsL lo hi bs).length ≤ 1024 := Nat.le_trans (cutsN_len _ _ _) (by omega)
def gridL (A B : List Int) : List Ref := A.flatMap fun a => B.map fun b => ⟨b, a⟩
set_option maxRecDepth 100000 in
theorem grid_succ {A B : List Int} {i : Nat} {a : Int} (h : A[i]? = some a) : gridL (A.take (i + 1)) B = gridL (A.take i) B ++ B.map fun b => (⟨b, a⟩ : Ref) := by
  unfold gridL; rw [List.take_add_one, h, Option.toList_some, List.flatMap_append]; simp
set_option maxRecDepth 100000 in
theorem grid_len (B : List Int) : ∀ (A : List Int), (gridL A B).length = A.length * B.length
  | [] => by simp [gridL]
  | a :: A => by
    have := grid_len B A
    unfold gridL at *
    rw [List.flatMap_cons, List.length_append, this, List.length_map, List.length_cons, Nat.succ_mul, Nat.add_comm]
set_option maxRecDepth 100000 in
theorem map_succ {α β : Type} {B : List α} {f : α → β} {j : Nat} {b : α} (h : B[j]? = some b) : (B.take (j + 1)).map f = (B.take j).map f ++ [f b] := by
  rw [List.take_add_one, h, Option.toList_some, List.map_append]; rfl
abbrev ints1 (l : List Int) : SV := .sl (some 1) (.front 3) 1 (l.map ival)
set_option maxRecDepth 100000 in
theorem points (r : Rect) (l : List Rule) (hr : rectOk r = true) (hl : ∀ q ∈ l, rectOk q.rect = true) (hL : l.length ≤ 1000000) : Pure Try.prog 94 [.v r.v, rules l] (.s (refsR (pointsL r l))) := by
  have hro := ok_iff.1 hr
  have hc1 := cuts r.r1 r.r2 (rowsOf l) (by omega) (by omega) (by omega) (by rw [rows_len]; omega)
  have hc2 := cuts r.c1 r.c2 (colsOf l) (by omega) (by omega) (by omega) (by rw [cols_len]; omega)
  have hA := cuts_len (lo := r.r1) (hi := r.r2) (bs := rowsOf l) (by omega) (by omega)
  have hB := cuts_len (lo := r.c1) (hi := r.c2) (bs := colsOf l) (by omega) (by omega)
  rw [show pointsL r l = gridL (cutsL r.r1 r.r2 (rowsOf l)) (cutsL r.c1 r.c2 (colsOf l)) from rfl]
  generalize cutsL r.r1 r.r2 (rowsOf l) = A at *
  generalize cutsL r.c1 r.c2 (colsOf l) = B at *
  refine pure_of_wt Try.func94 rfl (by decide) _ Try.ntmps94 rfl Try.results94 fun w0 => ?_
  repeat' (first
    | refine Wt.seq ?_
    | (apply Wt.regionK; exact rfl)
    | refine Wt.block ?_
    | refine RunK.nil ?_
    | (apply RunK.assignV; exact rfl; exact rfl)
    | (apply RunK.box; exact rfl; exact rfl; apply Cells.eq; (first | exact Cells.agg _ | exact Cells.int _ _ | exact Cells.bool _ | exact Cells.one _ rfl); exact rfl)
    | (apply RunK.assignN; exact rfl; exact rfl))
  refine Wt.loop (fun k : Nat => ⟨[(1, .s (rules l)), (2, .box 2 0), (5, .s (intsR (colsOf (l.take k)))), (6, .s (ints1 (rowsOf (l.take k)))), (7, .s (.v (.int .i64 k)))], [(2, r.vals)]⟩) (fun k => k ≤ l.length) (fun k => l.length - k) 0 (Nat.zero_le _) ?_ ?_
  · (refine Le.mk ?_ ?_; (repeat' (first | exact LeEnv.done | refine LeEnv.cons ?_ ?_ | exact PVLe.refl _ | exact PVLe.s (SVLe.nil _ _ _) | exact PVLe.s (SVLe.no _ _ _ _) | (refine PVLe.int ?_; first | rfl | omega | (simp; done) | (simp; omega)) | (refine PVLe.els ?_; first | rfl | assumption | (simp; done)) | (refine PVLe.bool ?_; first | rfl | assumption) | (refine PVLe.bsl ?_; first | rfl | assumption | (simp; done))));  (repeat' (first | exact LeBox.done | refine LeBox.cons ?_ ?_ | exact rfl)))
  · rintro k hk
    by_cases hlt : k < l.length
    · obtain ⟨x, hxk⟩ := exists_at hlt
      have hx := get_map (f := Rule.vals) hxk
      have hxo := ok_iff.1 (hl x (List.mem_of_getElem? hxk))
      have e1 := cols_succ hxk
      have e2 := rows_succ hxk
      have n1 := cols_len (l.take k)
      have n2 := rows_len (l.take k)
      rw [List.length_take, Nat.min_eq_left hk] at n1 n2
      repeat' (first
    | (apply RunK.append; exact rfl; exact rfl; exact rfl; (first | exact ReadLe.sl _ _ _ _ | exact ReadLe.nil _); exact rfl; exact one_rows rfl; (simp only [List.length_map, List.length_cons, List.length_nil]; omega))
    | refine Wt.seq ?_
    | (apply Wt.regionK; exact rfl)
    | refine Wt.block ?_
    | refine Wt.skip ?_
    | refine RunK.nil ?_
    | (apply RunK.moveV; exact rfl; exact rfl)
    | (apply RunK.index; exact rfl; exact rfl; exact rfl; (first | exact rfl | exact (rfl : (0 : Int) = ((0 : Nat) : Int)) | exact (rfl : (1 : Int) = ((1 : Nat) : Int)) | exact (rfl : (2 : Int) = ((2 : Nat) : Int)) | exact (rfl : (3 : Int) = ((3 : Nat) : Int)) | assumption); (first | omega | exact lt_of_get ‹_› | (rw [List.length_map]; omega) | (simp; omega)))
    | (apply RunK.load1; exact rfl; exact rfl; exact rfl; exact rfl)
    | (apply RunK.field; exact rfl; exact rfl)
    | (apply RunK.fieldE; exact rfl; exact rfl)
    | (apply RunK.assignV; exact rfl; exact rfl)
    | (apply RunK.alloc; exact rfl; apply Cells.eq; (first | exact Cells.agg _ | exact Cells.int _ _ | exact Cells.bool _ | exact Cells.one _ rfl); exact rfl)
    | (apply RunK.moveS; exact rfl; exact rfl)
    | (apply RunK.assignS; exact rfl; exact rfl)
    | (apply RunK.loadER; exact rfl; exact rfl; assumption; exact rfl; (apply cut_eq; repeat (first | exact Cut.nil _ | apply Cut.cons | apply Cut.skip)))
    | (apply RunK.lss; exact rfl; exact rfl; exact rfl)
    | (apply RunK.add; exact rfl; exact rfl; exact rfl; (first | omega | (simp only [List.length_map]; omega)))
    | (apply RunK.len; exact rfl; exact rfl)
    | (apply RunK.rows; exact rfl; (repeat (first | exact PartsOk.nil | (apply PartsOk.cons; exact rfl))); (repeat (first | exact Rows.nil _ | (apply Rows.cons; (first | exact Cells.agg _ | exact Cells.int _ _ | exact Cells.bool _ | exact Cells.one _ rfl); exact rfl))); exact rfl; exact rfl)
    | (apply RunK.store; exact rfl; exact rfl; exact rfl; exact rfl; exact rfl; exact rfl; exact rfl; apply upd_eq; exact rfl; (first | exact Cells.agg _ | exact Cells.int _ _ | exact Cells.bool _ | exact Cells.one _ rfl); (repeat (first | exact Upd.nil _ | apply Upd.cons | apply Upd.skip)))
    | (apply Wt.cond; exact rfl; all_goals (intro hg; (first | exact absurd hg (by decide) | skip); (first | (with_reducible replace hg := not_t hg) | (with_reducible replace hg := not_f hg) | skip); (first | (with_reducible replace hg := dec_t hg) | (with_reducible replace hg := dec_f hg) | skip); (first | (with_reducible exact absurd rfl hg) | skip); (repeat rw [List.length_map] at hg); try (exfalso; omega))))
      have e3 : List.map ival (colsOf (l.take k)) ++ [[.int .i64 x.rect.c1], [.int .i64 (x.rect.c2 + 1)]] = List.map ival (colsOf (l.take (k + 1))) := by rw [e1, List.map_append]; rfl
      have e4 : List.map ival (rowsOf (l.take k)) ++ [[.int .i64 x.rect.r1], [.int .i64 (x.rect.r2 + 1)]] = List.map ival (rowsOf (l.take (k + 1))) := by rw [e2, List.map_append]; rfl
      refine ⟨k + 1, hlt, by omega, ?_⟩
      (refine Le.mk ?_ ?_; (repeat' (first | exact LeEnv.done | refine LeEnv.cons ?_ ?_ | exact PVLe.refl _ | exact PVLe.s (SVLe.nil _ _ _) | exact PVLe.s (SVLe.no _ _ _ _) | (refine PVLe.int ?_; first | rfl | omega | (simp; done) | (simp; omega)) | (refine PVLe.els ?_; first | rfl | assumption | (simp; done)) | (refine PVLe.bool ?_; first | rfl | assumption) | (refine PVLe.bsl ?_; first | rfl | assumption | (simp; done))));  (repeat' (first | exact LeBox.done | refine LeBox.cons ?_ ?_ | exact rfl)))
    · obtain rfl : k = l.length := by omega
      rw [List.take_length]
      repeat' (first
    | (apply RunK.callS; exact rfl; exact hc1; (repeat (first | exact ArgsLe.nil | refine ArgsLe.cons ?_ ?_ | exact ArgLe.v _ | exact ArgLe.sl _ _ _ _ | exact ArgLe.nil _ | exact ArgLe.nil' | (apply ArgLe.bsl; exact rfl; (first | exact rfl | (rw [List.length_map]; done) | (simp only [List.length_map]; done) | (simp; done) | (simp; omega)); (first | assumption | exact map_len (fun _ => rfl))))); exact rfl) | (apply RunK.callS; exact rfl; exact hc2; (repeat (first | exact ArgsLe.nil | refine ArgsLe.cons ?_ ?_ | exact ArgLe.v _ | exact ArgLe.sl _ _ _ _ | exact ArgLe.nil _ | exact ArgLe.nil' | (apply ArgLe.bsl; exact rfl; (first | exact rfl | (rw [List.length_map]; done) | (simp only [List.length_map]; done) | (simp; done) | (simp; omega)); (first | assumption | exact map_len (fun _ => rfl))))); exact rfl)
    | refine Wt.seq ?_
    | (apply Wt.regionK; exact rfl)
    | (apply Wt.regionD; kernel_rfl; kernel_rfl; exact rfl; exact rfl)
    | refine Wt.block ?_
    | refine Wt.exit ?_
    | refine RunK.nil ?_
    | (apply RunK.moveV; exact rfl; exact rfl)
    | (apply RunK.load1; exact rfl; exact rfl; exact rfl; exact rfl)
    | (apply RunK.field; exact rfl; exact rfl)
    | (apply RunK.assignV; exact rfl; exact rfl)
    | (apply RunK.moveS; exact rfl; exact rfl)
    | (apply RunK.assignS; exact rfl; exact rfl)
    | (apply RunK.assignN; exact rfl; exact rfl)
    | (apply RunK.lss; exact rfl; exact rfl; exact rfl)
    | (apply RunK.len; exact rfl; exact rfl)
    | (apply Wt.cond; exact rfl; all_goals (intro hg; (first | exact absurd hg (by decide) | skip); (first | (with_reducible replace hg := not_t hg) | (with_reducible replace hg := not_f hg) | skip); (first | (with_reducible replace hg := dec_t hg) | (with_reducible replace hg := dec_f hg) | skip); (first | (with_reducible exact absurd rfl hg) | skip); (repeat rw [List.length_map] at hg); try (exfalso; omega))))
      refine Wt.loop (fun i : Nat => ⟨[(9, .s (.sl (some 46) (.front 3) 1 (A.map ival))), (10, .s (.sl (some 52) (.front 3) 1 (B.map ival))), (11, .s (refsR (gridL (A.take i) B))), (12, .s (.v (.int .i64 i)))], []⟩) (fun i => i ≤ A.length) (fun i => A.length - i) 0 (Nat.zero_le _) ?_ ?_
      · (refine Le.mk ?_ ?_; (repeat' (first | exact LeEnv.done | refine LeEnv.cons ?_ ?_ | exact PVLe.refl _ | exact PVLe.s (SVLe.nil _ _ _) | exact PVLe.s (SVLe.no _ _ _ _) | (refine PVLe.int ?_; first | rfl | omega | (simp; done) | (simp; omega)) | (refine PVLe.els ?_; first | rfl | assumption | (simp; done)) | (refine PVLe.bool ?_; first | rfl | assumption) | (refine PVLe.bsl ?_; first | rfl | assumption | (simp; done))));  (repeat' (first | exact LeBox.done | refine LeBox.cons ?_ ?_ | exact rfl)))
      · rintro i hi
        by_cases hlti : i < A.length
        · obtain ⟨a, ha⟩ := exists_at hlti
          have hxa := get_map (f := ival) ha
          have gl := grid_len B (A.take i)
          rw [List.length_take, Nat.min_eq_left hi] at gl
          have gb : i * B.length ≤ 1024 * 1024 := Nat.mul_le_mul (by omega) hB
          have gs := grid_succ (B := B) ha
          repeat' (first
    | refine Wt.seq ?_
    | (apply Wt.regionK; exact rfl)
    | refine Wt.block ?_
    | refine Wt.skip ?_
    | refine RunK.nil ?_
    | (apply RunK.moveV; exact rfl; exact rfl)
    | (apply RunK.assignV; exact rfl; exact rfl)
    | (apply RunK.moveS; exact rfl; exact rfl)
    | (apply RunK.lss; exact rfl; exact rfl; exact rfl)
    | (apply RunK.len; exact rfl; exact rfl)
    | (apply Wt.cond; exact rfl; all_goals (intro hg; (first | exact absurd hg (by decide) | skip); (first | (with_reducible replace hg := not_t hg) | (with_reducible replace hg := not_f hg) | skip); (first | (with_reducible replace hg := dec_t hg) | (with_reducible replace hg := dec_f hg) | skip); (first | (with_reducible exact absurd rfl hg) | skip); (repeat rw [List.length_map] at hg); try (exfalso; omega))))
          refine Wt.loop (fun j : Nat => ⟨[(9, .s (.sl (some 46) (.front 3) 1 (A.map ival))), (10, .s (.sl (some 52) (.front 3) 1 (B.map ival))), (11, .s (refsR (gridL (A.take i) B ++ (B.take j).map fun b => (⟨b, a⟩ : Ref)))), (12, .s (.v (.int .i64 i))), (13, .s (.v (.int .i64 j)))], []⟩) (fun j => j ≤ B.length) (fun j => B.length - j) 0 (Nat.zero_le _) ?_ ?_
          · (refine Le.mk ?_ ?_; (repeat' (first | exact LeEnv.done | refine LeEnv.cons ?_ ?_ | exact PVLe.refl _ | exact PVLe.s (SVLe.nil _ _ _) | exact PVLe.s (SVLe.no _ _ _ _) | (refine PVLe.int ?_; first | rfl | omega | (simp; done) | (simp; omega)) | (refine PVLe.els ?_; first | rfl | assumption | (simp; done)) | (refine PVLe.bool ?_; first | rfl | assumption) | (refine PVLe.bsl ?_; first | rfl | assumption | (simp; done))));  (repeat' (first | exact LeBox.done | refine LeBox.cons ?_ ?_ | exact rfl)))
          · rintro j hj
            by_cases hltj : j < B.length
            · obtain ⟨b, hb⟩ := exists_at hltj
              have hxb := get_map (f := ival) hb
              have ms := map_succ (f := fun b => (⟨b, a⟩ : Ref)) hb
              repeat' (first
    | (apply RunK.append; exact rfl; exact rfl; exact rfl; (first | exact ReadLe.sl _ _ _ _ | exact ReadLe.nil _); exact rfl; exact one_rows rfl; (simp only [List.length_map, List.length_append, List.length_take, List.length_cons, List.length_nil]; omega)) | (apply RunK.loadE1; exact rfl; exact rfl; exact hxa; exact rfl) | (apply RunK.loadE1; exact rfl; exact rfl; exact hxb; exact rfl)
    | refine Wt.seq ?_
    | (apply Wt.regionK; exact rfl)
    | (apply Wt.regionD; kernel_rfl; kernel_rfl; exact rfl; exact rfl)
    | refine Wt.block ?_
    | refine Wt.skip ?_
    | refine RunK.nil ?_
    | (apply RunK.moveV; exact rfl; exact rfl)
    | (apply RunK.index; exact rfl; exact rfl; exact rfl; (first | exact rfl | exact (rfl : (0 : Int) = ((0 : Nat) : Int)) | exact (rfl : (1 : Int) = ((1 : Nat) : Int)) | exact (rfl : (2 : Int) = ((2 : Nat) : Int)) | exact (rfl : (3 : Int) = ((3 : Nat) : Int)) | assumption); (first | omega | exact lt_of_get ‹_› | (rw [List.length_map]; omega) | (simp; omega)))
    | (apply RunK.assignV; exact rfl; exact rfl)
    | (apply RunK.moveS; exact rfl; exact rfl)
    | (apply RunK.assignS; exact rfl; exact rfl)
    | (apply RunK.lss; exact rfl; exact rfl; exact rfl)
    | (apply RunK.add; exact rfl; exact rfl; exact rfl; (first | omega | (simp only [List.length_map]; omega)))
    | (apply RunK.len; exact rfl; exact rfl)
    | (apply RunK.build; exact rfl; (repeat (first | exact PartsOk.nil | (apply PartsOk.cons; exact rfl))); (repeat (first | exact fill_nil | (apply fill_cons; exact rfl; (first | exact Cells.agg _ | exact Cells.int _ _ | exact Cells.bool _ | exact Cells.one _ rfl); exact rfl; (repeat (first | exact Upd.nil _ | apply Upd.cons | apply Upd.skip))))))
    | (apply RunK.rows; exact rfl; (repeat (first | exact PartsOk.nil | (apply PartsOk.cons; exact rfl))); (repeat (first | exact Rows.nil _ | (apply Rows.cons; (first | exact Cells.agg _ | exact Cells.int _ _ | exact Cells.bool _ | exact Cells.one _ rfl); exact rfl))); exact rfl; exact rfl)
    | (apply Wt.cond; exact rfl; all_goals (intro hg; (first | exact absurd hg (by decide) | skip); (first | (with_reducible replace hg := not_t hg) | (with_reducible replace hg := not_f hg) | skip); (first | (with_reducible replace hg := dec_t hg) | (with_reducible replace hg := dec_f hg) | skip); (first | (with_reducible exact absurd rfl hg) | skip); (repeat rw [List.length_map] at hg); try (exfalso; omega))))
              have e3 : List.map Ref.vals (gridL (A.take i) B ++ (B.take j).map fun b => (⟨b, a⟩ : Ref)) ++ [[.int .i64 b, .int .i64 a]] = List.map Ref.vals (gridL (A.take i) B ++ (B.take (j + 1)).map fun b => (⟨b, a⟩ : Ref)) := by rw [ms, ← List.append_assoc, List.map_append (l₂ := [_])]; rfl
              refine ⟨j + 1, hltj, by omega, ?_⟩
              (refine Le.mk ?_ ?_; (repeat' (first | exact LeEnv.done | refine LeEnv.cons ?_ ?_ | exact PVLe.refl _ | exact PVLe.s (SVLe.nil _ _ _) | exact PVLe.s (SVLe.no _ _ _ _) | (refine PVLe.int ?_; first | rfl | omega | (simp; done) | (simp; omega)) | (refine PVLe.els ?_; first | rfl | assumption | (simp; done)) | (refine PVLe.bool ?_; first | rfl | assumption) | (refine PVLe.bsl ?_; first | rfl | assumption | (simp; done))));  (repeat' (first | exact LeBox.done | refine LeBox.cons ?_ ?_ | exact rfl)))
            · obtain rfl : j = B.length := by omega
              rw [List.take_length]
              repeat' (first
    | refine Wt.seq ?_
    | (apply Wt.regionK; exact rfl)
    | refine Wt.exit ?_
    | refine RunK.nil ?_
    | (apply RunK.moveV; exact rfl; exact rfl)
    | (apply RunK.assignV; exact rfl; exact rfl)
    | (apply RunK.moveS; exact rfl; exact rfl)
    | (apply RunK.lss; exact rfl; exact rfl; exact rfl)
    | (apply RunK.add; exact rfl; exact rfl; exact rfl; (first | omega | (simp only [List.length_map]; omega)))
    | (apply RunK.len; exact rfl; exact rfl)
    | (apply Wt.cond; exact rfl; all_goals (intro hg; (first | exact absurd hg (by decide) | skip); (first | (with_reducible replace hg := not_t hg) | (with_reducible replace hg := not_f hg) | skip); (first | (with_reducible replace hg := dec_t hg) | (with_reducible replace hg := dec_f hg) | skip); (first | (with_reducible exact absurd rfl hg) | skip); (repeat rw [List.length_map] at hg); try (exfalso; omega))))
              refine ⟨i + 1, hlti, by omega, ?_⟩
              rw [gs]
              (refine Le.mk ?_ ?_; (repeat' (first | exact LeEnv.done | refine LeEnv.cons ?_ ?_ | exact PVLe.refl _ | exact PVLe.s (SVLe.nil _ _ _) | exact PVLe.s (SVLe.no _ _ _ _) | (refine PVLe.int ?_; first | rfl | omega | (simp; done) | (simp; omega)) | (refine PVLe.els ?_; first | rfl | assumption | (simp; done)) | (refine PVLe.bool ?_; first | rfl | assumption) | (refine PVLe.bsl ?_; first | rfl | assumption | (simp; done))));  (repeat' (first | exact LeBox.done | refine LeBox.cons ?_ ?_ | exact rfl)))
        · obtain rfl : i = A.length := by omega
          rw [List.take_length]
          repeat' (first
    | refine Wt.seq ?_
    | (apply Wt.regionK; exact rfl)
    | refine Wt.ret ?_
    | refine Wt.exit ?_
    | refine RunK.nil ?_
    | (apply RunK.moveV; exact rfl; exact rfl)
    | (apply RunK.moveS; exact rfl; exact rfl)
    | (apply RunK.assignS; exact rfl; exact rfl)
    | (apply RunK.lss; exact rfl; exact rfl; exact rfl)
    | (apply RunK.len; exact rfl; exact rfl)
    | (apply Wt.cond; exact rfl; all_goals (intro hg; (first | exact absurd hg (by decide) | skip); (first | (with_reducible replace hg := not_t hg) | (with_reducible replace hg := not_f hg) | skip); (first | (with_reducible replace hg := dec_t hg) | (with_reducible replace hg := dec_f hg) | skip); (first | (with_reducible exact absurd rfl hg) | skip); (repeat rw [List.length_map] at hg); try (exfalso; omega))))
          apply ResOk.s1; exact rfl; exact rfl

/-! ### spent, and Plain -/
def spentB (l : List Rule) (i : Nat) (r : Rule) : Bool := (pointsL r.rect l).all fun q => !decide (lastN q l l.length = i)
set_option maxRecDepth 100000 in
theorem last_iff {x : Ref} {l : List Rule} {k : Nat} {r : Rule} (h : l[k]? = some r) (hx : hasB r.rect x = true) : lastN x l l.length = k ↔ ∀ j q, k + 1 ≤ j → l[j]? = some q → hasB q.rect x = false := by
  constructor
  · intro hk
    obtain ⟨i, r', h1, h2, h3, h4⟩ := last_hit (x := x) (l := l) (k := l.length) ⟨k, r, (List.getElem?_eq_some_iff.1 h).1, h, hx⟩
    have h4' : ∀ j q, i + 1 ≤ j → l[j]? = some q → hasB q.rect x = false := fun j q a b => h4 j q a (List.getElem?_eq_some_iff.1 b).1 b
    have e := lastN_skip (x := x) (l := l) (a := i + 1) (d := l.length - (i + 1)) h4'
    rw [show i + 1 + (l.length - (i + 1)) = l.length by omega, hk, lastN_yes h2 h3] at e
    subst e
    exact h4'
  · intro hno
    have hk : k < l.length := (List.getElem?_eq_some_iff.1 h).1
    have e := lastN_skip (x := x) (l := l) (a := k + 1) (d := l.length - (k + 1)) hno
    rw [show k + 1 + (l.length - (k + 1)) = l.length by omega] at e
    rw [e, lastN_yes h hx]
set_option maxRecDepth 100000 in
theorem spent_keep {l : List Rule} (hg : ∀ r ∈ l, goodR 64 r = true) {k : Nat} {r : Rule} (h : l[k]? = some r) (hk : k ≠ 0) : spentB l k r = !keepAt l k r := by
  have key : keepAt l k r = true ↔ spentB l k r = false := by
    rw [keep_iff hg h]
    constructor
    · rintro (h0 | ⟨x, hx, hno⟩)
      · exact absurd h0 hk
      · obtain ⟨q, hq, hst⟩ := points_stand (l := l) hx
        rw [← Bool.not_eq_true]
        intro hs
        have := List.all_eq_true.1 hs q hq
        simp only [Bool.not_eq_true', decide_eq_false_iff_not] at this
        refine this ((last_iff h (points_in hq)).2 fun j y a b => ?_)
        rw [← hst y (List.mem_of_getElem? b)]
        exact hno j y a b
    · intro hs
      right
      rw [← Bool.not_eq_true, spentB, List.all_eq_true] at hs
      obtain ⟨q, hq⟩ := Classical.not_forall.1 hs
      obtain ⟨hq1, hq2⟩ := Classical.not_imp.1 hq
      simp only [Bool.not_eq_true', decide_eq_false_iff_not, Classical.not_not] at hq2
      have hqh := points_in hq1
      exact ⟨q, hqh, (last_iff h hqh).1 hq2⟩
  cases hkp : keepAt l k r with
  | true => rw [key.1 hkp]; rfl
  | false =>
    cases hsp : spentB l k r with
    | true => rfl
    | false => rw [key.2 hsp] at hkp; cases hkp
end Go.Proofs.Ytfacimebfdeaeaa
