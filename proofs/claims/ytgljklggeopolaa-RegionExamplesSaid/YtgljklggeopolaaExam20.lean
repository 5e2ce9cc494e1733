/- The walk of the law RegionExamples. -/
import Derived.Test.YtgljklggeopolaaDiffersLaw
import Derived.Test.YtgljklggeopolaaPartsLaw
import Derived.Test.YtgljklggeopolaaF18
namespace Go.Proofs.Ytgljklggeopolaa
open Pv Go.RowKit

def over20 : List Rule := [⟨⟨1, 1, 2, 1⟩, ⟨1, 1, 1⟩⟩, ⟨⟨2, 1, 2, 3⟩, ⟨0, 0, 1⟩⟩, ⟨⟨1, 1, 1, 9⟩, ⟨7, 7, 1⟩⟩, ⟨sheetR, ⟨0, 0, 1⟩⟩]
def pointS (r : Rect) (a : List Rule) : Rights := ⟨pointG Rights.read r a, pointG Rights.write r a, pointG Rights.own r a⟩
theorem overS_point {r : Rect} {a : List Rule} (hr : rectOk r = true) (ha : chkE a = 0) : overS r a = (pointS r a, 0) := by
  rw [overS_ok hr ha, overR_eq, over_point hr ha, over_point hr ha, over_point hr ha]; rfl
set_option maxRecDepth 100000 in
theorem over20_all : ∀ x ∈ over20, overS x.rect rules3 = (x.rights, 0) := by
  have h : ∀ x ∈ over20, rectOk x.rect = true ∧ pointS x.rect rules3 = x.rights := by decide +kernel
  intro x hx
  rw [overS_point (h x hx).1 rules3_chk, (h x hx).2]
theorem sorted_ext : ∀ {A B : List Int}, A.Pairwise (· < ·) → B.Pairwise (· < ·) → (∀ x, x ∈ A ↔ x ∈ B) → A = B
  | [], [], _, _, _ => rfl
  | [], b :: B, _, _, h => by have := (h b).2 (List.mem_cons_self ..); cases this
  | a :: A, [], _, _, h => by have := (h a).1 (List.mem_cons_self ..); cases this
  | a :: A, b :: B, ha, hb, h => by
    have ha' := List.pairwise_cons.1 ha
    have hb' := List.pairwise_cons.1 hb
    have e : a = b := by
      have h1 := (h a).1 (List.mem_cons_self ..)
      have h2 := (h b).2 (List.mem_cons_self ..)
      rcases List.mem_cons.1 h1 with h1 | h1
      · exact h1
      · rcases List.mem_cons.1 h2 with h2 | h2
        · exact h2.symm
        · have := ha'.1 b h2
          have := hb'.1 a h1
          omega
    subst e
    refine congrArg (a :: ·) (sorted_ext ha'.2 hb'.2 fun x => ?_)
    have hx := h x
    rw [List.mem_cons, List.mem_cons] at hx
    constructor
    · intro hm
      have := ha'.1 x hm
      exact (hx.1 (.inr hm)).resolve_left (by omega)
    · intro hm
      have := hb'.1 x hm
      exact (hx.2 (.inr hm)).resolve_left (by omega)
theorem cutsB_cuts (lo hi : Int) (ps : List (Int × Int)) : cutsB lo hi ps = cutsL lo hi (ps.flatMap fun p => [p.1, p.2 + 1]) :=
  sorted_ext (cutsB_sorted lo hi ps) (cuts_sorted ..) fun x => by
    rw [cutsB_mem, mem_cuts]
    refine and_congr_right fun _ => and_congr_right fun _ => or_congr_right ?_
    rw [List.mem_flatMap]
    simp
theorem rows_area20 : rowsP ⟨2, 1, 2, 3⟩ rules3 [] = [(1, 1), (2, 2), (3, 3)] := by
  unfold rowsP bandsL
  rw [cutsB_cuts]
  decide +kernel
theorem cols_area20 : colsP ⟨2, 1, 2, 3⟩ rules3 [] = [(2, 2)] := by
  unfold colsP bandsL
  rw [cutsB_cuts]
  decide +kernel
theorem parts_area20 : (partsL ⟨2, 1, 2, 3⟩ rules3 []).map Part.r = [⟨2, 1, 2, 1⟩, ⟨2, 2, 2, 2⟩, ⟨2, 3, 2, 3⟩] ∧ (partsL ⟨2, 1, 2, 3⟩ rules3 []).map (fun p => p.which.1) = [1, 2, 1] := by
  unfold partsL
  rw [rows_area20, cols_area20]
  decide +kernel
theorem may20 : mayS 0 ⟨2, 1, 2, 3⟩ rules3 = (false, true, 0) ∧ mayS 1 ⟨1, 1, 1, 1⟩ rules3 = (true, false, 0) ∧ mayS 64 ⟨1, 1, 1, 1⟩ rules3 = (false, false, 2) ∧ mayS (-1) ⟨2, 1, 1, 1⟩ rules3 = (false, false, 3) := by
  unfold mayS
  rw [overS_point (r := ⟨2, 1, 2, 3⟩) (by decide) rules3_chk, overS_point (r := ⟨1, 1, 1, 1⟩) (by decide) rules3_chk, show overS ⟨2, 1, 1, 1⟩ rules3 = (noRights, 3) by unfold overS; rw [if_neg (by decide)]; decide +kernel]
  decide +kernel
theorem dif20 : difN ⟨1, 1, 3, 3⟩ (rules3.take 1) rules3 = 4 ∧ errD ⟨1, 1, 1, 1⟩ rules3 (rules3.drop 1) = 2 ∧ overS ⟨0, 0, 0, 0⟩ [] = (noRights, 3) ∧ overS ⟨1, 1, 1, 1⟩ [] = (noRights, 2) := by decide +kernel
abbrev rectsR' (τ : Nat) (l : List Rect) : SV := .sl (some τ) (.front 23) 4 (l.map Rect.vals)
abbrev intsR' (τ : Nat) (l : List Int) : SV := .sl (some τ) (.front 3) 1 (l.map ival)
theorem chk1 : chkE (rules3.take 1) = 0 := by decide
theorem rules3_ok1 : ∀ r ∈ rules3.take 1, r.ok := fun r hr => rules3_ok r (List.mem_of_mem_take hr)
theorem rules3_ok2 : ∀ r ∈ rules3.drop 1, r.ok := fun r hr => rules3_ok r (List.mem_of_mem_drop hr)
set_option maxRecDepth 100000 in
set_option maxHeartbeats 4000000 in
theorem lawExamples : Pure Try.prog 9 [] (.s (.v (.bool true))) := by
  have hneq : ∀ (A : Rights) (o o2 : Operand), BinRun Try.prog .neq 28 o o2 A.v A.v (.bool false) := fun A o o2 => by
    have := neqRights (x := o) (y := o2) A A
    rwa [decide_eq_true rfl] at this
  have hp := regParts ⟨2, 1, 2, 3⟩ rules3 (by decide) rules3_ok (by decide)
  rw [parts_area20.1, parts_area20.2] at hp
  have he1 := equalRects [⟨2, 1, 2, 1⟩, ⟨2, 2, 2, 2⟩, ⟨2, 3, 2, 3⟩] [⟨2, 1, 2, 1⟩, ⟨2, 2, 2, 2⟩, ⟨2, 3, 2, 3⟩] (by decide) (by decide)
  rw [decide_eq_true rfl] at he1
  have he2 := equalInts [1, 2, 1] [1, 2, 1] (by decide) (by decide)
  rw [decide_eq_true rfl] at he2
  have hm0 := regMay 0 ⟨2, 1, 2, 3⟩ rules3 (by decide) rules3_ok
  rw [may20.1] at hm0
  have hm1 := regMay 1 ⟨1, 1, 1, 1⟩ rules3 (by decide) rules3_ok
  rw [may20.2.1] at hm1
  have hm2 := regMay 64 ⟨1, 1, 1, 1⟩ rules3 (by decide) rules3_ok
  rw [may20.2.2.1] at hm2
  have hm3 := regMay (-1) ⟨2, 1, 1, 1⟩ rules3 (by decide) rules3_ok
  rw [may20.2.2.2] at hm3
  have hd := regDiffer ⟨1, 1, 3, 3⟩ (rules3.take 1) rules3 (by decide) (by decide) rules3_ok1 rules3_ok (by decide) chk1 rules3_chk
  have hh := differ_holds ⟨1, 1, 3, 3⟩ (rules3.take 1) rules3 (by decide) (by decide) (by decide) chk1 rules3_chk
  have hf := differing ⟨1, 1, 3, 3⟩ (rules3.take 1) rules3 (by decide) (by decide) (by decide) chk1 rules3_chk
  rw [dif20.1] at hf
  have hg0 := regDiffer_err ⟨1, 1, 1, 1⟩ rules3 (rules3.drop 1) (by decide) (by decide) rules3_ok rules3_ok2 (by rw [dif20.2.1]; decide)
  rw [dif20.2.1] at hg0
  have ho0 := regOver ⟨0, 0, 0, 0⟩ [] (by decide) (fun _ h => by cases h)
  rw [dif20.2.2.1] at ho0
  have ho1 := regOver ⟨1, 1, 1, 1⟩ [] (by decide) (fun _ h => by cases h)
  rw [dif20.2.2.2] at ho1
  generalize ((partsL ⟨1, 1, 3, 3⟩ (rules3.take 1) rules3).filter (difP (rules3.take 1) rules3)).map Part.r = D at *
  dsimp only at *
  refine pure_of_wt Try.func9 rfl (by decide) _ Try.ntmps9 rfl Try.results9 fun w0 => ?_
  repeat' (first
    | (refine Wt.cutAt1 2 ⟨[(1, .s (.sl (some 21) .no 7 (rules3.map Rule.vals))), (2, .s (.sl (some 34) .no 7 (over20.map Rule.vals)))], []⟩ ?_ ?_) | (apply RunK.callS; exact rfl; exact rules20; (repeat (first | exact ArgsLe.nil | refine ArgsLe.cons ?_ ?_ | exact ArgLe.v _ | exact ArgLe.sl _ _ _ _ | exact ArgLe.nil _ | exact ArgLe.nil' | (apply ArgLe.bsl; exact rfl; (first | exact rfl | (rw [List.length_map]; done) | (simp only [List.length_map]; done) | (simp; done) | (simp; omega)); (first | assumption | exact map_len (fun _ => rfl))))); exact rfl)
    | refine Wt.seq ?_
    | (apply Wt.regionK; exact rfl)
    | refine RunK.nil ?_
    | (apply RunK.assignV; exact rfl; exact rfl)
    | (apply RunK.assignS; exact rfl; exact rfl))
  · refine Hold.of ?_
    repeat' (first
    | (apply RunK.callS; exact rfl; exact refSheet; (repeat (first | exact ArgsLe.nil | refine ArgsLe.cons ?_ ?_ | exact ArgLe.v _ | exact ArgLe.sl _ _ _ _ | exact ArgLe.nil _ | exact ArgLe.nil' | (apply ArgLe.bsl; exact rfl; (first | exact rfl | (rw [List.length_map]; done) | (simp only [List.length_map]; done) | (simp; done) | (simp; omega)); (first | assumption | exact map_len (fun _ => rfl))))); exact rfl)
    | (apply Wt.regionK; exact rfl)
    | refine RunK.nil ?_
    | (apply RunK.assignS; exact rfl; exact rfl)
    | (apply RunK.build; exact rfl; (repeat (first | exact PartsOk.nil | (apply PartsOk.cons; exact rfl))); (repeat (first | exact fill_nil | (apply fill_cons; exact rfl; (first | exact Cells.agg _ | exact Cells.int _ _ | exact Cells.bool _ | exact Cells.one _ rfl); exact rfl; (repeat (first | exact Upd.nil _ | apply Upd.cons | apply Upd.skip))))))
    | (apply RunK.rows; exact rfl; (repeat (first | exact PartsOk.nil | (apply PartsOk.cons; exact rfl))); (repeat (first | exact Rows.nil _ | (apply Rows.cons; (first | exact Cells.agg _ | exact Cells.int _ _ | exact Cells.bool _ | exact Cells.one _ rfl); exact rfl))); exact rfl; exact rfl))
    (refine Le.mk ?_ ?_; (repeat' (first | exact LeEnv.done | refine LeEnv.cons ?_ ?_ | exact PVLe.refl _ | exact PVLe.s (SVLe.nil _ _ _) | exact PVLe.s (SVLe.no _ _ _ _) | (refine PVLe.int ?_; first | rfl | omega | (simp; done) | (simp; omega)) | (refine PVLe.els ?_; first | rfl | assumption | (simp; done)) | (refine PVLe.bool ?_; first | rfl | assumption) | (refine PVLe.bsl ?_; first | rfl | assumption | (simp; done))));  (repeat' (first | exact LeBox.done | refine LeBox.cons ?_ ?_ | exact rfl)))
  refine Hold.of ?_
  repeat' (first
    | refine Wt.seq ?_
    | (apply Wt.regionK; exact rfl)
    | refine Wt.block ?_
    | refine RunK.nil ?_
    | (apply RunK.assignV; exact rfl; exact rfl))
  refine Wt.loop (fun i : Nat => ⟨[(1, .s (.sl (some 21) .no 7 (rules3.map Rule.vals))), (2, .s (.sl (some 34) .no 7 (over20.map Rule.vals))), (3, .s (.v (.int .i64 i)))], []⟩) (fun i => i ≤ 4) (fun i => 4 - i) 0 (Nat.zero_le _) ?_ ?_
  · (refine Le.mk ?_ ?_; (repeat' (first | exact LeEnv.done | refine LeEnv.cons ?_ ?_ | exact PVLe.refl _ | exact PVLe.s (SVLe.nil _ _ _) | exact PVLe.s (SVLe.no _ _ _ _) | (refine PVLe.int ?_; first | rfl | omega | (simp; done) | (simp; omega)) | (refine PVLe.els ?_; first | rfl | assumption | (simp; done)) | (refine PVLe.bool ?_; first | rfl | assumption) | (refine PVLe.bsl ?_; first | rfl | assumption | (simp; done))));  (repeat' (first | exact LeBox.done | refine LeBox.cons ?_ ?_ | exact rfl)))
  · rintro i hi
    have hlen : over20.length = 4 := rfl
    by_cases hlti : i < 4
    · obtain ⟨x, hx⟩ := exists_at (show i < over20.length by omega)
      have hxv := get_map (f := Rule.vals) hx
      have ho := regOver x.rect rules3 (by decide) rules3_ok
      rw [over20_all x (List.mem_of_getElem? hx)] at ho
      repeat' (first
    | (apply RunK.callT; exact rfl; exact ho; (repeat (first | exact ArgsLe.nil | refine ArgsLe.cons ?_ ?_ | exact ArgLe.v _ | exact ArgLe.sl _ _ _ _ | exact ArgLe.nil _ | exact ArgLe.nil' | (apply ArgLe.bsl; exact rfl; (first | exact rfl | (rw [List.length_map]; done) | (simp only [List.length_map]; done) | (simp; done) | (simp; omega)); (first | assumption | exact map_len (fun _ => rfl))))); exact rfl) | (apply RunK.loadER; exact rfl; exact rfl; exact hxv; exact rfl; (apply cut_eq; repeat (first | exact Cut.nil _ | apply Cut.cons | apply Cut.skip))) | (apply RunK.bin; exact rfl; exact rfl; exact rfl; exact hneq x.rights _ _)
    | refine Wt.seq ?_
    | (apply Wt.regionK; exact rfl)
    | (apply Wt.regionD; kernel_rfl; kernel_rfl; exact rfl; exact rfl)
    | refine Wt.block ?_
    | refine Wt.skip ?_
    | refine RunK.nil ?_
    | (apply RunK.moveV; exact rfl; exact rfl)
    | (apply RunK.index; exact rfl; exact rfl; exact rfl; (first | exact rfl | exact (rfl : (0 : Int) = ((0 : Nat) : Int)) | exact (rfl : (1 : Int) = ((1 : Nat) : Int)) | exact (rfl : (2 : Int) = ((2 : Nat) : Int)) | exact (rfl : (3 : Int) = ((3 : Nat) : Int)) | assumption); (first | omega | exact lt_of_get ‹_› | (rw [List.length_map]; omega) | (simp; omega)))
    | (apply RunK.fieldE; exact rfl; exact rfl)
    | (apply RunK.assignV; exact rfl; exact rfl)
    | (apply RunK.alloc; exact rfl; apply Cells.eq; (first | exact Cells.agg _ | exact Cells.int _ _ | exact Cells.bool _ | exact Cells.one _ rfl); exact rfl)
    | (apply RunK.moveS; exact rfl; exact rfl)
    | (apply RunK.moveT; exact rfl; exact rfl)
    | (apply RunK.loadR; exact rfl; exact rfl; exact rfl; exact rfl; (apply cut_eq; repeat (first | exact Cut.nil _ | apply Cut.cons | apply Cut.skip)))
    | (apply RunK.pickF; exact rfl; exact rfl; exact rfl)
    | (apply RunK.lss; exact rfl; exact rfl; exact rfl)
    | (apply RunK.neq; exact rfl; exact rfl; exact rfl)
    | (apply RunK.add; exact rfl; exact rfl; exact rfl; (first | omega | (simp only [List.length_map]; omega)))
    | (apply RunK.len; exact rfl; exact rfl)
    | (apply RunK.extract; exact rfl; exact rfl; exact rfl)
    | (apply RunK.store; exact rfl; exact rfl; exact rfl; exact rfl; exact rfl; exact rfl; exact rfl; apply upd_eq; exact rfl; (first | exact Cells.agg _ | exact Cells.int _ _ | exact Cells.bool _ | exact Cells.one _ rfl); (repeat (first | exact Upd.nil _ | apply Upd.cons | apply Upd.skip)))
    | (apply Wt.cond; exact rfl; all_goals (intro hg; (first | exact absurd hg (by decide) | skip); (first | (with_reducible replace hg := not_t hg) | (with_reducible replace hg := not_f hg) | skip); (first | (with_reducible replace hg := dec_t hg) | (with_reducible replace hg := dec_f hg) | skip); (first | (with_reducible exact absurd rfl hg) | skip); (repeat rw [List.length_map] at hg); try (exfalso; omega))))
      refine ⟨i + 1, hlti, by omega, ?_⟩
      (refine Le.mk ?_ ?_; (repeat' (first | exact LeEnv.done | refine LeEnv.cons ?_ ?_ | exact PVLe.refl _ | exact PVLe.s (SVLe.nil _ _ _) | exact PVLe.s (SVLe.no _ _ _ _) | (refine PVLe.int ?_; first | rfl | omega | (simp; done) | (simp; omega)) | (refine PVLe.els ?_; first | rfl | assumption | (simp; done)) | (refine PVLe.bool ?_; first | rfl | assumption) | (refine PVLe.bsl ?_; first | rfl | assumption | (simp; done))));  (repeat' (first | exact LeBox.done | refine LeBox.cons ?_ ?_ | exact rfl)))
    · obtain rfl : i = 4 := by omega
      repeat' (first
    | (refine Wt.cutAt1 9 ⟨[(1, .s (.sl (some 21) .no 7 (rules3.map Rule.vals))), (6, .s (rectsR' 68 [⟨2, 1, 2, 1⟩, ⟨2, 2, 2, 2⟩, ⟨2, 3, 2, 3⟩])), (7, .s (intsR' 68 [1, 2, 1])), (8, .s (.v (.int .i64 0)))], []⟩ ?_ ?_)
    | refine Wt.seq ?_
    | (apply Wt.regionK; exact rfl)
    | refine Wt.exit ?_
    | refine RunK.nil ?_
    | (apply RunK.moveV; exact rfl; exact rfl)
    | (apply RunK.moveS; exact rfl; exact rfl)
    | (apply RunK.lss; exact rfl; exact rfl; exact rfl)
    | (apply RunK.len; exact rfl; exact rfl)
    | (apply Wt.cond; exact rfl; all_goals (intro hg; (first | exact absurd hg (by decide) | skip); (first | (with_reducible replace hg := not_t hg) | (with_reducible replace hg := not_f hg) | skip); (first | (with_reducible replace hg := dec_t hg) | (with_reducible replace hg := dec_f hg) | skip); (first | (with_reducible exact absurd rfl hg) | skip); (repeat rw [List.length_map] at hg); try (exfalso; omega))))
      · refine Hold.of ?_
        repeat' (first
    | (apply RunK.callT; exact rfl; exact hp; (repeat (first | exact ArgsLe.nil | refine ArgsLe.cons ?_ ?_ | exact ArgLe.v _ | exact ArgLe.sl _ _ _ _ | exact ArgLe.nil _ | exact ArgLe.nil' | (apply ArgLe.bsl; exact rfl; (first | exact rfl | (rw [List.length_map]; done) | (simp only [List.length_map]; done) | (simp; done) | (simp; omega)); (first | assumption | exact map_len (fun _ => rfl))))); exact rfl) | (apply RunK.index; exact rfl; exact rfl; exact rfl; exact rfl; decide) | (apply RunK.loadER; exact rfl; exact rfl; exact rfl; exact rfl; (apply cut_eq; repeat (first | exact Cut.nil _ | apply Cut.cons | apply Cut.skip)))
    | (apply Wt.regionK; exact rfl)
    | refine RunK.nil ?_
    | (apply RunK.fieldE; exact rfl; exact rfl)
    | (apply RunK.assignV; exact rfl; exact rfl)
    | (apply RunK.moveS; exact rfl; exact rfl)
    | (apply RunK.moveT; exact rfl; exact rfl)
    | (apply RunK.assignS; exact rfl; exact rfl)
    | (apply RunK.extract; exact rfl; exact rfl; exact rfl))
        (refine Le.mk ?_ ?_; (repeat' (first | exact LeEnv.done | refine LeEnv.cons ?_ ?_ | exact PVLe.refl _ | exact PVLe.s (SVLe.nil _ _ _) | exact PVLe.s (SVLe.no _ _ _ _) | (refine PVLe.int ?_; first | rfl | omega | (simp; done) | (simp; omega)) | (refine PVLe.els ?_; first | rfl | assumption | (simp; done)) | (refine PVLe.bool ?_; first | rfl | assumption) | (refine PVLe.bsl ?_; first | rfl | assumption | (simp; done))));  (repeat' (first | exact LeBox.done | refine LeBox.cons ?_ ?_ | exact rfl)))
      refine Hold.of ?_
      repeat' (first
    | (apply RunK.callS; exact rfl; exact he1; (repeat (first | exact ArgsLe.nil | refine ArgsLe.cons ?_ ?_ | exact ArgLe.v _ | exact ArgLe.sl _ _ _ _ | exact ArgLe.nil _ | exact ArgLe.nil' | (apply ArgLe.bsl; exact rfl; (first | exact rfl | (rw [List.length_map]; done) | (simp only [List.length_map]; done) | (simp; done) | (simp; omega)); (first | assumption | exact map_len (fun _ => rfl))))); exact rfl) | (apply RunK.callS; exact rfl; exact he2; (repeat (first | exact ArgsLe.nil | refine ArgsLe.cons ?_ ?_ | exact ArgLe.v _ | exact ArgLe.sl _ _ _ _ | exact ArgLe.nil _ | exact ArgLe.nil' | (apply ArgLe.bsl; exact rfl; (first | exact rfl | (rw [List.length_map]; done) | (simp only [List.length_map]; done) | (simp; done) | (simp; omega)); (first | assumption | exact map_len (fun _ => rfl))))); exact rfl) | (refine Wt.cutAt1 12 ⟨[(1, .s (.sl (some 21) .no 7 (rules3.map Rule.vals))), (9, .box 9 0)], [(9, (Rect.mk 1 1 1 1).vals)]⟩ ?_ ?_)
    | refine Wt.seq ?_
    | (apply Wt.regionK; exact rfl)
    | refine Wt.skip ?_
    | refine RunK.nil ?_
    | (apply RunK.moveV; exact rfl; exact rfl)
    | (apply RunK.moveS; exact rfl; exact rfl)
    | (apply RunK.pickF; exact rfl; exact rfl; exact rfl)
    | (apply RunK.neq; exact rfl; exact rfl; exact rfl)
    | (apply RunK.not; exact rfl; exact rfl)
    | (apply RunK.build; exact rfl; (repeat (first | exact PartsOk.nil | (apply PartsOk.cons; exact rfl))); (repeat (first | exact fill_nil | (apply fill_cons; exact rfl; (first | exact Cells.agg _ | exact Cells.int _ _ | exact Cells.bool _ | exact Cells.one _ rfl); exact rfl; (repeat (first | exact Upd.nil _ | apply Upd.cons | apply Upd.skip))))))
    | (apply RunK.rows; exact rfl; (repeat (first | exact PartsOk.nil | (apply PartsOk.cons; exact rfl))); (repeat (first | exact Rows.nil _ | (apply Rows.cons; (first | exact Cells.agg _ | exact Cells.int _ _ | exact Cells.bool _ | exact Cells.one _ rfl); exact rfl))); exact rfl; exact rfl)
    | (apply Wt.cond; exact rfl; all_goals (intro hg; (first | exact absurd hg (by decide) | skip); (first | (with_reducible replace hg := not_t hg) | (with_reducible replace hg := not_f hg) | skip); (first | (with_reducible replace hg := dec_t hg) | (with_reducible replace hg := dec_f hg) | skip); (first | (with_reducible exact absurd rfl hg) | skip); (repeat rw [List.length_map] at hg); try (exfalso; omega))))
      · refine Hold.of ?_
        repeat' (first
    | refine Wt.seq ?_
    | (apply Wt.regionK; exact rfl)
    | refine RunK.nil ?_
    | (apply RunK.alloc; exact rfl; apply Cells.eq; (first | exact Cells.agg _ | exact Cells.int _ _ | exact Cells.bool _ | exact Cells.one _ rfl); exact rfl)
    | (apply RunK.build; exact rfl; (repeat (first | exact PartsOk.nil | (apply PartsOk.cons; exact rfl))); (repeat (first | exact fill_nil | (apply fill_cons; exact rfl; (first | exact Cells.agg _ | exact Cells.int _ _ | exact Cells.bool _ | exact Cells.one _ rfl); exact rfl; (repeat (first | exact Upd.nil _ | apply Upd.cons | apply Upd.skip))))))
    | (apply RunK.store; exact rfl; exact rfl; exact rfl; exact rfl; exact rfl; exact rfl; exact rfl; apply upd_eq; exact rfl; (first | exact Cells.agg _ | exact Cells.int _ _ | exact Cells.bool _ | exact Cells.one _ rfl); (repeat (first | exact Upd.nil _ | apply Upd.cons | apply Upd.skip))))
        (refine Le.mk ?_ ?_; (repeat' (first | exact LeEnv.done | refine LeEnv.cons ?_ ?_ | exact PVLe.refl _ | exact PVLe.s (SVLe.nil _ _ _) | exact PVLe.s (SVLe.no _ _ _ _) | (refine PVLe.int ?_; first | rfl | omega | (simp; done) | (simp; omega)) | (refine PVLe.els ?_; first | rfl | assumption | (simp; done)) | (refine PVLe.bool ?_; first | rfl | assumption) | (refine PVLe.bsl ?_; first | rfl | assumption | (simp; done))));  (repeat' (first | exact LeBox.done | refine LeBox.cons ?_ ?_ | exact rfl)))
      refine Hold.of ?_
      repeat' (first
    | (apply RunK.callT; exact rfl; exact hm0; (repeat (first | exact ArgsLe.nil | refine ArgsLe.cons ?_ ?_ | exact ArgLe.v _ | exact ArgLe.sl _ _ _ _ | exact ArgLe.nil _ | exact ArgLe.nil' | (apply ArgLe.bsl; exact rfl; (first | exact rfl | (rw [List.length_map]; done) | (simp only [List.length_map]; done) | (simp; done) | (simp; omega)); (first | assumption | exact map_len (fun _ => rfl))))); exact rfl) | (apply RunK.callT; exact rfl; exact hm1; (repeat (first | exact ArgsLe.nil | refine ArgsLe.cons ?_ ?_ | exact ArgLe.v _ | exact ArgLe.sl _ _ _ _ | exact ArgLe.nil _ | exact ArgLe.nil' | (apply ArgLe.bsl; exact rfl; (first | exact rfl | (rw [List.length_map]; done) | (simp only [List.length_map]; done) | (simp; done) | (simp; omega)); (first | assumption | exact map_len (fun _ => rfl))))); exact rfl) | (apply RunK.callT; exact rfl; exact hm2; (repeat (first | exact ArgsLe.nil | refine ArgsLe.cons ?_ ?_ | exact ArgLe.v _ | exact ArgLe.sl _ _ _ _ | exact ArgLe.nil _ | exact ArgLe.nil' | (apply ArgLe.bsl; exact rfl; (first | exact rfl | (rw [List.length_map]; done) | (simp only [List.length_map]; done) | (simp; done) | (simp; omega)); (first | assumption | exact map_len (fun _ => rfl))))); exact rfl) | (apply RunK.index; exact rfl; exact rfl; exact rfl; exact rfl; decide) | (apply RunK.loadER; exact rfl; exact rfl; exact rfl; exact rfl; (apply cut_eq; repeat (first | exact Cut.nil _ | apply Cut.cons | apply Cut.skip))) | (refine Wt.cutAt1 20 ⟨[(1, .s (.sl (some 21) .no 7 (rules3.map Rule.vals))), (8, .s (.v (.int .i64 0))), (9, .box 9 0), (15, .s (rectsR' 141 D))], [(9, (Rect.mk 1 1 1 1).vals)]⟩ ?_ ?_)
    | refine Wt.seq ?_
    | (apply Wt.regionK; exact rfl)
    | refine Wt.skip ?_
    | refine RunK.nil ?_
    | (apply RunK.moveV; exact rfl; exact rfl)
    | (apply RunK.fieldE; exact rfl; exact rfl)
    | (apply RunK.assignV; exact rfl; exact rfl)
    | (apply RunK.moveS; exact rfl; exact rfl)
    | (apply RunK.moveT; exact rfl; exact rfl)
    | (apply RunK.loadR; exact rfl; exact rfl; exact rfl; exact rfl; (apply cut_eq; repeat (first | exact Cut.nil _ | apply Cut.cons | apply Cut.skip)))
    | (apply RunK.pickF; exact rfl; exact rfl; exact rfl)
    | (apply RunK.neq; exact rfl; exact rfl; exact rfl)
    | (apply RunK.not; exact rfl; exact rfl)
    | (apply RunK.extract; exact rfl; exact rfl; exact rfl)
    | (apply Wt.cond; exact rfl; all_goals (intro hg; (first | exact absurd hg (by decide) | skip); (first | (with_reducible replace hg := not_t hg) | (with_reducible replace hg := not_f hg) | skip); (first | (with_reducible replace hg := dec_t hg) | (with_reducible replace hg := dec_f hg) | skip); (first | (with_reducible exact absurd rfl hg) | skip); (repeat rw [List.length_map] at hg); try (exfalso; omega))))
      · refine Hold.of ?_
        repeat' (first
    | (apply RunK.callT; exact rfl; exact hd; (repeat (first | exact ArgsLe.nil | refine ArgsLe.cons ?_ ?_ | exact ArgLe.v _ | exact ArgLe.sl _ _ _ _ | exact ArgLe.nil _ | exact ArgLe.nil' | (apply ArgLe.bsl; exact rfl; (first | exact rfl | (rw [List.length_map]; done) | (simp only [List.length_map]; done) | (simp; done) | (simp; omega)); (first | assumption | exact map_len (fun _ => rfl))))); exact rfl) | (apply RunK.sliceTo; exact rfl; exact rfl; exact rfl; exact rfl; decide)
    | (apply Wt.regionK; exact rfl)
    | refine RunK.nil ?_
    | (apply RunK.assignV; exact rfl; exact rfl)
    | (apply RunK.moveS; exact rfl; exact rfl)
    | (apply RunK.moveT; exact rfl; exact rfl)
    | (apply RunK.assignS; exact rfl; exact rfl)
    | (apply RunK.extract; exact rfl; exact rfl; exact rfl)
    | (apply RunK.build; exact rfl; (repeat (first | exact PartsOk.nil | (apply PartsOk.cons; exact rfl))); (repeat (first | exact fill_nil | (apply fill_cons; exact rfl; (first | exact Cells.agg _ | exact Cells.int _ _ | exact Cells.bool _ | exact Cells.one _ rfl); exact rfl; (repeat (first | exact Upd.nil _ | apply Upd.cons | apply Upd.skip)))))))
        (refine Le.mk ?_ ?_; (repeat' (first | exact LeEnv.done | refine LeEnv.cons ?_ ?_ | exact PVLe.refl _ | exact PVLe.s (SVLe.nil _ _ _) | exact PVLe.s (SVLe.no _ _ _ _) | (refine PVLe.int ?_; first | rfl | omega | (simp; done) | (simp; omega)) | (refine PVLe.els ?_; first | rfl | assumption | (simp; done)) | (refine PVLe.bool ?_; first | rfl | assumption) | (refine PVLe.bsl ?_; first | rfl | assumption | (simp; done))));  (repeat' (first | exact LeBox.done | refine LeBox.cons ?_ ?_ | exact rfl)))
      refine Hold.of ?_
      repeat' (first
    | (apply RunK.callS; exact rfl; exact hh; (repeat (first | exact ArgsLe.nil | refine ArgsLe.cons ?_ ?_ | exact ArgLe.v _ | exact ArgLe.sl _ _ _ _ | exact ArgLe.nil _ | exact ArgLe.nil' | (apply ArgLe.bsl; exact rfl; (first | exact rfl | (rw [List.length_map]; done) | (simp only [List.length_map]; done) | (simp; done) | (simp; omega)); (first | assumption | exact map_len (fun _ => rfl))))); exact rfl) | (apply RunK.callS; exact rfl; exact hf; (repeat (first | exact ArgsLe.nil | refine ArgsLe.cons ?_ ?_ | exact ArgLe.v _ | exact ArgLe.sl _ _ _ _ | exact ArgLe.nil _ | exact ArgLe.nil' | (apply ArgLe.bsl; exact rfl; (first | exact rfl | (rw [List.length_map]; done) | (simp only [List.length_map]; done) | (simp; done) | (simp; omega)); (first | assumption | exact map_len (fun _ => rfl))))); exact rfl) | (apply RunK.sliceTo; exact rfl; exact rfl; exact rfl; exact rfl; decide) | (apply RunK.sliceFrom; exact rfl; exact rfl; exact rfl; exact rfl; decide) | (apply RunK.callT; exact rfl; exact ho0; (repeat (first | exact ArgsLe.nil | refine ArgsLe.cons ?_ ?_ | exact ArgLe.v _ | exact ArgLe.sl _ _ _ _ | exact ArgLe.nil _ | exact ArgLe.nil' | (apply ArgLe.bsl; exact rfl; (first | exact rfl | (rw [List.length_map]; done) | (simp only [List.length_map]; done) | (simp; done) | (simp; omega)); (first | assumption | exact map_len (fun _ => rfl))))); exact rfl) | (apply RunK.callT; exact rfl; exact ho1; (repeat (first | exact ArgsLe.nil | refine ArgsLe.cons ?_ ?_ | exact ArgLe.v _ | exact ArgLe.sl _ _ _ _ | exact ArgLe.nil _ | exact ArgLe.nil' | (apply ArgLe.bsl; exact rfl; (first | exact rfl | (rw [List.length_map]; done) | (simp only [List.length_map]; done) | (simp; done) | (simp; omega)); (first | assumption | exact map_len (fun _ => rfl))))); exact rfl) | (apply RunK.callT; exact rfl; exact hm3; (repeat (first | exact ArgsLe.nil | refine ArgsLe.cons ?_ ?_ | exact ArgLe.v _ | exact ArgLe.sl _ _ _ _ | exact ArgLe.nil _ | exact ArgLe.nil' | (apply ArgLe.bsl; exact rfl; (first | exact rfl | (rw [List.length_map]; done) | (simp only [List.length_map]; done) | (simp; done) | (simp; omega)); (first | assumption | exact map_len (fun _ => rfl))))); exact rfl) | (apply RunK.callT; exact rfl; exact hg0; (repeat (first | exact ArgsLe.nil | refine ArgsLe.cons ?_ ?_ | exact ArgLe.v _ | exact ArgLe.sl _ _ _ _ | exact ArgLe.nil _ | exact ArgLe.nil' | (apply ArgLe.bsl; exact rfl; (first | exact rfl | (rw [List.length_map]; done) | (simp only [List.length_map]; done) | (simp; done) | (simp; omega)); (first | assumption | exact map_len (fun _ => rfl))))); exact rfl)
    | refine Wt.seq ?_
    | (apply Wt.regionK; exact rfl)
    | (apply Wt.regionD; kernel_rfl; kernel_rfl; exact rfl; exact rfl)
    | refine Wt.ret ?_
    | refine Wt.skip ?_
    | refine RunK.nil ?_
    | (apply RunK.moveV; exact rfl; exact rfl)
    | (apply RunK.assignV; exact rfl; exact rfl)
    | (apply RunK.moveS; exact rfl; exact rfl)
    | (apply RunK.moveT; exact rfl; exact rfl)
    | (apply RunK.assignS; exact rfl; exact rfl)
    | (apply RunK.loadR; exact rfl; exact rfl; exact rfl; exact rfl; (apply cut_eq; repeat (first | exact Cut.nil _ | apply Cut.cons | apply Cut.skip)))
    | (apply RunK.pickT; exact rfl; exact rfl; exact rfl)
    | (apply RunK.pickF; exact rfl; exact rfl; exact rfl)
    | (apply RunK.eql; exact rfl; exact rfl; exact rfl)
    | (apply RunK.neq; exact rfl; exact rfl; exact rfl)
    | (apply RunK.not; exact rfl; exact rfl)
    | (apply RunK.extract; exact rfl; exact rfl; exact rfl)
    | (apply RunK.build; exact rfl; (repeat (first | exact PartsOk.nil | (apply PartsOk.cons; exact rfl))); (repeat (first | exact fill_nil | (apply fill_cons; exact rfl; (first | exact Cells.agg _ | exact Cells.int _ _ | exact Cells.bool _ | exact Cells.one _ rfl); exact rfl; (repeat (first | exact Upd.nil _ | apply Upd.cons | apply Upd.skip))))))
    | (apply Wt.cond; exact rfl; all_goals (intro hg; (first | exact absurd hg (by decide) | skip); (first | (with_reducible replace hg := not_t hg) | (with_reducible replace hg := not_f hg) | skip); (first | (with_reducible replace hg := dec_t hg) | (with_reducible replace hg := dec_f hg) | skip); (first | (with_reducible exact absurd rfl hg) | skip); (repeat rw [List.length_map] at hg); try (exfalso; omega))))
      all_goals (apply ResOk.v1; exact rfl; exact rfl)
end Go.Proofs.Ytgljklggeopolaa
