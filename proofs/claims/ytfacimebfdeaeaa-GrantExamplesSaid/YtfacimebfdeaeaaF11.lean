/- The walk of region.parts. -/
import Derived.Test.YtfacimebfdeaeaaPartMath
import Derived.Test.YtfacimebfdeaeaaPvB
namespace Go.Proofs.Ytfacimebfdeaeaa
open Pv Go.RowKit

abbrev ownP (τ : Nat) (l : List (Int × Int)) : SV := .sl (some τ) (.front 106) 2 (l.map pval)
/-- The closure 'note': what the ranges of rules meet of r is noted. hc, hr: the headers of the two lists. -/
def ghosts (x b : List Rule) (hc hr : Value) (C R : List (Int × Int)) : List (Nat × PV) :=
  [(1000001, .s (rules x)), (1000002, .s (rules b)), (1000003, .box 3 0), (1000007, .box 7 0), (1000008, .box 8 0), (1000009, .clo 85 [(3, 0), (7, 0), (8, 0)]), (2000000, .hd hc (ownP 5000 C)), (2000001, .hd hr (ownP 5001 R))]
set_option maxRecDepth 100000 in
set_option maxHeartbeats 1000000 in
theorem note_wt {w1 : Base} (r : Rect) (l x b : List Rule) (hl : l.length ≤ 1000) (C R : List (Int × Int)) (hC : C.length ≤ 1000) (hR : R.length ≤ 1000) (hc hr : Value) {N : St → Prop} {c : Code} (hcode : Try.f85.body = some c)
    (hN : ∀ s hc hr, Le s ⟨ghosts x b hc hr (C ++ noteC r l) (R ++ noteR r l), [(3, r.vals), (7, [hc]), (8, [hr])]⟩ → N s) :
    Wt Try.prog w1 40 c ⟨(0, .s (rules l)) :: (1, .box 3 0) :: (2, .box 7 0) :: (3, .box 8 0) :: ghosts x b hc hr C R, [(3, r.vals), (7, [hc]), (8, [hr])]⟩ N N (fun _ _ => False) := by
  obtain rfl := Option.some.inj hcode
  clear hcode
  repeat' (first
    | refine Wt.seq ?_
    | (apply Wt.regionK; exact rfl)
    | refine Wt.block ?_
    | refine RunK.nil ?_
    | (apply RunK.moveV; exact rfl; exact rfl)
    | (apply RunK.moveS; exact rfl; exact rfl)
    | (apply RunK.len; exact rfl; exact rfl))
  refine Wt.loop (fun (i : Nat × Value × Value) => ⟨(1, .box 3 0) :: (2, .box 7 0) :: (3, .box 8 0) :: (9, .s (rules l)) :: (10, .s (.v (.int .i64 l.length))) :: (11, .s (.v (.int .i64 i.1))) :: ghosts x b i.2.1 i.2.2 (C ++ noteC r (l.take i.1)) (R ++ noteR r (l.take i.1)), [(3, r.vals), (7, [i.2.1]), (8, [i.2.2])]⟩) (fun i => i.1 ≤ l.length) (fun i => l.length - i.1) (0, hc, hr) (Nat.zero_le _) ?_ ?_
  · have e1 : List.map pval C = List.map pval (C ++ noteC r (l.take 0)) := by simp [noteC]
    have e2 : List.map pval R = List.map pval (R ++ noteR r (l.take 0)) := by simp [noteR]
    unfold ghosts
    (refine Le.mk ?_ ?_; (repeat' (first | exact LeEnv.done | (refine LeEnv.consN ?_ ?_; exact rfl) | refine LeEnv.cons ?_ ?_ | exact PVLe.refl _ | exact PVLe.s (SVLe.nil _ _ _) | exact PVLe.s (SVLe.no _ _ _ _) | (refine PVLe.int ?_; first | rfl | omega | (simp; done) | (simp; omega)) | (refine PVLe.els ?_; first | rfl | assumption | (simp; done)) | (refine PVLe.bool ?_; first | rfl | assumption) | (refine PVLe.hdE ?_; first | rfl | assumption) | (refine PVLe.bsl ?_; first | rfl | assumption | (simp; done) | (simp; omega)))); (repeat' (first | exact LeBox.done | (refine LeBox.consN ?_ ?_; exact rfl) | (refine LeBox.cons ?_ ?_; exact rfl) | (refine LeBox.consE rfl ?_ ?_; first | assumption | (refine congrArg List.flatten ?_; first | rfl | assumption | (symm; assumption))))))
  · rintro ⟨k, hc, hr⟩ hk
    dsimp only at hk
    unfold ghosts
    have c1 := noteC_len r (l.take k)
    have c2 := noteR_len r (l.take k)
    rw [List.length_take, Nat.min_eq_left hk] at c1 c2
    by_cases hlt : k < l.length
    · obtain ⟨y, hy⟩ := exists_at hlt
      have hx := get_map (f := Rule.vals) hy
      have s1 := noteC_succ (r := r) hy
      have s2 := noteR_succ (r := r) hy
      cases hm : meets y.rect r with
      | true =>
        have hcall := meetT hm
        rw [hm, if_pos rfl] at s1 s2
        generalize meetR y.rect r = m at *
        repeat' (first
    | (apply RunK.allocAs (d := 7) 507; exact rfl; apply Cells.eq; (first | exact Cells.agg _ | exact Cells.int _ _ | exact Cells.bool _ | exact Cells.one _ rfl); exact rfl) | (apply RunK.callT; exact rfl; exact rfl; exact hcall; (repeat (first | exact ArgsLe.nil | refine ArgsLe.cons ?_ ?_ | exact ArgLe.v _ | exact ArgLe.sl _ _ _ _ | exact ArgLe.nil _ | exact ArgLe.nil' | exact ArgLe.nsl _ _ _ _ _ | exact ArgLe.nsn _ | (apply ArgLe.bsl; exact rfl; (first | exact rfl | (rw [List.length_map]; done) | (simp only [List.length_map]; done) | (simp; done) | (simp; omega)); (first | assumption | exact map_len (fun _ => rfl))))); exact rfl) | (apply RunK.loadH 2000000; exact rfl; exact rfl; exact rfl; exact rfl; exact rfl; exact rfl) | (apply RunK.loadH 2000001; exact rfl; exact rfl; exact rfl; exact rfl; exact rfl; exact rfl) | (apply RunK.append; exact rfl; exact rfl; exact rfl; (first | exact ReadLe.sl _ _ _ _ | exact ReadLe.nil _); exact rfl; exact one_rows rfl; (simp only [List.length_map, List.length_append, List.length_cons, List.length_nil]; omega)) | (apply RunK.storeH 2000000 (yt := 30); (case hw => exact rfl); (case hy => exact rfl); (case hyt => exact rfl); (case hh => exact rfl); (case hx => intro _; exact rfl); (case hb => exact rfl); (case hle => exact rfl); intro h1) | (apply RunK.storeH 2000001 (yt := 38); (case hw => exact rfl); (case hy => exact rfl); (case hyt => exact rfl); (case hh => exact rfl); (case hx => intro _; exact rfl); (case hb => exact rfl); (case hle => exact rfl); intro h2)
    | refine Wt.seq ?_
    | (apply Wt.regionK; exact rfl)
    | refine Wt.block ?_
    | refine Wt.skip ?_
    | refine RunK.nil ?_
    | (apply RunK.moveV; exact rfl; exact rfl)
    | (apply RunK.index; exact rfl; exact rfl; exact rfl; (first | exact rfl | exact (rfl : (0 : Int) = ((0 : Nat) : Int)) | exact (rfl : (1 : Int) = ((1 : Nat) : Int)) | exact (rfl : (2 : Int) = ((2 : Nat) : Int)) | exact (rfl : (3 : Int) = ((3 : Nat) : Int)) | assumption); (first | omega | exact lt_of_get ‹_› | (rw [List.length_map]; omega) | (simp; omega)))
    | (apply RunK.load1; exact rfl; exact rfl; exact rfl; exact rfl)
    | (apply RunK.field; exact rfl; exact rfl)
    | (apply RunK.assignV; exact rfl; exact rfl)
    | (apply RunK.alloc; exact rfl; apply Cells.eq; (first | exact Cells.agg _ | exact Cells.int _ _ | exact Cells.bool _ | exact Cells.one _ rfl); exact rfl)
    | (apply RunK.moveT; exact rfl; exact rfl)
    | (apply RunK.loadR; exact rfl; exact rfl; exact rfl; exact rfl; (apply cut_eq; repeat (first | exact Cut.nil _ | apply Cut.cons | apply Cut.skip)))
    | (apply RunK.loadER; exact rfl; exact rfl; assumption; exact rfl; (apply cut_eq; repeat (first | exact Cut.nil _ | apply Cut.cons | apply Cut.skip)))
    | (apply RunK.lss; exact rfl; exact rfl; exact rfl)
    | (apply RunK.add; exact rfl; exact rfl; exact rfl; (first | omega | (simp only [List.length_map]; omega)))
    | (apply RunK.extract; exact rfl; exact rfl; exact rfl)
    | (apply RunK.buildA; exact rfl; (repeat (first | exact PartsOk.nil | (apply PartsOk.cons; exact rfl) | (apply PartsOk.consN; exact rfl))); (repeat (first | exact fill_nil | (apply fill_cons; exact rfl; (first | exact Cells.agg _ | exact Cells.int _ _ | exact Cells.bool _ | exact Cells.one _ rfl); exact rfl; (repeat (first | exact Upd.nil _ | apply Upd.cons | apply Upd.skip))))))
    | (apply RunK.rows; exact rfl; exact rfl; (repeat (first | exact PartsOk.nil | (apply PartsOk.cons; exact rfl) | (apply PartsOk.consN; exact rfl))); (repeat (first | exact Rows.nil _ | (apply Rows.cons; (first | exact Cells.agg _ | exact Cells.int _ _ | exact Cells.bool _ | exact Cells.one _ rfl); exact rfl))); exact rfl; exact rfl)
    | (apply RunK.store; exact rfl; exact rfl; exact rfl; exact rfl; exact rfl; exact rfl; exact rfl; apply upd_eq; exact rfl; (first | exact Cells.agg _ | exact Cells.int _ _ | exact Cells.bool _ | exact Cells.one _ rfl); (repeat (first | exact Upd.nil _ | apply Upd.cons | apply Upd.skip)))
    | (apply Wt.cond; exact rfl; all_goals (intro hg; (first | exact absurd hg (by decide) | skip); (first | (with_reducible replace hg := not_t hg) | (with_reducible replace hg := not_f hg) | skip); (first | (with_reducible replace hg := dec_t hg) | (with_reducible replace hg := dec_f hg) | skip); (first | (with_reducible exact absurd rfl hg) | skip); (repeat rw [List.length_map] at hg); try (exfalso; omega))))
        have e1 : List.map pval (C ++ noteC r (l.take k)) ++ [[.int .i64 m.c1, .int .i64 m.c2]] = List.map pval (C ++ noteC r (l.take (k + 1))) := by rw [s1, ← List.append_assoc, List.map_append (l₂ := [_])]; rfl
        have e2 : List.map pval (R ++ noteR r (l.take k)) ++ [[.int .i64 m.r1, .int .i64 m.r2]] = List.map pval (R ++ noteR r (l.take (k + 1))) := by rw [s2, ← List.append_assoc, List.map_append (l₂ := [_])]; rfl
        refine ⟨(k + 1, h1, h2), hlt, by simp only; omega, ?_⟩
        (refine Le.mk ?_ ?_; (repeat' (first | exact LeEnv.done | (refine LeEnv.consN ?_ ?_; exact rfl) | refine LeEnv.cons ?_ ?_ | exact PVLe.refl _ | exact PVLe.s (SVLe.nil _ _ _) | exact PVLe.s (SVLe.no _ _ _ _) | (refine PVLe.int ?_; first | rfl | omega | (simp; done) | (simp; omega)) | (refine PVLe.els ?_; first | rfl | assumption | (simp; done)) | (refine PVLe.bool ?_; first | rfl | assumption) | (refine PVLe.hdE ?_; first | rfl | assumption) | (refine PVLe.bsl ?_; first | rfl | assumption | (simp; done) | (simp; omega)))); (repeat' (first | exact LeBox.done | (refine LeBox.consN ?_ ?_; exact rfl) | (refine LeBox.cons ?_ ?_; exact rfl) | (refine LeBox.consE rfl ?_ ?_; first | assumption | (refine congrArg List.flatten ?_; first | rfl | assumption | (symm; assumption))))))
      | false =>
        have hcall := meetF hm
        rw [hm] at s1 s2
        repeat' (first
    | (apply RunK.allocAs (d := 7) 507; exact rfl; apply Cells.eq; (first | exact Cells.agg _ | exact Cells.int _ _ | exact Cells.bool _ | exact Cells.one _ rfl); exact rfl) | (apply RunK.callT; exact rfl; exact rfl; exact hcall; (repeat (first | exact ArgsLe.nil | refine ArgsLe.cons ?_ ?_ | exact ArgLe.v _ | exact ArgLe.sl _ _ _ _ | exact ArgLe.nil _ | exact ArgLe.nil' | exact ArgLe.nsl _ _ _ _ _ | exact ArgLe.nsn _ | (apply ArgLe.bsl; exact rfl; (first | exact rfl | (rw [List.length_map]; done) | (simp only [List.length_map]; done) | (simp; done) | (simp; omega)); (first | assumption | exact map_len (fun _ => rfl))))); exact rfl)
    | refine Wt.seq ?_
    | (apply Wt.regionK; exact rfl)
    | refine Wt.block ?_
    | refine Wt.skip ?_
    | refine RunK.nil ?_
    | (apply RunK.moveV; exact rfl; exact rfl)
    | (apply RunK.index; exact rfl; exact rfl; exact rfl; (first | exact rfl | exact (rfl : (0 : Int) = ((0 : Nat) : Int)) | exact (rfl : (1 : Int) = ((1 : Nat) : Int)) | exact (rfl : (2 : Int) = ((2 : Nat) : Int)) | exact (rfl : (3 : Int) = ((3 : Nat) : Int)) | assumption); (first | omega | exact lt_of_get ‹_› | (rw [List.length_map]; omega) | (simp; omega)))
    | (apply RunK.field; exact rfl; exact rfl)
    | (apply RunK.assignV; exact rfl; exact rfl)
    | (apply RunK.alloc; exact rfl; apply Cells.eq; (first | exact Cells.agg _ | exact Cells.int _ _ | exact Cells.bool _ | exact Cells.one _ rfl); exact rfl)
    | (apply RunK.moveT; exact rfl; exact rfl)
    | (apply RunK.loadR; exact rfl; exact rfl; exact rfl; exact rfl; (apply cut_eq; repeat (first | exact Cut.nil _ | apply Cut.cons | apply Cut.skip)))
    | (apply RunK.loadER; exact rfl; exact rfl; assumption; exact rfl; (apply cut_eq; repeat (first | exact Cut.nil _ | apply Cut.cons | apply Cut.skip)))
    | (apply RunK.lss; exact rfl; exact rfl; exact rfl)
    | (apply RunK.add; exact rfl; exact rfl; exact rfl; (first | omega | (simp only [List.length_map]; omega)))
    | (apply RunK.extract; exact rfl; exact rfl; exact rfl)
    | (apply RunK.store; exact rfl; exact rfl; exact rfl; exact rfl; exact rfl; exact rfl; exact rfl; apply upd_eq; exact rfl; (first | exact Cells.agg _ | exact Cells.int _ _ | exact Cells.bool _ | exact Cells.one _ rfl); (repeat (first | exact Upd.nil _ | apply Upd.cons | apply Upd.skip)))
    | (apply Wt.cond; exact rfl; all_goals (intro hg; (first | exact absurd hg (by decide) | skip); (first | (with_reducible replace hg := not_t hg) | (with_reducible replace hg := not_f hg) | skip); (first | (with_reducible replace hg := dec_t hg) | (with_reducible replace hg := dec_f hg) | skip); (first | (with_reducible exact absurd rfl hg) | skip); (repeat rw [List.length_map] at hg); try (exfalso; omega))))
        have e1 : List.map pval (C ++ noteC r (l.take k)) = List.map pval (C ++ noteC r (l.take (k + 1))) := by rw [s1]; simp
        have e2 : List.map pval (R ++ noteR r (l.take k)) = List.map pval (R ++ noteR r (l.take (k + 1))) := by rw [s2]; simp
        refine ⟨(k + 1, hc, hr), hlt, by simp only; omega, ?_⟩
        (refine Le.mk ?_ ?_; (repeat' (first | exact LeEnv.done | (refine LeEnv.consN ?_ ?_; exact rfl) | refine LeEnv.cons ?_ ?_ | exact PVLe.refl _ | exact PVLe.s (SVLe.nil _ _ _) | exact PVLe.s (SVLe.no _ _ _ _) | (refine PVLe.int ?_; first | rfl | omega | (simp; done) | (simp; omega)) | (refine PVLe.els ?_; first | rfl | assumption | (simp; done)) | (refine PVLe.bool ?_; first | rfl | assumption) | (refine PVLe.hdE ?_; first | rfl | assumption) | (refine PVLe.bsl ?_; first | rfl | assumption | (simp; done) | (simp; omega)))); (repeat' (first | exact LeBox.done | (refine LeBox.consN ?_ ?_; exact rfl) | (refine LeBox.cons ?_ ?_; exact rfl) | (refine LeBox.consE rfl ?_ ?_; first | assumption | (refine congrArg List.flatten ?_; first | rfl | assumption | (symm; assumption))))))
    · obtain rfl : k = l.length := by omega
      rw [List.take_length]
      repeat' (first
    | refine Wt.seq ?_
    | (apply Wt.regionK; exact rfl)
    | refine Wt.exit ?_
    | refine RunK.nil ?_
    | (apply RunK.lss; exact rfl; exact rfl; exact rfl)
    | (apply Wt.cond; exact rfl; all_goals (intro hg; (first | exact absurd hg (by decide) | skip); (first | (with_reducible replace hg := not_t hg) | (with_reducible replace hg := not_f hg) | skip); (first | (with_reducible replace hg := dec_t hg) | (with_reducible replace hg := dec_f hg) | skip); (first | (with_reducible exact absurd rfl hg) | skip); (repeat rw [List.length_map] at hg); try (exfalso; omega))))
      refine hN _ hc hr ?_
      unfold ghosts
      (refine Le.mk ?_ ?_; (repeat' (first | exact LeEnv.done | (refine LeEnv.consN ?_ ?_; exact rfl) | refine LeEnv.cons ?_ ?_ | exact PVLe.refl _ | exact PVLe.s (SVLe.nil _ _ _) | exact PVLe.s (SVLe.no _ _ _ _) | (refine PVLe.int ?_; first | rfl | omega | (simp; done) | (simp; omega)) | (refine PVLe.els ?_; first | rfl | assumption | (simp; done)) | (refine PVLe.bool ?_; first | rfl | assumption) | (refine PVLe.hdE ?_; first | rfl | assumption) | (refine PVLe.bsl ?_; first | rfl | assumption | (simp; done) | (simp; omega)))); (repeat' (first | exact LeBox.done | (refine LeBox.consN ?_ ?_; exact rfl) | (refine LeBox.cons ?_ ?_; exact rfl) | (refine LeBox.consE rfl ?_ ?_; first | assumption | (refine congrArg List.flatten ?_; first | rfl | assumption | (symm; assumption))))))

set_option maxRecDepth 100000 in
theorem partRows_len {C : List (Int × Int)} (a b : List Rule) : ∀ (R : List (Int × Int)), (R.flatMap (rowP a b C)).length ≤ R.length * C.length
  | [] => by simp
  | y :: R => by
    have h1 := partRows_len (C := C) a b R
    have h2 := fold_len (C.map (mkP a b y)) []
    rw [List.flatMap_cons, List.length_append, List.length_cons, Nat.succ_mul]
    rw [List.length_map] at h2
    simp only [List.length_nil, Nat.zero_add] at h2
    have h3 : (rowP a b C y).length ≤ C.length := h2
    omega
set_option maxRecDepth 100000 in
theorem flat_succ {α β : Type} {f : α → List β} {l : List α} {k : Nat} {x : α} (h : l[k]? = some x) : (l.take (k + 1)).flatMap f = (l.take k).flatMap f ++ f x := by
  rw [List.take_add_one, h, Option.toList_some, List.flatMap_append]; simp
set_option maxRecDepth 100000 in
theorem fold_succ {C : List (Int × Int)} {a b : List Rule} {y x : Int × Int} {k : Nat} (h : C[k]? = some x) : ((C.take (k + 1)).map (mkP a b y)).foldl stepP [] = stepP (((C.take k).map (mkP a b y)).foldl stepP []) (mkP a b y x) := by
  rw [List.take_add_one, h, Option.toList_some, List.map_append, List.foldl_append]; rfl
set_option maxRecDepth 100000 in
set_option maxHeartbeats 2000000 in
theorem parts_walk (r : Rect) (hr : rectOk r = true) (a b : List Rule) (ha : a.length ≤ 1000) (hb : b.length ≤ 1000) (hasc : Asc (partsL r a b)) : Pure Try.prog 60 [.v r.v, rules a, rules b] (.s (.sl (some 0) (.front 108) 6 ((partsL r a b).map Part.vals))) := by
  have hro := ok_iff.1 hr
  have na := noteC_len r a
  have nb := noteC_len r b
  have ma := noteR_len r a
  have mb := noteR_len r b
  have hbc := bands r.c1 r.c2 (noteC r a ++ noteC r b) (by omega) (by omega) (fun p hp => by
    rcases List.mem_append.1 hp with h | h <;> have := noteC_small h <;> omega) (by rw [List.length_append]; omega)
  have hbr := bands r.r1 r.r2 (noteR r a ++ noteR r b) (by omega) (by omega) (fun p hp => by
    rcases List.mem_append.1 hp with h | h <;> have := noteR_small h <;> omega) (by rw [List.length_append]; omega)
  have hCl := bandsL_len r.c1 r.c2 (noteC r a ++ noteC r b)
  have hRl := bandsL_len r.r1 r.r2 (noteR r a ++ noteR r b)
  rw [List.length_append] at hCl hRl
  have hLl : (partsL r a b).length ≤ 4001 * 4001 := Nat.le_trans (partRows_len a b _) (Nat.mul_le_mul (by unfold rowsP; omega) (by unfold colsP; omega))
  have hsort := sortStable (partsL r a b) hasc (by omega)
  unfold partsL colsP rowsP at hsort hLl ⊢
  generalize hCC : bandsL r.c1 r.c2 (noteC r a ++ noteC r b) = C at *
  generalize hRR : bandsL r.r1 r.r2 (noteR r a ++ noteR r b) = R at *
  refine pure_of_wt Try.func60 rfl (by decide) _ Try.ntmps60 rfl Try.results60 fun w0 => ?_
  repeat' (first
    | (apply RunK.callC; (case hw => exact rfl); (case hx => exact rfl); (case hf => exact Try.func85); (case hb => exact rfl); (case hname => decide); (case hnt => exact Try.ntmps85); (case hl => exact Try.results85); (case ha => exact .cons rfl .nil); (case hn => exact rfl); (case hg => exact rfl))
    | refine Wt.seq ?_
    | (apply Wt.regionK; exact rfl)
    | refine RunK.nil ?_
    | (apply RunK.box; exact rfl; exact rfl; apply Cells.eq; (first | exact Cells.agg _ | exact Cells.int _ _ | exact Cells.bool _ | exact Cells.one _ rfl); exact rfl)
    | (apply RunK.alloc; exact rfl; apply Cells.eq; (first | exact Cells.agg _ | exact Cells.int _ _ | exact Cells.bool _ | exact Cells.one _ rfl); exact rfl)
    | (apply RunK.moveS; exact rfl; exact rfl)
    | (apply RunK.assignN; exact rfl; exact rfl)
    | (apply RunK.moveC; exact rfl; exact rfl; exact rfl)
    | (apply RunK.assignC; exact rfl; exact rfl; exact rfl)
    | (apply RunK.makeFunc; exact rfl; (repeat (first | exact CapsOk.nil | (apply CapsOk.cons; exact rfl)))))
  intro w1
  refine Wt.factN 2000000 5000 (.front 106) 2 rfl ?_
  refine Wt.factN 2000001 5001 (.front 106) 2 rfl ?_
  refine Wt.le ⟨(0, .s (rules a)) :: (1, .box 3 0) :: (2, .box 7 0) :: (3, .box 8 0) :: ghosts a b (.slice none 0 0) (.slice none 0 0) [] [], [(3, r.vals), (7, [.slice none 0 0]), (8, [.slice none 0 0])]⟩ ?_ ?_
  · unfold ghosts
    (refine Le.mk ?_ ?_; (repeat' (first | exact LeEnv.done | (refine LeEnv.consN ?_ ?_; exact rfl) | refine LeEnv.cons ?_ ?_ | exact PVLe.refl _ | exact PVLe.s (SVLe.nil _ _ _) | exact PVLe.s (SVLe.no _ _ _ _) | (refine PVLe.int ?_; first | rfl | omega | (simp; done) | (simp; omega)) | (refine PVLe.els ?_; first | rfl | assumption | (simp; done)) | (refine PVLe.bool ?_; first | rfl | assumption) | (refine PVLe.hdE ?_; first | rfl | assumption) | (refine PVLe.bsl ?_; first | rfl | assumption | (simp; done) | (simp; omega)))); (repeat' (first | exact LeBox.done | (refine LeBox.consN ?_ ?_; exact rfl) | (refine LeBox.cons ?_ ?_; exact rfl) | (refine LeBox.consE rfl ?_ ?_; first | assumption | (refine congrArg List.flatten ?_; first | rfl | assumption | (symm; assumption))))))
  refine note_wt r a a b ha [] [] (by simp) (by simp) _ _ rfl fun s hc hr hle => ⟨_, .zero, RunK.leK _ (hle.back rfl rfl) ?_⟩
  clear hle s
  rw [List.nil_append, List.nil_append]
  repeat' (first
    | (apply RunK.callC; (case hw => exact rfl); (case hx => exact rfl); (case hf => exact Try.func85); (case hb => exact rfl); (case hname => decide); (case hnt => exact Try.ntmps85); (case hl => exact Try.results85); (case ha => exact .cons rfl .nil); (case hn => exact rfl); (case hg => exact rfl))
    | refine Wt.seq ?_
    | (apply Wt.regionK; exact rfl)
    | refine RunK.nil ?_
    | (apply RunK.moveS; exact rfl; exact rfl)
    | (apply RunK.moveC; exact rfl; exact rfl; exact rfl))
  intro w2
  refine Wt.le ⟨(0, .s (rules b)) :: (1, .box 3 0) :: (2, .box 7 0) :: (3, .box 8 0) :: ghosts a b hc hr (noteC r a) (noteR r a), [(3, r.vals), (7, [hc]), (8, [hr])]⟩ ?_ ?_
  · unfold ghosts
    (refine Le.mk ?_ ?_; (repeat' (first | exact LeEnv.done | (refine LeEnv.consN ?_ ?_; exact rfl) | refine LeEnv.cons ?_ ?_ | exact PVLe.refl _ | exact PVLe.s (SVLe.nil _ _ _) | exact PVLe.s (SVLe.no _ _ _ _) | (refine PVLe.int ?_; first | rfl | omega | (simp; done) | (simp; omega)) | (refine PVLe.els ?_; first | rfl | assumption | (simp; done)) | (refine PVLe.bool ?_; first | rfl | assumption) | (refine PVLe.hdE ?_; first | rfl | assumption) | (refine PVLe.bsl ?_; first | rfl | assumption | (simp; done) | (simp; omega)))); (repeat' (first | exact LeBox.done | (refine LeBox.consN ?_ ?_; exact rfl) | (refine LeBox.cons ?_ ?_; exact rfl) | (refine LeBox.consE rfl ?_ ?_; first | assumption | (refine congrArg List.flatten ?_; first | rfl | assumption | (symm; assumption))))))
  refine note_wt r b a b hb (noteC r a) (noteR r a) (by omega) (by omega) _ _ rfl fun s hc hr hle => ⟨_, .zero, RunK.leK _ (hle.back rfl rfl) ?_⟩
  clear hle s
  repeat' (first
    | (apply RunK.callS; exact rfl; exact rfl; exact hbc; (repeat (first | exact ArgsLe.nil | refine ArgsLe.cons ?_ ?_ | exact ArgLe.v _ | exact ArgLe.sl _ _ _ _ | exact ArgLe.nil _ | exact ArgLe.nil' | exact ArgLe.nsl _ _ _ _ _ | exact ArgLe.nsn _ | (apply ArgLe.bsl; exact rfl; (first | exact rfl | (rw [List.length_map]; done) | (simp only [List.length_map]; done) | (simp; done) | (simp; omega)); (first | assumption | exact map_len (fun _ => rfl))))); exact rfl) | (apply RunK.callS; exact rfl; exact rfl; exact hbr; (repeat (first | exact ArgsLe.nil | refine ArgsLe.cons ?_ ?_ | exact ArgLe.v _ | exact ArgLe.sl _ _ _ _ | exact ArgLe.nil _ | exact ArgLe.nil' | exact ArgLe.nsl _ _ _ _ _ | exact ArgLe.nsn _ | (apply ArgLe.bsl; exact rfl; (first | exact rfl | (rw [List.length_map]; done) | (simp only [List.length_map]; done) | (simp; done) | (simp; omega)); (first | assumption | exact map_len (fun _ => rfl))))); exact rfl) | (apply RunK.loadH 2000000; exact rfl; exact rfl; exact rfl; exact rfl; exact rfl; exact rfl) | (apply RunK.loadH 2000001; exact rfl; exact rfl; exact rfl; exact rfl; exact rfl; exact rfl) | (apply RunK.storeH 2000000 (yt := 30); (case hw => exact rfl); (case hy => exact rfl); (case hyt => exact rfl); (case hh => exact rfl); (case hx => intro _; exact rfl); (case hb => exact rfl); (case hle => exact rfl); intro h1) | (apply RunK.storeH 2000001 (yt := 36); (case hw => exact rfl); (case hy => exact rfl); (case hyt => exact rfl); (case hh => exact rfl); (case hx => intro _; exact rfl); (case hb => exact rfl); (case hle => exact rfl); intro h2)
    | refine Wt.seq ?_
    | (apply Wt.regionK; exact rfl)
    | (apply Wt.regionD; kernel_rfl; kernel_rfl; exact rfl; exact rfl)
    | refine Wt.block ?_
    | refine RunK.nil ?_
    | (apply RunK.moveV; exact rfl; exact rfl)
    | (apply RunK.load1; exact rfl; exact rfl; exact rfl; exact rfl)
    | (apply RunK.field; exact rfl; exact rfl)
    | (apply RunK.assignN; exact rfl; exact rfl)
    | (apply RunK.len; exact rfl; exact rfl))
  refine Wt.loop (fun i : Nat => ⟨[(1, .s (rules a)), (2, .s (rules b)), (7, .box 7 0), (10, .bsl 500 0 6 ((R.take i).flatMap (rowP a b C)).length), (37, .s (ownP 36 R)), (38, .s (.v (.int .i64 R.length))), (39, .s (.v (.int .i64 i))), (2000000, .hd h1 (ownP 30 C))], [(7, [h1]), (500, (((R.take i).flatMap (rowP a b C)).map Part.vals).flatten)]⟩) (fun i => i ≤ R.length) (fun i => R.length - i) 0 (Nat.zero_le _) ?_ ?_
  · have e0 : (List.map pval R).length = R.length := List.length_map ..
    (refine Le.mk ?_ ?_; (repeat' (first | exact LeEnv.done | (refine LeEnv.consN ?_ ?_; exact rfl) | refine LeEnv.cons ?_ ?_ | exact PVLe.refl _ | exact PVLe.s (SVLe.nil _ _ _) | exact PVLe.s (SVLe.no _ _ _ _) | (refine PVLe.int ?_; first | rfl | omega | (simp; done) | (simp; omega)) | (refine PVLe.els ?_; first | rfl | assumption | (simp; done)) | (refine PVLe.bool ?_; first | rfl | assumption) | (refine PVLe.hdE ?_; first | rfl | assumption) | (refine PVLe.bsl ?_; first | rfl | assumption | (simp; done) | (simp; omega)))); (repeat' (first | exact LeBox.done | (refine LeBox.consN ?_ ?_; exact rfl) | (refine LeBox.cons ?_ ?_; exact rfl) | (refine LeBox.consE rfl ?_ ?_; first | assumption | (refine congrArg List.flatten ?_; first | rfl | assumption | (symm; assumption))))))
  · rintro i hi
    have hOl := partRows_len (C := C) a b (R.take i)
    rw [List.length_take, Nat.min_eq_left hi] at hOl
    by_cases hlt : i < R.length
    · obtain ⟨y, hy⟩ := exists_at hlt
      have hyx := get_map (f := pval) hy
      have hfs := flat_succ (f := rowP a b C) hy
      have hmul : i * C.length ≤ 4001 * 4001 := Nat.mul_le_mul (by omega) (by omega)
      generalize hPP : (R.take i).flatMap (rowP a b C) = prev at *
      refine Wt.le ⟨[(1, .s (rules a)), (2, .s (rules b)), (7, .box 7 0), (10, .bsl 500 0 6 prev.length), (37, .s (ownP 36 R)), (38, .s (.v (.int .i64 R.length))), (39, .s (.v (.int .i64 i))), (2000000, .hd h1 (ownP 30 C))], [(7, [h1]), (500, (prev.map Part.vals).flatten)]⟩ ?_ ?_
      · have e1 : ((R.take i).flatMap (rowP a b C)).length = prev.length := by rw [hPP]
        have e2 : List.map Part.vals ((R.take i).flatMap (rowP a b C)) = List.map Part.vals prev := by rw [hPP]
        (refine Le.mk ?_ ?_; (repeat' (first | exact LeEnv.done | (refine LeEnv.consN ?_ ?_; exact rfl) | refine LeEnv.cons ?_ ?_ | exact PVLe.refl _ | exact PVLe.s (SVLe.nil _ _ _) | exact PVLe.s (SVLe.no _ _ _ _) | (refine PVLe.int ?_; first | rfl | omega | (simp; done) | (simp; omega)) | (refine PVLe.els ?_; first | rfl | assumption | (simp; done)) | (refine PVLe.bool ?_; first | rfl | assumption) | (refine PVLe.hdE ?_; first | rfl | assumption) | (refine PVLe.bsl ?_; first | rfl | assumption | (simp; done) | (simp; omega)))); (repeat' (first | exact LeBox.done | (refine LeBox.consN ?_ ?_; exact rfl) | (refine LeBox.cons ?_ ?_; exact rfl) | (refine LeBox.consE rfl ?_ ?_; first | assumption | (refine congrArg List.flatten ?_; first | rfl | assumption | (symm; assumption))))))
      repeat' (first
    | (apply RunK.loadH 2000000; exact rfl; exact rfl; exact rfl; exact rfl; exact rfl; exact rfl)
    | refine Wt.seq ?_
    | (apply Wt.regionK; exact rfl)
    | refine Wt.block ?_
    | refine Wt.skip ?_
    | refine RunK.nil ?_
    | (apply RunK.moveV; exact rfl; exact rfl)
    | (apply RunK.index; exact rfl; exact rfl; exact rfl; (first | exact rfl | exact (rfl : (0 : Int) = ((0 : Nat) : Int)) | exact (rfl : (1 : Int) = ((1 : Nat) : Int)) | exact (rfl : (2 : Int) = ((2 : Nat) : Int)) | exact (rfl : (3 : Int) = ((3 : Nat) : Int)) | assumption); (first | omega | exact lt_of_get ‹_› | (rw [List.length_map]; omega) | (simp; omega)))
    | (apply RunK.assignV; exact rfl; exact rfl)
    | (apply RunK.alloc; exact rfl; apply Cells.eq; (first | exact Cells.agg _ | exact Cells.int _ _ | exact Cells.bool _ | exact Cells.one _ rfl); exact rfl)
    | (apply RunK.moveBs; exact rfl; exact rfl)
    | (apply RunK.lenS; exact rfl; exact rfl)
    | (apply RunK.loadER; exact rfl; exact rfl; assumption; exact rfl; (apply cut_eq; repeat (first | exact Cut.nil _ | apply Cut.cons | apply Cut.skip)))
    | (apply RunK.lss; exact rfl; exact rfl; exact rfl)
    | (apply RunK.len; exact rfl; exact rfl)
    | (apply RunK.store; exact rfl; exact rfl; exact rfl; exact rfl; exact rfl; exact rfl; exact rfl; apply upd_eq; exact rfl; (first | exact Cells.agg _ | exact Cells.int _ _ | exact Cells.bool _ | exact Cells.one _ rfl); (repeat (first | exact Upd.nil _ | apply Upd.cons | apply Upd.skip)))
    | (apply Wt.cond; exact rfl; all_goals (intro hg; (first | exact absurd hg (by decide) | skip); (first | (with_reducible replace hg := not_t hg) | (with_reducible replace hg := not_f hg) | skip); (first | (with_reducible replace hg := dec_t hg) | (with_reducible replace hg := dec_f hg) | skip); (first | (with_reducible exact absurd rfl hg) | skip); (repeat rw [List.length_map] at hg); try (exfalso; omega))))
      refine Wt.loop (fun k : Nat => ⟨[(1, .s (rules a)), (2, .s (rules b)), (7, .box 7 0), (10, .bsl 500 0 6 (prev ++ ((C.take k).map (mkP a b y)).foldl stepP []).length), (12, .box 12 0), (13, .s (.v (.int .i64 prev.length))), (37, .s (ownP 36 R)), (38, .s (.v (.int .i64 R.length))), (39, .s (.v (.int .i64 i))), (45, .s (ownP 30 C)), (46, .s (.v (.int .i64 C.length))), (47, .s (.v (.int .i64 k))), (2000000, .hd h1 (ownP 30 C))], [(7, [h1]), (12, pval y), (500, ((prev ++ ((C.take k).map (mkP a b y)).foldl stepP []).map Part.vals).flatten)]⟩) (fun k => k ≤ C.length) (fun k => C.length - k) 0 (Nat.zero_le _) ?_ ?_
      · have e0 : (List.map pval C).length = C.length := List.length_map ..
        have e1 : prev.length = (prev ++ ((C.take 0).map (mkP a b y)).foldl stepP []).length := by simp
        have e2 : List.map Part.vals prev = List.map Part.vals (prev ++ ((C.take 0).map (mkP a b y)).foldl stepP []) := by simp
        (refine Le.mk ?_ ?_; (repeat' (first | exact LeEnv.done | (refine LeEnv.consN ?_ ?_; exact rfl) | refine LeEnv.cons ?_ ?_ | exact PVLe.refl _ | exact PVLe.s (SVLe.nil _ _ _) | exact PVLe.s (SVLe.no _ _ _ _) | (refine PVLe.int ?_; first | rfl | omega | (simp; done) | (simp; omega)) | (refine PVLe.els ?_; first | rfl | assumption | (simp; done)) | (refine PVLe.bool ?_; first | rfl | assumption) | (refine PVLe.hdE ?_; first | rfl | assumption) | (refine PVLe.bsl ?_; first | rfl | assumption | (simp; done) | (simp; omega)))); (repeat' (first | exact LeBox.done | (refine LeBox.consN ?_ ?_; exact rfl) | (refine LeBox.cons ?_ ?_; exact rfl) | (refine LeBox.consE rfl ?_ ?_; first | assumption | (refine congrArg List.flatten ?_; first | rfl | assumption | (symm; assumption))))))
      · rintro k hk
        have hQl := fold_len ((C.take k).map (mkP a b y)) []
        rw [List.length_map, List.length_take, Nat.min_eq_left hk, List.length_nil, Nat.zero_add] at hQl
        by_cases hlt2 : k < C.length
        · obtain ⟨x, hxk⟩ := exists_at hlt2
          have hxx := get_map (f := pval) hxk
          have hss := fold_succ (a := a) (b := b) (y := y) hxk
          have hwa := regWhich ⟨x.1, y.1, x.2, y.2⟩ a (by omega)
          have hwb := regWhich ⟨x.1, y.1, x.2, y.2⟩ b (by omega)
          have hmk : mkP a b y x = ⟨⟨x.1, y.1, x.2, y.2⟩, ((whichN ⟨x.1, y.1, x.2, y.2⟩ a a.length : Nat), (whichN ⟨x.1, y.1, x.2, y.2⟩ b b.length : Nat))⟩ := rfl
          rw [hmk] at hss
          generalize whichN ⟨x.1, y.1, x.2, y.2⟩ a a.length = wa at *
          generalize whichN ⟨x.1, y.1, x.2, y.2⟩ b b.length = wb at *
          rcases list_snoc (((C.take k).map (mkP a b y)).foldl stepP []) with hQ | ⟨Q, q, hQ⟩
          · rw [hQ, stepP_nil] at hss
            have e1 : (prev ++ ((C.take k).map (mkP a b y)).foldl stepP []).length = prev.length := by rw [hQ, List.append_nil]
            have e2 : List.map Part.vals (prev ++ ((C.take k).map (mkP a b y)).foldl stepP []) = List.map Part.vals prev := by rw [hQ, List.append_nil]
            refine Wt.le ⟨[(1, .s (rules a)), (2, .s (rules b)), (7, .box 7 0), (10, .bsl 500 0 6 prev.length), (12, .box 12 0), (13, .s (.v (.int .i64 prev.length))), (37, .s (ownP 36 R)), (38, .s (.v (.int .i64 R.length))), (39, .s (.v (.int .i64 i))), (45, .s (ownP 30 C)), (46, .s (.v (.int .i64 C.length))), (47, .s (.v (.int .i64 k))), (2000000, .hd h1 (ownP 30 C))], [(7, [h1]), (12, pval y), (500, (prev.map Part.vals).flatten)]⟩ ?_ ?_
            · (refine Le.mk ?_ ?_; (repeat' (first | exact LeEnv.done | (refine LeEnv.consN ?_ ?_; exact rfl) | refine LeEnv.cons ?_ ?_ | exact PVLe.refl _ | exact PVLe.s (SVLe.nil _ _ _) | exact PVLe.s (SVLe.no _ _ _ _) | (refine PVLe.int ?_; first | rfl | omega | (simp; done) | (simp; omega)) | (refine PVLe.els ?_; first | rfl | assumption | (simp; done)) | (refine PVLe.bool ?_; first | rfl | assumption) | (refine PVLe.hdE ?_; first | rfl | assumption) | (refine PVLe.bsl ?_; first | rfl | assumption | (simp; done) | (simp; omega)))); (repeat' (first | exact LeBox.done | (refine LeBox.consN ?_ ?_; exact rfl) | (refine LeBox.cons ?_ ?_; exact rfl) | (refine LeBox.consE rfl ?_ ?_; first | assumption | (refine congrArg List.flatten ?_; first | rfl | assumption | (symm; assumption))))))
            repeat' (first
    | (apply RunK.loadER; exact rfl; exact rfl; exact hxx; exact rfl; (apply cut_eq; repeat (first | exact Cut.nil _ | apply Cut.cons | apply Cut.skip))) | (apply RunK.callS; exact rfl; exact rfl; exact hwa; (repeat (first | exact ArgsLe.nil | refine ArgsLe.cons ?_ ?_ | exact ArgLe.v _ | exact ArgLe.sl _ _ _ _ | exact ArgLe.nil _ | exact ArgLe.nil' | exact ArgLe.nsl _ _ _ _ _ | exact ArgLe.nsn _ | (apply ArgLe.bsl; exact rfl; (first | exact rfl | (rw [List.length_map]; done) | (simp only [List.length_map]; done) | (simp; done) | (simp; omega)); (first | assumption | exact map_len (fun _ => rfl))))); exact rfl) | (apply RunK.callS; exact rfl; exact rfl; exact hwb; (repeat (first | exact ArgsLe.nil | refine ArgsLe.cons ?_ ?_ | exact ArgLe.v _ | exact ArgLe.sl _ _ _ _ | exact ArgLe.nil _ | exact ArgLe.nil' | exact ArgLe.nsl _ _ _ _ _ | exact ArgLe.nsn _ | (apply ArgLe.bsl; exact rfl; (first | exact rfl | (rw [List.length_map]; done) | (simp only [List.length_map]; done) | (simp; done) | (simp; omega)); (first | assumption | exact map_len (fun _ => rfl))))); exact rfl) | (apply RunK.appendB; (case ht => exact rfl); (case hl => exact rfl); (case hb => exact rfl); (case hn => rw [List.length_map]); (case hk => (first | assumption | exact (fun _ he => absurd he List.not_mem_nil) | exact map_len (fun _ => rfl) | (refine set_len ?_ ?_; exact map_len (fun _ => rfl); exact rfl))); (case he => exact rfl); (case hw => exact rfl); (case hy => (first | exact ReadLe.sl _ _ _ _ | exact ReadLe.nil _)); (case hnd => exact rfl); (case hone => exact one_rows rfl); (case hbd => (rw [List.length_map]; simp only [List.length_cons, List.length_nil]; omega)); (case hf => exact rfl))
    | refine Wt.seq ?_
    | (apply Wt.regionK; exact rfl)
    | (apply Wt.regionD; kernel_rfl; kernel_rfl; exact rfl; exact rfl)
    | refine Wt.block ?_
    | refine Wt.skip ?_
    | refine RunK.nil ?_
    | (apply RunK.moveV; exact rfl; exact rfl)
    | (apply RunK.index; exact rfl; exact rfl; exact rfl; (first | exact rfl | exact (rfl : (0 : Int) = ((0 : Nat) : Int)) | exact (rfl : (1 : Int) = ((1 : Nat) : Int)) | exact (rfl : (2 : Int) = ((2 : Nat) : Int)) | exact (rfl : (3 : Int) = ((3 : Nat) : Int)) | assumption); (first | omega | exact lt_of_get ‹_› | (rw [List.length_map]; omega) | (simp; omega)))
    | (apply RunK.indexB; exact rfl; exact rfl; exact rfl; (first | exact rfl | exact (rfl : (0 : Int) = ((0 : Nat) : Int)) | exact (rfl : (1 : Int) = ((1 : Nat) : Int)) | exact (rfl : (2 : Int) = ((2 : Nat) : Int)) | exact (rfl : (3 : Int) = ((3 : Nat) : Int)) | assumption); exact rfl)
    | (apply RunK.load1; exact rfl; exact rfl; exact rfl; exact rfl)
    | (apply RunK.field; exact rfl; exact rfl)
    | (apply RunK.assignV; exact rfl; exact rfl)
    | (apply RunK.alloc; exact rfl; apply Cells.eq; (first | exact Cells.agg _ | exact Cells.int _ _ | exact Cells.bool _ | exact Cells.one _ rfl); exact rfl)
    | (apply RunK.moveS; exact rfl; exact rfl)
    | (apply RunK.moveBs; exact rfl; exact rfl)
    | (apply RunK.assignBs; exact rfl; exact rfl)
    | (apply RunK.lenS; exact rfl; exact rfl)
    | (apply RunK.loadR; exact rfl; exact rfl; exact rfl; exact rfl; (apply cut_eq; repeat (first | exact Cut.nil _ | apply Cut.cons | apply Cut.skip)))
    | (apply RunK.pickF; exact rfl; exact rfl; exact rfl)
    | (apply RunK.lss; exact rfl; exact rfl; exact rfl)
    | (apply RunK.gtr; exact rfl; exact rfl; exact rfl)
    | (apply RunK.add; exact rfl; exact rfl; exact rfl; (first | omega | (simp only [List.length_map]; omega)))
    | (apply RunK.build; exact rfl; (repeat (first | exact PartsOk.nil | (apply PartsOk.cons; exact rfl) | (apply PartsOk.consN; exact rfl))); (repeat (first | exact fill_nil | (apply fill_cons; exact rfl; (first | exact Cells.agg _ | exact Cells.int _ _ | exact Cells.bool _ | exact Cells.one _ rfl); exact rfl; (repeat (first | exact Upd.nil _ | apply Upd.cons | apply Upd.skip))))))
    | (apply RunK.buildA; exact rfl; (repeat (first | exact PartsOk.nil | (apply PartsOk.cons; exact rfl) | (apply PartsOk.consN; exact rfl))); (repeat (first | exact fill_nil | (apply fill_cons; exact rfl; (first | exact Cells.agg _ | exact Cells.int _ _ | exact Cells.bool _ | exact Cells.one _ rfl); exact rfl; (repeat (first | exact Upd.nil _ | apply Upd.cons | apply Upd.skip))))))
    | (apply RunK.rows; exact rfl; exact rfl; (repeat (first | exact PartsOk.nil | (apply PartsOk.cons; exact rfl) | (apply PartsOk.consN; exact rfl))); (repeat (first | exact Rows.nil _ | (apply Rows.cons; (first | exact Cells.agg _ | exact Cells.int _ _ | exact Cells.bool _ | exact Cells.one _ rfl); exact rfl))); exact rfl; exact rfl)
    | (apply RunK.store; exact rfl; exact rfl; exact rfl; exact rfl; exact rfl; exact rfl; exact rfl; apply upd_eq; exact rfl; (first | exact Cells.agg _ | exact Cells.int _ _ | exact Cells.bool _ | exact Cells.one _ rfl); (repeat (first | exact Upd.nil _ | apply Upd.cons | apply Upd.skip)))
    | (apply RunK.skip; exact rfl; exact rfl)
    | (apply RunK.guard; exact rfl; exact rfl; exact rfl; all_goals (intro hg; (first | exact absurd hg (by decide) | skip); (first | (with_reducible replace hg := not_t hg) | (with_reducible replace hg := not_f hg) | skip); (first | (with_reducible replace hg := dec_t hg) | (with_reducible replace hg := dec_f hg) | skip); (first | (with_reducible exact absurd rfl hg) | skip); (repeat rw [List.length_map] at hg); try (exfalso; omega)))
    | (apply Wt.cond; exact rfl; all_goals (intro hg; (first | exact absurd hg (by decide) | skip); (first | (with_reducible replace hg := not_t hg) | (with_reducible replace hg := not_f hg) | skip); (first | (with_reducible replace hg := dec_t hg) | (with_reducible replace hg := dec_f hg) | skip); (first | (with_reducible exact absurd rfl hg) | skip); (repeat rw [List.length_map] at hg); try (exfalso; omega))))
            have e3 : List.map Part.vals prev ++ [[.int .i64 x.1, .int .i64 y.1, .int .i64 x.2, .int .i64 y.2, .int .i64 wa, .int .i64 wb]] = List.map Part.vals (prev ++ ((C.take (k + 1)).map (mkP a b y)).foldl stepP []) := by rw [hss, List.map_append]; rfl
            have e4 : (List.map Part.vals prev ++ [[Value.int .i64 x.1, .int .i64 y.1, .int .i64 x.2, .int .i64 y.2, .int .i64 wa, .int .i64 wb]]).length = (prev ++ ((C.take (k + 1)).map (mkP a b y)).foldl stepP []).length := by rw [e3, List.length_map]
            refine ⟨k + 1, hlt2, by omega, ?_⟩
            (refine Le.mk ?_ ?_; (repeat' (first | exact LeEnv.done | (refine LeEnv.consN ?_ ?_; exact rfl) | refine LeEnv.cons ?_ ?_ | exact PVLe.refl _ | exact PVLe.s (SVLe.nil _ _ _) | exact PVLe.s (SVLe.no _ _ _ _) | (refine PVLe.int ?_; first | rfl | omega | (simp; done) | (simp; omega)) | (refine PVLe.els ?_; first | rfl | assumption | (simp; done)) | (refine PVLe.bool ?_; first | rfl | assumption) | (refine PVLe.hdE ?_; first | rfl | assumption) | (refine PVLe.bsl ?_; first | rfl | assumption | (simp; done) | (simp; omega)))); (repeat' (first | exact LeBox.done | (refine LeBox.consN ?_ ?_; exact rfl) | (refine LeBox.cons ?_ ?_; exact rfl) | (refine LeBox.consE rfl ?_ ?_; first | assumption | (refine congrArg List.flatten ?_; first | rfl | assumption | (symm; assumption))))))
          · rw [hQ] at hss hQl
            obtain ⟨O, hO⟩ : ∃ O, O = prev ++ Q := ⟨_, rfl⟩
            have hOl2 : O.length = prev.length + Q.length := by rw [hO, List.length_append]
            have hQl2 : Q.length + 1 ≤ k := by rw [List.length_append] at hQl; exact hQl
            have hOq : prev ++ (Q ++ [q]) = O ++ [q] := by rw [hO, List.append_assoc]
            have e1 : (prev ++ ((C.take k).map (mkP a b y)).foldl stepP []).length = O.length + 1 := by rw [hQ, hOq]; simp
            have e2 : List.map Part.vals (prev ++ ((C.take k).map (mkP a b y)).foldl stepP []) = List.map Part.vals (O ++ [q]) := by rw [hQ, hOq]
            have hml : (List.map Part.vals (O ++ [q])).length = O.length + 1 := by simp
            have hq : (List.map Part.vals (O ++ [q]))[O.length]? = some q.vals := by simp
            refine Wt.le ⟨[(1, .s (rules a)), (2, .s (rules b)), (7, .box 7 0), (10, .bsl 500 0 6 (O.length + 1)), (12, .box 12 0), (13, .s (.v (.int .i64 prev.length))), (37, .s (ownP 36 R)), (38, .s (.v (.int .i64 R.length))), (39, .s (.v (.int .i64 i))), (45, .s (ownP 30 C)), (46, .s (.v (.int .i64 C.length))), (47, .s (.v (.int .i64 k))), (2000000, .hd h1 (ownP 30 C))], [(7, [h1]), (12, pval y), (500, (List.map Part.vals (O ++ [q])).flatten)]⟩ ?_ ?_
            · (refine Le.mk ?_ ?_; (repeat' (first | exact LeEnv.done | (refine LeEnv.consN ?_ ?_; exact rfl) | refine LeEnv.cons ?_ ?_ | exact PVLe.refl _ | exact PVLe.s (SVLe.nil _ _ _) | exact PVLe.s (SVLe.no _ _ _ _) | (refine PVLe.int ?_; first | rfl | omega | (simp; done) | (simp; omega)) | (refine PVLe.els ?_; first | rfl | assumption | (simp; done)) | (refine PVLe.bool ?_; first | rfl | assumption) | (refine PVLe.hdE ?_; first | rfl | assumption) | (refine PVLe.bsl ?_; first | rfl | assumption | (simp; done) | (simp; omega)))); (repeat' (first | exact LeBox.done | (refine LeBox.consN ?_ ?_; exact rfl) | (refine LeBox.cons ?_ ?_; exact rfl) | (refine LeBox.consE rfl ?_ ?_; first | assumption | (refine congrArg List.flatten ?_; first | rfl | assumption | (symm; assumption))))))
            by_cases hw : q.which = ((wa : Int), (wb : Int))
            · rw [stepP_same hw] at hss
              have hbin : BinRun Try.prog .eql 106 (.tmp 82) (.tmp 84) (.agg (pval q.which).toArray) (.agg (pval ((wa : Int), (wb : Int))).toArray) (.bool true) := by
                have := eqlPair (x := .tmp 82) (y := .tmp 84) q.which ((wa : Int), (wb : Int))
                rwa [decide_eq_true hw] at this
              repeat' (first
    | (apply RunK.loadER; exact rfl; exact rfl; exact hxx; exact rfl; (apply cut_eq; repeat (first | exact Cut.nil _ | apply Cut.cons | apply Cut.skip))) | (apply RunK.callS; exact rfl; exact rfl; exact hwa; (repeat (first | exact ArgsLe.nil | refine ArgsLe.cons ?_ ?_ | exact ArgLe.v _ | exact ArgLe.sl _ _ _ _ | exact ArgLe.nil _ | exact ArgLe.nil' | exact ArgLe.nsl _ _ _ _ _ | exact ArgLe.nsn _ | (apply ArgLe.bsl; exact rfl; (first | exact rfl | (rw [List.length_map]; done) | (simp only [List.length_map]; done) | (simp; done) | (simp; omega)); (first | assumption | exact map_len (fun _ => rfl))))); exact rfl) | (apply RunK.callS; exact rfl; exact rfl; exact hwb; (repeat (first | exact ArgsLe.nil | refine ArgsLe.cons ?_ ?_ | exact ArgLe.v _ | exact ArgLe.sl _ _ _ _ | exact ArgLe.nil _ | exact ArgLe.nil' | exact ArgLe.nsl _ _ _ _ _ | exact ArgLe.nsn _ | (apply ArgLe.bsl; exact rfl; (first | exact rfl | (rw [List.length_map]; done) | (simp only [List.length_map]; done) | (simp; done) | (simp; omega)); (first | assumption | exact map_len (fun _ => rfl))))); exact rfl) | (apply RunK.indexS (j := O.length); exact rfl; exact rfl; exact rfl; omega; omega) | (apply RunK.loadFR; exact rfl; exact rfl; exact rfl; exact off1 _ _ _; exact map_len (fun _ => rfl); exact hq; exact rfl; (apply cut_eq; repeat (first | exact Cut.nil _ | apply Cut.cons | apply Cut.skip))) | (apply RunK.bin; exact rfl; exact rfl; exact rfl; exact hbin) | (apply RunK.storeF; exact rfl; exact rfl; exact rfl; exact rfl; exact off2 _ _ _ _; exact map_len (fun _ => rfl); exact hq; exact rfl; exact rfl; exact rfl; (first | exact Cells.agg _ | exact Cells.int _ _ | exact Cells.bool _ | exact Cells.one _ rfl); (repeat (first | exact Upd.nil _ | apply Upd.cons | apply Upd.skip)))
    | refine Wt.seq ?_
    | (apply Wt.regionK; exact rfl)
    | (apply Wt.regionD; kernel_rfl; kernel_rfl; exact rfl; exact rfl)
    | refine Wt.block ?_
    | refine Wt.skip ?_
    | refine Wt.exit ?_
    | refine RunK.nil ?_
    | (apply RunK.moveV; exact rfl; exact rfl)
    | (apply RunK.index; exact rfl; exact rfl; exact rfl; (first | exact rfl | exact (rfl : (0 : Int) = ((0 : Nat) : Int)) | exact (rfl : (1 : Int) = ((1 : Nat) : Int)) | exact (rfl : (2 : Int) = ((2 : Nat) : Int)) | exact (rfl : (3 : Int) = ((3 : Nat) : Int)) | assumption); (first | omega | exact lt_of_get ‹_› | (rw [List.length_map]; omega) | (simp; omega)))
    | (apply RunK.indexB; exact rfl; exact rfl; exact rfl; (first | exact rfl | exact (rfl : (0 : Int) = ((0 : Nat) : Int)) | exact (rfl : (1 : Int) = ((1 : Nat) : Int)) | exact (rfl : (2 : Int) = ((2 : Nat) : Int)) | exact (rfl : (3 : Int) = ((3 : Nat) : Int)) | assumption); exact rfl)
    | (apply RunK.load1; exact rfl; exact rfl; exact rfl; exact rfl)
    | (apply RunK.field; exact rfl; exact rfl)
    | (apply RunK.assignV; exact rfl; exact rfl)
    | (apply RunK.alloc; exact rfl; apply Cells.eq; (first | exact Cells.agg _ | exact Cells.int _ _ | exact Cells.bool _ | exact Cells.one _ rfl); exact rfl)
    | (apply RunK.moveS; exact rfl; exact rfl)
    | (apply RunK.moveBs; exact rfl; exact rfl)
    | (apply RunK.lenS; exact rfl; exact rfl)
    | (apply RunK.loadR; exact rfl; exact rfl; exact rfl; exact rfl; (apply cut_eq; repeat (first | exact Cut.nil _ | apply Cut.cons | apply Cut.skip)))
    | (apply RunK.pickT; exact rfl; exact rfl; exact rfl)
    | (apply RunK.lss; exact rfl; exact rfl; exact rfl)
    | (apply RunK.gtr; exact rfl; exact rfl; exact rfl)
    | (apply RunK.add; exact rfl; exact rfl; exact rfl; (first | omega | (simp only [List.length_map]; omega)))
    | (apply RunK.sub; exact rfl; exact rfl; exact rfl; (first | omega | (simp only [List.length_map]; omega)))
    | (apply RunK.build; exact rfl; (repeat (first | exact PartsOk.nil | (apply PartsOk.cons; exact rfl) | (apply PartsOk.consN; exact rfl))); (repeat (first | exact fill_nil | (apply fill_cons; exact rfl; (first | exact Cells.agg _ | exact Cells.int _ _ | exact Cells.bool _ | exact Cells.one _ rfl); exact rfl; (repeat (first | exact Upd.nil _ | apply Upd.cons | apply Upd.skip))))))
    | (apply RunK.buildA; exact rfl; (repeat (first | exact PartsOk.nil | (apply PartsOk.cons; exact rfl) | (apply PartsOk.consN; exact rfl))); (repeat (first | exact fill_nil | (apply fill_cons; exact rfl; (first | exact Cells.agg _ | exact Cells.int _ _ | exact Cells.bool _ | exact Cells.one _ rfl); exact rfl; (repeat (first | exact Upd.nil _ | apply Upd.cons | apply Upd.skip))))))
    | (apply RunK.store; exact rfl; exact rfl; exact rfl; exact rfl; exact rfl; exact rfl; exact rfl; apply upd_eq; exact rfl; (first | exact Cells.agg _ | exact Cells.int _ _ | exact Cells.bool _ | exact Cells.one _ rfl); (repeat (first | exact Upd.nil _ | apply Upd.cons | apply Upd.skip)))
    | (apply RunK.guard; exact rfl; exact rfl; exact rfl; all_goals (intro hg; (first | exact absurd hg (by decide) | skip); (first | (with_reducible replace hg := not_t hg) | (with_reducible replace hg := not_f hg) | skip); (first | (with_reducible replace hg := dec_t hg) | (with_reducible replace hg := dec_f hg) | skip); (first | (with_reducible exact absurd rfl hg) | skip); (repeat rw [List.length_map] at hg); try (exfalso; omega)))
    | (apply Wt.cond; exact rfl; all_goals (intro hg; (first | exact absurd hg (by decide) | skip); (first | (with_reducible replace hg := not_t hg) | (with_reducible replace hg := not_f hg) | skip); (first | (with_reducible replace hg := dec_t hg) | (with_reducible replace hg := dec_f hg) | skip); (first | (with_reducible exact absurd rfl hg) | skip); (repeat rw [List.length_map] at hg); try (exfalso; omega))))
              have e3 : (List.map Part.vals (O ++ [q])).set O.length [.int .i64 q.r.c1, .int .i64 q.r.r1, .int .i64 x.2, .int .i64 q.r.r2, .int .i64 q.which.1, .int .i64 q.which.2] = List.map Part.vals (prev ++ ((C.take (k + 1)).map (mkP a b y)).foldl stepP []) := by
                rw [hss, ← List.append_assoc, ← hO, List.map_append, List.map_append, List.set_append_right _ _ (by simp)]
                simp [wider, Part.vals]
              have e4 : O.length + 1 = (prev ++ ((C.take (k + 1)).map (mkP a b y)).foldl stepP []).length := by rw [hss, ← List.append_assoc, ← hO]; simp
              refine ⟨k + 1, hlt2, by omega, ?_⟩
              (refine Le.mk ?_ ?_; (repeat' (first | exact LeEnv.done | (refine LeEnv.consN ?_ ?_; exact rfl) | refine LeEnv.cons ?_ ?_ | exact PVLe.refl _ | exact PVLe.s (SVLe.nil _ _ _) | exact PVLe.s (SVLe.no _ _ _ _) | (refine PVLe.int ?_; first | rfl | omega | (simp; done) | (simp; omega)) | (refine PVLe.els ?_; first | rfl | assumption | (simp; done)) | (refine PVLe.bool ?_; first | rfl | assumption) | (refine PVLe.hdE ?_; first | rfl | assumption) | (refine PVLe.bsl ?_; first | rfl | assumption | (simp; done) | (simp; omega)))); (repeat' (first | exact LeBox.done | (refine LeBox.consN ?_ ?_; exact rfl) | (refine LeBox.cons ?_ ?_; exact rfl) | (refine LeBox.consE rfl ?_ ?_; first | assumption | (refine congrArg List.flatten ?_; first | rfl | assumption | (symm; assumption))))))
            · rw [stepP_new hw] at hss
              have hbin : BinRun Try.prog .eql 106 (.tmp 82) (.tmp 84) (.agg (pval q.which).toArray) (.agg (pval ((wa : Int), (wb : Int))).toArray) (.bool false) := by
                have := eqlPair (x := .tmp 82) (y := .tmp 84) q.which ((wa : Int), (wb : Int))
                rwa [decide_eq_false hw] at this
              repeat' (first
    | (apply RunK.loadER; exact rfl; exact rfl; exact hxx; exact rfl; (apply cut_eq; repeat (first | exact Cut.nil _ | apply Cut.cons | apply Cut.skip))) | (apply RunK.callS; exact rfl; exact rfl; exact hwa; (repeat (first | exact ArgsLe.nil | refine ArgsLe.cons ?_ ?_ | exact ArgLe.v _ | exact ArgLe.sl _ _ _ _ | exact ArgLe.nil _ | exact ArgLe.nil' | exact ArgLe.nsl _ _ _ _ _ | exact ArgLe.nsn _ | (apply ArgLe.bsl; exact rfl; (first | exact rfl | (rw [List.length_map]; done) | (simp only [List.length_map]; done) | (simp; done) | (simp; omega)); (first | assumption | exact map_len (fun _ => rfl))))); exact rfl) | (apply RunK.callS; exact rfl; exact rfl; exact hwb; (repeat (first | exact ArgsLe.nil | refine ArgsLe.cons ?_ ?_ | exact ArgLe.v _ | exact ArgLe.sl _ _ _ _ | exact ArgLe.nil _ | exact ArgLe.nil' | exact ArgLe.nsl _ _ _ _ _ | exact ArgLe.nsn _ | (apply ArgLe.bsl; exact rfl; (first | exact rfl | (rw [List.length_map]; done) | (simp only [List.length_map]; done) | (simp; done) | (simp; omega)); (first | assumption | exact map_len (fun _ => rfl))))); exact rfl) | (apply RunK.indexS (j := O.length); exact rfl; exact rfl; exact rfl; omega; omega) | (apply RunK.loadFR; exact rfl; exact rfl; exact rfl; exact off1 _ _ _; exact map_len (fun _ => rfl); exact hq; exact rfl; (apply cut_eq; repeat (first | exact Cut.nil _ | apply Cut.cons | apply Cut.skip))) | (apply RunK.bin; exact rfl; exact rfl; exact rfl; exact hbin) | (apply RunK.appendB; (case ht => exact rfl); (case hl => exact rfl); (case hb => exact rfl); (case hn => rw [hml]); (case hk => (first | assumption | exact (fun _ he => absurd he List.not_mem_nil) | exact map_len (fun _ => rfl) | (refine set_len ?_ ?_; exact map_len (fun _ => rfl); exact rfl))); (case he => exact rfl); (case hw => exact rfl); (case hy => (first | exact ReadLe.sl _ _ _ _ | exact ReadLe.nil _)); (case hnd => exact rfl); (case hone => exact one_rows rfl); (case hbd => (rw [hml]; simp only [List.length_cons, List.length_nil]; omega)); (case hf => exact rfl))
    | refine Wt.seq ?_
    | (apply Wt.regionK; exact rfl)
    | (apply Wt.regionD; kernel_rfl; kernel_rfl; exact rfl; exact rfl)
    | refine Wt.block ?_
    | refine Wt.skip ?_
    | refine RunK.nil ?_
    | (apply RunK.moveV; exact rfl; exact rfl)
    | (apply RunK.index; exact rfl; exact rfl; exact rfl; (first | exact rfl | exact (rfl : (0 : Int) = ((0 : Nat) : Int)) | exact (rfl : (1 : Int) = ((1 : Nat) : Int)) | exact (rfl : (2 : Int) = ((2 : Nat) : Int)) | exact (rfl : (3 : Int) = ((3 : Nat) : Int)) | assumption); (first | omega | exact lt_of_get ‹_› | (rw [List.length_map]; omega) | (simp; omega)))
    | (apply RunK.indexB; exact rfl; exact rfl; exact rfl; (first | exact rfl | exact (rfl : (0 : Int) = ((0 : Nat) : Int)) | exact (rfl : (1 : Int) = ((1 : Nat) : Int)) | exact (rfl : (2 : Int) = ((2 : Nat) : Int)) | exact (rfl : (3 : Int) = ((3 : Nat) : Int)) | assumption); exact rfl)
    | (apply RunK.load1; exact rfl; exact rfl; exact rfl; exact rfl)
    | (apply RunK.field; exact rfl; exact rfl)
    | (apply RunK.assignV; exact rfl; exact rfl)
    | (apply RunK.alloc; exact rfl; apply Cells.eq; (first | exact Cells.agg _ | exact Cells.int _ _ | exact Cells.bool _ | exact Cells.one _ rfl); exact rfl)
    | (apply RunK.moveS; exact rfl; exact rfl)
    | (apply RunK.moveBs; exact rfl; exact rfl)
    | (apply RunK.assignBs; exact rfl; exact rfl)
    | (apply RunK.lenS; exact rfl; exact rfl)
    | (apply RunK.loadR; exact rfl; exact rfl; exact rfl; exact rfl; (apply cut_eq; repeat (first | exact Cut.nil _ | apply Cut.cons | apply Cut.skip)))
    | (apply RunK.pickT; exact rfl; exact rfl; exact rfl)
    | (apply RunK.lss; exact rfl; exact rfl; exact rfl)
    | (apply RunK.gtr; exact rfl; exact rfl; exact rfl)
    | (apply RunK.add; exact rfl; exact rfl; exact rfl; (first | omega | (simp only [List.length_map]; omega)))
    | (apply RunK.sub; exact rfl; exact rfl; exact rfl; (first | omega | (simp only [List.length_map]; omega)))
    | (apply RunK.build; exact rfl; (repeat (first | exact PartsOk.nil | (apply PartsOk.cons; exact rfl) | (apply PartsOk.consN; exact rfl))); (repeat (first | exact fill_nil | (apply fill_cons; exact rfl; (first | exact Cells.agg _ | exact Cells.int _ _ | exact Cells.bool _ | exact Cells.one _ rfl); exact rfl; (repeat (first | exact Upd.nil _ | apply Upd.cons | apply Upd.skip))))))
    | (apply RunK.buildA; exact rfl; (repeat (first | exact PartsOk.nil | (apply PartsOk.cons; exact rfl) | (apply PartsOk.consN; exact rfl))); (repeat (first | exact fill_nil | (apply fill_cons; exact rfl; (first | exact Cells.agg _ | exact Cells.int _ _ | exact Cells.bool _ | exact Cells.one _ rfl); exact rfl; (repeat (first | exact Upd.nil _ | apply Upd.cons | apply Upd.skip))))))
    | (apply RunK.rows; exact rfl; exact rfl; (repeat (first | exact PartsOk.nil | (apply PartsOk.cons; exact rfl) | (apply PartsOk.consN; exact rfl))); (repeat (first | exact Rows.nil _ | (apply Rows.cons; (first | exact Cells.agg _ | exact Cells.int _ _ | exact Cells.bool _ | exact Cells.one _ rfl); exact rfl))); exact rfl; exact rfl)
    | (apply RunK.store; exact rfl; exact rfl; exact rfl; exact rfl; exact rfl; exact rfl; exact rfl; apply upd_eq; exact rfl; (first | exact Cells.agg _ | exact Cells.int _ _ | exact Cells.bool _ | exact Cells.one _ rfl); (repeat (first | exact Upd.nil _ | apply Upd.cons | apply Upd.skip)))
    | (apply RunK.guard; exact rfl; exact rfl; exact rfl; all_goals (intro hg; (first | exact absurd hg (by decide) | skip); (first | (with_reducible replace hg := not_t hg) | (with_reducible replace hg := not_f hg) | skip); (first | (with_reducible replace hg := dec_t hg) | (with_reducible replace hg := dec_f hg) | skip); (first | (with_reducible exact absurd rfl hg) | skip); (repeat rw [List.length_map] at hg); try (exfalso; omega)))
    | (apply Wt.cond; exact rfl; all_goals (intro hg; (first | exact absurd hg (by decide) | skip); (first | (with_reducible replace hg := not_t hg) | (with_reducible replace hg := not_f hg) | skip); (first | (with_reducible replace hg := dec_t hg) | (with_reducible replace hg := dec_f hg) | skip); (first | (with_reducible exact absurd rfl hg) | skip); (repeat rw [List.length_map] at hg); try (exfalso; omega))))
              have e3 : List.map Part.vals (O ++ [q]) ++ [[.int .i64 x.1, .int .i64 y.1, .int .i64 x.2, .int .i64 y.2, .int .i64 wa, .int .i64 wb]] = List.map Part.vals (prev ++ ((C.take (k + 1)).map (mkP a b y)).foldl stepP []) := by rw [hss, ← List.append_assoc, hOq, List.map_append (l₁ := O ++ [q])]; rfl
              have e4 : (List.map Part.vals (O ++ [q]) ++ [[Value.int .i64 x.1, .int .i64 y.1, .int .i64 x.2, .int .i64 y.2, .int .i64 wa, .int .i64 wb]]).length = (prev ++ ((C.take (k + 1)).map (mkP a b y)).foldl stepP []).length := by rw [e3, List.length_map]
              refine ⟨k + 1, hlt2, by omega, ?_⟩
              (refine Le.mk ?_ ?_; (repeat' (first | exact LeEnv.done | (refine LeEnv.consN ?_ ?_; exact rfl) | refine LeEnv.cons ?_ ?_ | exact PVLe.refl _ | exact PVLe.s (SVLe.nil _ _ _) | exact PVLe.s (SVLe.no _ _ _ _) | (refine PVLe.int ?_; first | rfl | omega | (simp; done) | (simp; omega)) | (refine PVLe.els ?_; first | rfl | assumption | (simp; done)) | (refine PVLe.bool ?_; first | rfl | assumption) | (refine PVLe.hdE ?_; first | rfl | assumption) | (refine PVLe.bsl ?_; first | rfl | assumption | (simp; done) | (simp; omega)))); (repeat' (first | exact LeBox.done | (refine LeBox.consN ?_ ?_; exact rfl) | (refine LeBox.cons ?_ ?_; exact rfl) | (refine LeBox.consE rfl ?_ ?_; first | assumption | (refine congrArg List.flatten ?_; first | rfl | assumption | (symm; assumption))))))
        · obtain rfl : k = C.length := by omega
          rw [List.take_length] at *
          repeat' (first
    | refine Wt.seq ?_
    | (apply Wt.regionK; exact rfl)
    | refine Wt.exit ?_
    | refine RunK.nil ?_
    | (apply RunK.moveV; exact rfl; exact rfl)
    | (apply RunK.lss; exact rfl; exact rfl; exact rfl)
    | (apply RunK.add; exact rfl; exact rfl; exact rfl; (first | omega | (simp only [List.length_map]; omega)))
    | (apply Wt.cond; exact rfl; all_goals (intro hg; (first | exact absurd hg (by decide) | skip); (first | (with_reducible replace hg := not_t hg) | (with_reducible replace hg := not_f hg) | skip); (first | (with_reducible replace hg := dec_t hg) | (with_reducible replace hg := dec_f hg) | skip); (first | (with_reducible exact absurd rfl hg) | skip); (repeat rw [List.length_map] at hg); try (exfalso; omega))))
          have e1 : (prev ++ (C.map (mkP a b y)).foldl stepP []).length = ((R.take (i + 1)).flatMap (rowP a b C)).length := by rw [hfs]; rfl
          have e2 : List.map Part.vals (prev ++ (C.map (mkP a b y)).foldl stepP []) = List.map Part.vals ((R.take (i + 1)).flatMap (rowP a b C)) := by rw [hfs]; rfl
          refine ⟨i + 1, hlt, by omega, ?_⟩
          (refine Le.mk ?_ ?_; (repeat' (first | exact LeEnv.done | (refine LeEnv.consN ?_ ?_; exact rfl) | refine LeEnv.cons ?_ ?_ | exact PVLe.refl _ | exact PVLe.s (SVLe.nil _ _ _) | exact PVLe.s (SVLe.no _ _ _ _) | (refine PVLe.int ?_; first | rfl | omega | (simp; done) | (simp; omega)) | (refine PVLe.els ?_; first | rfl | assumption | (simp; done)) | (refine PVLe.bool ?_; first | rfl | assumption) | (refine PVLe.hdE ?_; first | rfl | assumption) | (refine PVLe.bsl ?_; first | rfl | assumption | (simp; done) | (simp; omega)))); (repeat' (first | exact LeBox.done | (refine LeBox.consN ?_ ?_; exact rfl) | (refine LeBox.cons ?_ ?_; exact rfl) | (refine LeBox.consE rfl ?_ ?_; first | assumption | (refine congrArg List.flatten ?_; first | rfl | assumption | (symm; assumption))))))
    · obtain rfl : i = R.length := by omega
      rw [List.take_length] at *
      repeat' (first
    | (apply RunK.callT; exact rfl; exact rfl; exact hsort; exact ArgsLe.cons (ArgLe.bsl rfl (by rw [List.length_map]) (map_len (fun _ => rfl))) (ArgsLe.cons (ArgLe.v _) ArgsLe.nil); exact rfl) | (apply Wt.retF 6 0 108; exact rfl; exact rfl; (rw [List.length_map]); (first | assumption | exact map_len (fun _ => rfl)))
    | refine Wt.seq ?_
    | (apply Wt.regionK; exact rfl)
    | refine Wt.exit ?_
    | refine RunK.nil ?_
    | (apply RunK.moveBs; exact rfl; exact rfl)
    | (apply RunK.assignBs; exact rfl; exact rfl)
    | (apply RunK.lss; exact rfl; exact rfl; exact rfl)
    | (apply Wt.cond; exact rfl; all_goals (intro hg; (first | exact absurd hg (by decide) | skip); (first | (with_reducible replace hg := not_t hg) | (with_reducible replace hg := not_f hg) | skip); (first | (with_reducible replace hg := dec_t hg) | (with_reducible replace hg := dec_f hg) | skip); (first | (with_reducible exact absurd rfl hg) | skip); (repeat rw [List.length_map] at hg); try (exfalso; omega))))
      apply ResOk.s1; exact rfl; exact rfl
end Go.Proofs.Ytfacimebfdeaeaa
