/- The library's small functions at integers. No condition. -/
import Derived.Test.YtfokjpmcifkoeaaCE0
import Derived.Test.YtfokjpmcifkoeaaSort
namespace Go.Proofs.Ytfokjpmcifkoeaa
open Pv Go.RowKit Scc
set_option maxRecDepth 100000 in
theorem slIndex (l : List Int) (x : Int) (hl : l.length < 1000000000000000) (k : Nat) (hk : l[k]? = some x) (hno : ∀ j, j < k → l[j]? ≠ some x) : Pure Try.prog 49 [ints l, .v (.int .i64 x)] (.s (.v (.int .i64 k))) := by
  have hkl := lt_of_get hk
  refine pure_of_wt Try.func49 rfl (by decide) _ Try.ntmps49 rfl Try.results49 fun w0 => ?_
  repeat' (first
    | refine Wt.seq ?_
    | (apply Wt.regionK; exact rfl)
    | refine Wt.block ?_
    | refine RunK.nil ?_
    | (apply RunK.moveV; exact rfl; exact rfl)
    | (apply RunK.assignV; exact rfl; exact rfl)
    | (apply RunK.moveS; exact rfl; exact rfl)
    | (apply RunK.len; exact rfl; exact rfl))
  refine Wt.loop (fun j : Nat => ⟨[(0, .s (ints l)), (1, .s (.v (.int .i64 x))), (6, .s (ints l)), (7, .s (.v (.int .i64 l.length))), (8, .s (.v (.int .i64 j)))], []⟩) (fun j => j ≤ k) (fun j => l.length - j) 0 (Nat.zero_le _) ?_ ?_
  · (refine Le.mk ?_ ?_; (repeat' (first | exact LeEnv.done | refine LeEnv.cons ?_ ?_ | exact PVLe.refl _ | exact PVLe.s (SVLe.nil _ _ _) | exact PVLe.s (SVLe.no _ _ _ _) | (refine PVLe.int ?_; first | rfl | omega | (simp; done) | (simp; omega)) | (refine PVLe.els ?_; first | rfl | assumption | (simp; done)) | (refine PVLe.bool ?_; first | rfl | assumption) | (refine PVLe.bsl ?_; first | rfl | assumption | (simp; done))));  (repeat' (first | exact LeBox.done | refine LeBox.cons ?_ ?_ | exact rfl)))
  · intro j hj
    obtain ⟨y, hy⟩ := exists_at (l := l) (k := j) (by omega)
    have hx := get_map (f := ival) hy
    by_cases hjk : j = k
    · subst hjk
      rw [hk] at hy; injection hy with hy; subst hy
      repeat' (first
    | refine Wt.seq ?_
    | (apply Wt.regionK; exact rfl)
    | refine Wt.ret ?_
    | refine Wt.block ?_
    | refine Wt.skip ?_
    | refine RunK.nil ?_
    | (apply RunK.moveV; exact rfl; exact rfl)
    | (apply RunK.index; exact rfl; exact rfl; exact rfl; (first | exact rfl | exact (rfl : (0 : Int) = ((0 : Nat) : Int)) | exact (rfl : (1 : Int) = ((1 : Nat) : Int)) | exact (rfl : (2 : Int) = ((2 : Nat) : Int)) | exact (rfl : (3 : Int) = ((3 : Nat) : Int)) | assumption); (first | omega | exact lt_of_get ‹_› | (rw [List.length_map]; omega) | (simp; omega)))
    | (apply RunK.loadE1; exact rfl; exact rfl; assumption; exact rfl)
    | (apply RunK.assignV; exact rfl; exact rfl)
    | (apply RunK.moveS; exact rfl; exact rfl)
    | (apply RunK.lss; exact rfl; exact rfl; exact rfl)
    | (apply RunK.eql; exact rfl; exact rfl; exact rfl)
    | (apply Wt.cond; exact rfl; all_goals (intro hg; (first | exact absurd hg (by decide) | skip); (first | (with_reducible replace hg := not_t hg) | (with_reducible replace hg := not_f hg) | skip); (first | (with_reducible replace hg := dec_t hg) | (with_reducible replace hg := dec_f hg) | skip); (first | (with_reducible exact absurd rfl hg) | skip); (repeat rw [List.length_map] at hg); try (exfalso; omega))))
      all_goals (apply ResOk.v1; exact rfl; exact rfl)
    · have hne : ¬ x = y := fun e => hno j (by omega) (by rw [hy, e])
      repeat' (first
    | refine Wt.seq ?_
    | (apply Wt.regionK; exact rfl)
    | refine Wt.block ?_
    | refine Wt.skip ?_
    | refine RunK.nil ?_
    | (apply RunK.moveV; exact rfl; exact rfl)
    | (apply RunK.index; exact rfl; exact rfl; exact rfl; (first | exact rfl | exact (rfl : (0 : Int) = ((0 : Nat) : Int)) | exact (rfl : (1 : Int) = ((1 : Nat) : Int)) | exact (rfl : (2 : Int) = ((2 : Nat) : Int)) | exact (rfl : (3 : Int) = ((3 : Nat) : Int)) | assumption); (first | omega | exact lt_of_get ‹_› | (rw [List.length_map]; omega) | (simp; omega)))
    | (apply RunK.loadE1; exact rfl; exact rfl; assumption; exact rfl)
    | (apply RunK.assignV; exact rfl; exact rfl)
    | (apply RunK.moveS; exact rfl; exact rfl)
    | (apply RunK.lss; exact rfl; exact rfl; exact rfl)
    | (apply RunK.eql; exact rfl; exact rfl; exact rfl)
    | (apply RunK.add; exact rfl; exact rfl; exact rfl; (first | omega | (simp only [List.length_map]; omega)))
    | (apply Wt.cond; exact rfl; all_goals (intro hg; (first | exact absurd hg (by decide) | skip); (first | (with_reducible replace hg := not_t hg) | (with_reducible replace hg := not_f hg) | skip); (first | (with_reducible replace hg := dec_t hg) | (with_reducible replace hg := dec_f hg) | skip); (first | (with_reducible exact absurd rfl hg) | skip); (repeat rw [List.length_map] at hg); try (exfalso; omega))))
      refine ⟨j + 1, by omega, by omega, ?_⟩
      (refine Le.mk ?_ ?_; (repeat' (first | exact LeEnv.done | refine LeEnv.cons ?_ ?_ | exact PVLe.refl _ | exact PVLe.s (SVLe.nil _ _ _) | exact PVLe.s (SVLe.no _ _ _ _) | (refine PVLe.int ?_; first | rfl | omega | (simp; done) | (simp; omega)) | (refine PVLe.els ?_; first | rfl | assumption | (simp; done)) | (refine PVLe.bool ?_; first | rfl | assumption) | (refine PVLe.bsl ?_; first | rfl | assumption | (simp; done))));  (repeat' (first | exact LeBox.done | refine LeBox.cons ?_ ?_ | exact rfl)))
set_option maxRecDepth 100000 in
theorem slIndexNo (l : List Int) (x : Int) (hl : l.length < 1000000000000000) (hno : x ∉ l) : Pure Try.prog 49 [ints l, .v (.int .i64 x)] (.s (.v (.int .i64 (-1)))) := by
  refine pure_of_wt Try.func49 rfl (by decide) _ Try.ntmps49 rfl Try.results49 fun w0 => ?_
  repeat' (first
    | refine Wt.seq ?_
    | (apply Wt.regionK; exact rfl)
    | refine Wt.block ?_
    | refine RunK.nil ?_
    | (apply RunK.moveV; exact rfl; exact rfl)
    | (apply RunK.assignV; exact rfl; exact rfl)
    | (apply RunK.moveS; exact rfl; exact rfl)
    | (apply RunK.len; exact rfl; exact rfl))
  refine Wt.loop (fun j : Nat => ⟨[(0, .s (ints l)), (1, .s (.v (.int .i64 x))), (6, .s (ints l)), (7, .s (.v (.int .i64 l.length))), (8, .s (.v (.int .i64 j)))], []⟩) (fun j => j ≤ l.length) (fun j => l.length - j) 0 (Nat.zero_le _) ?_ ?_
  · (refine Le.mk ?_ ?_; (repeat' (first | exact LeEnv.done | refine LeEnv.cons ?_ ?_ | exact PVLe.refl _ | exact PVLe.s (SVLe.nil _ _ _) | exact PVLe.s (SVLe.no _ _ _ _) | (refine PVLe.int ?_; first | rfl | omega | (simp; done) | (simp; omega)) | (refine PVLe.els ?_; first | rfl | assumption | (simp; done)) | (refine PVLe.bool ?_; first | rfl | assumption) | (refine PVLe.bsl ?_; first | rfl | assumption | (simp; done))));  (repeat' (first | exact LeBox.done | refine LeBox.cons ?_ ?_ | exact rfl)))
  · intro j hj
    by_cases hjl : j < l.length
    · obtain ⟨y, hy⟩ := exists_at hjl
      have hx := get_map (f := ival) hy
      have hne : ¬ x = y := fun e => hno (by rw [e]; exact List.mem_of_getElem? hy)
      repeat' (first
    | refine Wt.seq ?_
    | (apply Wt.regionK; exact rfl)
    | refine Wt.block ?_
    | refine Wt.skip ?_
    | refine RunK.nil ?_
    | (apply RunK.moveV; exact rfl; exact rfl)
    | (apply RunK.index; exact rfl; exact rfl; exact rfl; (first | exact rfl | exact (rfl : (0 : Int) = ((0 : Nat) : Int)) | exact (rfl : (1 : Int) = ((1 : Nat) : Int)) | exact (rfl : (2 : Int) = ((2 : Nat) : Int)) | exact (rfl : (3 : Int) = ((3 : Nat) : Int)) | assumption); (first | omega | exact lt_of_get ‹_› | (rw [List.length_map]; omega) | (simp; omega)))
    | (apply RunK.loadE1; exact rfl; exact rfl; assumption; exact rfl)
    | (apply RunK.assignV; exact rfl; exact rfl)
    | (apply RunK.moveS; exact rfl; exact rfl)
    | (apply RunK.lss; exact rfl; exact rfl; exact rfl)
    | (apply RunK.eql; exact rfl; exact rfl; exact rfl)
    | (apply RunK.add; exact rfl; exact rfl; exact rfl; (first | omega | (simp only [List.length_map]; omega)))
    | (apply Wt.cond; exact rfl; all_goals (intro hg; (first | exact absurd hg (by decide) | skip); (first | (with_reducible replace hg := not_t hg) | (with_reducible replace hg := not_f hg) | skip); (first | (with_reducible replace hg := dec_t hg) | (with_reducible replace hg := dec_f hg) | skip); (first | (with_reducible exact absurd rfl hg) | skip); (repeat rw [List.length_map] at hg); try (exfalso; omega))))
      refine ⟨j + 1, hjl, by omega, ?_⟩
      (refine Le.mk ?_ ?_; (repeat' (first | exact LeEnv.done | refine LeEnv.cons ?_ ?_ | exact PVLe.refl _ | exact PVLe.s (SVLe.nil _ _ _) | exact PVLe.s (SVLe.no _ _ _ _) | (refine PVLe.int ?_; first | rfl | omega | (simp; done) | (simp; omega)) | (refine PVLe.els ?_; first | rfl | assumption | (simp; done)) | (refine PVLe.bool ?_; first | rfl | assumption) | (refine PVLe.bsl ?_; first | rfl | assumption | (simp; done))));  (repeat' (first | exact LeBox.done | refine LeBox.cons ?_ ?_ | exact rfl)))
    · repeat' (first
    | refine Wt.seq ?_
    | (apply Wt.regionK; exact rfl)
    | refine Wt.ret ?_
    | refine Wt.exit ?_
    | refine RunK.nil ?_
    | (apply RunK.assignV; exact rfl; exact rfl)
    | (apply RunK.lss; exact rfl; exact rfl; exact rfl)
    | (apply Wt.cond; exact rfl; all_goals (intro hg; (first | exact absurd hg (by decide) | skip); (first | (with_reducible replace hg := not_t hg) | (with_reducible replace hg := not_f hg) | skip); (first | (with_reducible replace hg := dec_t hg) | (with_reducible replace hg := dec_f hg) | skip); (first | (with_reducible exact absurd rfl hg) | skip); (repeat rw [List.length_map] at hg); try (exfalso; omega))))
      all_goals (apply ResOk.v1; exact rfl; exact rfl)
set_option maxRecDepth 100000 in
theorem slContains (l : List Int) (x : Int) (hl : l.length < 1000000000000000) : Pure Try.prog 54 [ints l, .v (.int .i64 x)] (.s (.v (.bool (decide (x ∈ l))))) := by
  by_cases hm : x ∈ l
  · have hlt : l.idxOf x < l.length := List.idxOf_lt_length_iff.2 hm
    have hc := slIndex l x hl (l.idxOf x) (by rw [List.getElem?_eq_getElem hlt, List.getElem_idxOf]) (fun j hj e => by
      have := List.not_of_lt_findIdx (p := (· == x)) (xs := l) (i := j) hj
      have hjl := lt_of_get e
      rw [List.getElem?_eq_getElem hjl] at e
      injection e with e
      simp [e] at this)
    refine pure_of_wt Try.func54 rfl (by decide) _ Try.ntmps54 rfl Try.results54 fun w0 => ?_
    repeat' (first
    | (apply RunK.callS; exact rfl; exact rfl; exact hc; (repeat (first | exact ArgsLe.nil | refine ArgsLe.cons ?_ ?_ | exact ArgLe.v _ | exact ArgLe.sl _ _ _ _ | exact ArgLe.nil _ | exact ArgLe.nil' | exact ArgLe.nsl _ _ _ _ _ | exact ArgLe.nsn _ | (apply ArgLe.bsl; exact rfl; (first | exact rfl | (rw [List.length_map]; done) | (simp only [List.length_map]; done) | (simp; done) | (simp; omega)); (first | assumption | exact map_len (fun _ => rfl))))); exact rfl)
    | refine Wt.seq ?_
    | (apply Wt.regionK; exact rfl)
    | refine Wt.ret ?_
    | refine RunK.nil ?_
    | (apply RunK.moveV; exact rfl; exact rfl)
    | (apply RunK.assignV; exact rfl; exact rfl)
    | (apply RunK.moveS; exact rfl; exact rfl)
    | (apply RunK.geq; exact rfl; exact rfl; exact rfl))
    apply ResOk.v1; exact rfl; refine bool_v ?_; rw [decide_eq_true hm]; exact decide_eq_true (by omega)
  · have hc := slIndexNo l x hl hm
    refine pure_of_wt Try.func54 rfl (by decide) _ Try.ntmps54 rfl Try.results54 fun w0 => ?_
    repeat' (first
    | (apply RunK.callS; exact rfl; exact rfl; exact hc; (repeat (first | exact ArgsLe.nil | refine ArgsLe.cons ?_ ?_ | exact ArgLe.v _ | exact ArgLe.sl _ _ _ _ | exact ArgLe.nil _ | exact ArgLe.nil' | exact ArgLe.nsl _ _ _ _ _ | exact ArgLe.nsn _ | (apply ArgLe.bsl; exact rfl; (first | exact rfl | (rw [List.length_map]; done) | (simp only [List.length_map]; done) | (simp; done) | (simp; omega)); (first | assumption | exact map_len (fun _ => rfl))))); exact rfl)
    | refine Wt.seq ?_
    | (apply Wt.regionK; exact rfl)
    | refine Wt.ret ?_
    | refine RunK.nil ?_
    | (apply RunK.moveV; exact rfl; exact rfl)
    | (apply RunK.assignV; exact rfl; exact rfl)
    | (apply RunK.moveS; exact rfl; exact rfl)
    | (apply RunK.geq; exact rfl; exact rfl; exact rfl))
    apply ResOk.v1; exact rfl; refine bool_v ?_; rw [decide_eq_false hm]; rfl
set_option maxRecDepth 100000 in
theorem slClone (l : List Int) (hl : l.length < 10000000000) (hne : l ≠ []) : Pure Try.prog 50 [ints l] (.s (intsR l)) := by
  have hne2 : l.map ival ≠ [] := fun h => hne (List.map_eq_nil_iff.1 h)
  refine pure_of_wt Try.func50 rfl (by decide) _ Try.ntmps50 rfl Try.results50 fun w0 => ?_
  repeat' (first
    | (apply RunK.eqlNilS; exact rfl; exact rfl; exact hne2; exact rfl) | (apply RunK.append; exact rfl; exact rfl; exact rfl; (first | exact ReadLe.sl _ _ _ _ | exact ReadLe.nil _); exact rfl; exact one_map (fun _ => rfl) _; (simp only [List.length_map, List.length_nil]; omega))
    | refine Wt.seq ?_
    | (apply Wt.regionK; exact rfl)
    | refine Wt.ret ?_
    | refine Wt.skip ?_
    | refine RunK.nil ?_
    | (apply RunK.moveS; exact rfl; exact rfl)
    | (apply RunK.assignS; exact rfl; exact rfl)
    | (apply RunK.assignN; exact rfl; exact rfl)
    | (apply RunK.rows; exact rfl; exact rfl; (repeat (first | exact PartsOk.nil | (apply PartsOk.cons; exact rfl) | (apply PartsOk.consN; exact rfl))); (repeat (first | exact Rows.nil _ | (apply Rows.cons; (first | exact Cells.agg _ | exact Cells.int _ _ | exact Cells.bool _ | exact Cells.one _ rfl); exact rfl))); exact rfl; exact rfl)
    | (apply Wt.cond; exact rfl; all_goals (intro hg; (first | exact absurd hg (by decide) | skip); (first | (with_reducible replace hg := not_t hg) | (with_reducible replace hg := not_f hg) | skip); (first | (with_reducible replace hg := dec_t hg) | (with_reducible replace hg := dec_f hg) | skip); (first | (with_reducible exact absurd rfl hg) | skip); (repeat rw [List.length_map] at hg); try (exfalso; omega))))
  apply ResOk.s1; exact rfl; exact rfl
end Go.Proofs.Ytfokjpmcifkoeaa
