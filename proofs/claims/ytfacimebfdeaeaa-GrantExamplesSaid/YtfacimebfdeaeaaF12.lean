/- The walk of region.Over. -/
import Derived.Test.YtfacimebfdeaeaaF11
import Derived.Test.YtfacimebfdeaeaaPartLaw
import Derived.Test.YtfacimebfdeaeaaF8
namespace Go.Proofs.Ytfacimebfdeaeaa
open Pv Go.RowKit

def rightsOf (a : List Rule) (p : Part) : Rights := ((a[p.which.1.toNat]?).map Rule.rights).getD noRights
def overR (r : Rect) (a : List Rule) : Rights := ⟨meetN ((partsL r a []).map fun p => (rightsOf a p).read), meetN ((partsL r a []).map fun p => (rightsOf a p).write), meetN ((partsL r a []).map fun p => (rightsOf a p).own)⟩
def overS (r : Rect) (a : List Rule) : Rights × Int := if regE r a = 0 then (overR r a, 0) else (noRights, regE r a)
set_option maxRecDepth 100000 in
theorem regE_iff {r : Rect} {a : List Rule} : regE r a = 0 ↔ rectOk r = true ∧ chkE a = 0 := by
  unfold regE
  cases rectOk r <;> simp
set_option maxRecDepth 100000 in
/-- The rule of a part. -/
theorem part_rule {r : Rect} (hr : rectOk r = true) {a b : List Rule} (ha : chkE a = 0) (hb : ∀ y ∈ b, rectOk y.rect = true) {p : Part} (hp : p ∈ partsL r a b) : ∃ (j : Nat) (q : Rule), p.which.1 = (j : Int) ∧ a[j]? = some q ∧ ∀ x, hasB p.r x = true → lastN x a a.length = j := by
  obtain ⟨h1, h2, _⟩ := (parts_spec hr (good_rects ha) hb).1 p hp
  have ho := ok_iff.1 h1
  have hx : hasB p.r ⟨p.r.c1, p.r.r1⟩ = true := has_iff.2 (by simp only; omega)
  have hlt := lastN_lt (x := ⟨p.r.c1, p.r.r1⟩) (l := a) (List.length_pos_iff.2 (chkE_ne ha))
  obtain ⟨q, hq⟩ := exists_at hlt
  refine ⟨_, q, (h2 _ hx).1.symm, hq, fun x hxx => ?_⟩
  have e1 := (h2 _ hx).1
  have e2 := (h2 _ hxx).1
  omega
abbrev ownU (τ : Nat) (l : List Nat) : SV := .sl (some τ) (.front 38) 1 (l.map uval)
set_option maxRecDepth 100000 in
set_option maxHeartbeats 1000000 in
theorem regOver (r : Rect) (a : List Rule) (hL : a.length < 1000000000000000) (hok : ∀ x ∈ a, x.ok) : Pure Try.prog 24 [.v r.v, rules a] (.tup [.v (overS r a).1.v, .v (.int .i64 (overS r a).2)]) := by
  have hc := regCheck r a hL hok
  by_cases he : regE r a = 0
  · obtain ⟨hr, hch⟩ := regE_iff.1 he
    have h64 := ((chkE_iff a).1 hch).2.1
    rw [he] at hc
    have hsp := parts_spec hr (good_rects hch) (b := []) (fun y hy => by cases hy)
    have hpw := parts_walk r hr a [] (by omega) (by simp) hsp.2.2
    rw [show overS r a = (overR r a, 0) by simp [overS, he]]
    unfold overR
    have hLl : (partsL r a []).length ≤ 4001 * 4001 := by
      have na := noteC_len r a
      have ma := noteR_len r a
      have h1 := bandsL_len r.c1 r.c2 (noteC r a ++ noteC r [])
      have h2 := bandsL_len r.r1 r.r2 (noteR r a ++ noteR r [])
      rw [List.length_append] at h1 h2
      have h3 : (noteC r []).length = 0 := rfl
      have h4 : (noteR r []).length = 0 := rfl
      exact Nat.le_trans (partRows_len a [] _) (Nat.mul_le_mul (by unfold rowsP; omega) (by unfold colsP; omega))
    have hrule : ∀ p ∈ partsL r a [], ∃ (j : Nat) (q : Rule), p.which.1 = (j : Int) ∧ a[j]? = some q ∧ rightsOf a p = q.rights := fun p hp => by
      obtain ⟨j, q, h1, h2, _⟩ := part_rule hr hch (fun y hy => by cases hy) hp
      exact ⟨j, q, h1, h2, by unfold rightsOf; rw [h1, Int.toNat_natCast, h2]; rfl⟩
    generalize partsL r a [] = L at *
    have lt : ∀ p ∈ L, (rightsOf a p).ok := fun p hp => by
      obtain ⟨j, q, h1, h2, h3⟩ := hrule p hp
      rw [h3]; exact (hok q (List.mem_of_getElem? h2)).rights
    have hm1 := groupMeet (L.map fun p => (rightsOf a p).read) (fun n hn => by obtain ⟨p, hp, rfl⟩ := List.mem_map.1 hn; exact (lt p hp).read) (by rw [List.length_map]; omega)
    have hm2 := groupMeet (L.map fun p => (rightsOf a p).write) (fun n hn => by obtain ⟨p, hp, rfl⟩ := List.mem_map.1 hn; exact (lt p hp).write) (by rw [List.length_map]; omega)
    have hm3 := groupMeet (L.map fun p => (rightsOf a p).own) (fun n hn => by obtain ⟨p, hp, rfl⟩ := List.mem_map.1 hn; exact (lt p hp).own) (by rw [List.length_map]; omega)
    refine pure_of_wt Try.func24 rfl (by decide) _ Try.ntmps24 rfl Try.results24 fun w0 => ?_
    repeat' (first
    | (apply RunK.callS; exact rfl; exact rfl; exact hc; (repeat (first | exact ArgsLe.nil | refine ArgsLe.cons ?_ ?_ | exact ArgLe.v _ | exact ArgLe.sl _ _ _ _ | exact ArgLe.nil _ | exact ArgLe.nil' | exact ArgLe.nsl _ _ _ _ _ | exact ArgLe.nsn _ | (apply ArgLe.bsl; exact rfl; (first | exact rfl | (rw [List.length_map]; done) | (simp only [List.length_map]; done) | (simp; done) | (simp; omega)); (first | assumption | exact map_len (fun _ => rfl))))); exact rfl) | (apply RunK.callS; exact rfl; exact rfl; exact hpw; (repeat (first | exact ArgsLe.nil | refine ArgsLe.cons ?_ ?_ | exact ArgLe.v _ | exact ArgLe.sl _ _ _ _ | exact ArgLe.nil _ | exact ArgLe.nil' | exact ArgLe.nsl _ _ _ _ _ | exact ArgLe.nsn _ | (apply ArgLe.bsl; exact rfl; (first | exact rfl | (rw [List.length_map]; done) | (simp only [List.length_map]; done) | (simp; done) | (simp; omega)); (first | assumption | exact map_len (fun _ => rfl))))); exact rfl)
    | refine Wt.seq ?_
    | (apply Wt.regionK; exact rfl)
    | refine Wt.block ?_
    | refine Wt.skip ?_
    | refine RunK.nil ?_
    | (apply RunK.moveV; exact rfl; exact rfl)
    | (apply RunK.assignV; exact rfl; exact rfl)
    | (apply RunK.box; exact rfl; exact rfl; apply Cells.eq; (first | exact Cells.agg _ | exact Cells.int _ _ | exact Cells.bool _ | exact Cells.one _ rfl); exact rfl)
    | (apply RunK.alloc; exact rfl; apply Cells.eq; (first | exact Cells.agg _ | exact Cells.int _ _ | exact Cells.bool _ | exact Cells.one _ rfl); exact rfl)
    | (apply RunK.moveS; exact rfl; exact rfl)
    | (apply RunK.assignN; exact rfl; exact rfl)
    | (apply RunK.loadR; exact rfl; exact rfl; exact rfl; exact rfl; (apply cut_eq; repeat (first | exact Cut.nil _ | apply Cut.cons | apply Cut.skip)))
    | (apply RunK.neq; exact rfl; exact rfl; exact rfl)
    | (apply RunK.len; exact rfl; exact rfl)
    | (apply Wt.cond; exact rfl; all_goals (intro hg; (first | exact absurd hg (by decide) | skip); (first | (with_reducible replace hg := not_t hg) | (with_reducible replace hg := not_f hg) | skip); (first | (with_reducible replace hg := dec_t hg) | (with_reducible replace hg := dec_f hg) | skip); (first | (with_reducible exact absurd rfl hg) | skip); (repeat rw [List.length_map] at hg); try (exfalso; omega))))
    refine Wt.loop (fun k : Nat => ⟨[(1, .s (rules a)), (4, .box 4 0), (7, .s (ownU 500 ((L.take k).map fun p => (rightsOf a p).read))), (8, .s (ownU 501 ((L.take k).map fun p => (rightsOf a p).write))), (9, .s (ownU 502 ((L.take k).map fun p => (rightsOf a p).own))), (22, .s (.sl (some 22) (.front 108) 6 (L.map Part.vals))), (23, .s (.v (.int .i64 L.length))), (24, .s (.v (.int .i64 k)))], [(4, noRights.vals)]⟩) (fun k => k ≤ L.length) (fun k => L.length - k) 0 (Nat.zero_le _) ?_ ?_
    · have e0 : (L.map Part.vals).length = L.length := List.length_map ..
      (refine Le.mk ?_ ?_; (repeat' (first | exact LeEnv.done | refine LeEnv.cons ?_ ?_ | exact PVLe.refl _ | exact PVLe.s (SVLe.nil _ _ _) | exact PVLe.s (SVLe.no _ _ _ _) | (refine PVLe.int ?_; first | rfl | omega | (simp; done) | (simp; omega)) | (refine PVLe.els ?_; first | rfl | assumption | (simp; done)) | (refine PVLe.bool ?_; first | rfl | assumption) | (refine PVLe.bsl ?_; first | rfl | assumption | (simp; done))));  (repeat' (first | exact LeBox.done | refine LeBox.cons ?_ ?_ | exact rfl)))
    · rintro k hk
      by_cases hlt : k < L.length
      · obtain ⟨p, hp⟩ := exists_at hlt
        have hx := get_map (f := Part.vals) hp
        obtain ⟨j, q, hj, hq, hqr⟩ := hrule p (List.mem_of_getElem? hp)
        have hx2 := get_map (f := Rule.vals) hq
        have s1 := map_succ (f := fun p => (rightsOf a p).read) hp
        have s2 := map_succ (f := fun p => (rightsOf a p).write) hp
        have s3 := map_succ (f := fun p => (rightsOf a p).own) hp
        simp only [hqr] at s1 s2 s3
        have n1 : (List.map uval ((L.take k).map fun p => (rightsOf a p).read)).length ≤ k := by rw [List.length_map, List.length_map, List.length_take]; omega
        have n2 : (List.map uval ((L.take k).map fun p => (rightsOf a p).write)).length ≤ k := by rw [List.length_map, List.length_map, List.length_take]; omega
        have n3 : (List.map uval ((L.take k).map fun p => (rightsOf a p).own)).length ≤ k := by rw [List.length_map, List.length_map, List.length_take]; omega
        repeat' (first
    | (apply RunK.loadER; exact rfl; exact rfl; exact hx; exact rfl; (apply cut_eq; repeat (first | exact Cut.nil _ | apply Cut.cons | apply Cut.skip))) | (apply RunK.loadER; exact rfl; exact rfl; exact hx2; exact rfl; (apply cut_eq; repeat (first | exact Cut.nil _ | apply Cut.cons | apply Cut.skip))) | (apply RunK.index; exact rfl; exact rfl; exact rfl; exact hj; (rw [List.length_map]; exact lt_of_get hq)) | (apply RunK.append; exact rfl; exact rfl; exact rfl; (first | exact ReadLe.sl _ _ _ _ | exact ReadLe.nil _); exact rfl; exact one_rows rfl; (simp only [List.length_cons, List.length_nil]; omega))
    | refine Wt.seq ?_
    | (apply Wt.regionK; exact rfl)
    | (apply Wt.regionD; kernel_rfl; kernel_rfl; exact rfl; exact rfl)
    | refine Wt.block ?_
    | refine Wt.skip ?_
    | refine RunK.nil ?_
    | (apply RunK.moveV; exact rfl; exact rfl)
    | (apply RunK.index; exact rfl; exact rfl; exact rfl; (first | exact rfl | exact (rfl : (0 : Int) = ((0 : Nat) : Int)) | exact (rfl : (1 : Int) = ((1 : Nat) : Int)) | exact (rfl : (2 : Int) = ((2 : Nat) : Int)) | exact (rfl : (3 : Int) = ((3 : Nat) : Int)) | assumption); (first | omega | exact lt_of_get ‹_› | (rw [List.length_map]; omega) | (simp; omega)))
    | (apply RunK.indexB; exact rfl; exact rfl; exact rfl; (first | exact rfl | exact (rfl : (0 : Int) = ((0 : Nat) : Int)) | exact (rfl : (1 : Int) = ((1 : Nat) : Int)) | exact (rfl : (2 : Int) = ((2 : Nat) : Int)) | exact (rfl : (3 : Int) = ((3 : Nat) : Int)) | assumption); exact rfl)
    | (apply RunK.load1; exact rfl; exact rfl; exact rfl; exact rfl)
    | (apply RunK.field; exact rfl; exact rfl)
    | (apply RunK.fieldE; exact rfl; exact rfl)
    | (apply RunK.alloc; exact rfl; apply Cells.eq; (first | exact Cells.agg _ | exact Cells.int _ _ | exact Cells.bool _ | exact Cells.one _ rfl); exact rfl)
    | (apply RunK.moveS; exact rfl; exact rfl)
    | (apply RunK.assignS; exact rfl; exact rfl)
    | (apply RunK.lss; exact rfl; exact rfl; exact rfl)
    | (apply RunK.add; exact rfl; exact rfl; exact rfl; (first | omega | (simp only [List.length_map]; omega)))
    | (apply RunK.rows; exact rfl; exact rfl; (repeat (first | exact PartsOk.nil | (apply PartsOk.cons; exact rfl) | (apply PartsOk.consN; exact rfl))); (repeat (first | exact Rows.nil _ | (apply Rows.cons; (first | exact Cells.agg _ | exact Cells.int _ _ | exact Cells.bool _ | exact Cells.one _ rfl); exact rfl))); exact rfl; exact rfl)
    | (apply RunK.store; exact rfl; exact rfl; exact rfl; exact rfl; exact rfl; exact rfl; exact rfl; apply upd_eq; exact rfl; (first | exact Cells.agg _ | exact Cells.int _ _ | exact Cells.bool _ | exact Cells.one _ rfl); (repeat (first | exact Upd.nil _ | apply Upd.cons | apply Upd.skip)))
    | (apply Wt.cond; exact rfl; all_goals (intro hg; (first | exact absurd hg (by decide) | skip); (first | (with_reducible replace hg := not_t hg) | (with_reducible replace hg := not_f hg) | skip); (first | (with_reducible replace hg := dec_t hg) | (with_reducible replace hg := dec_f hg) | skip); (first | (with_reducible exact absurd rfl hg) | skip); (repeat rw [List.length_map] at hg); try (exfalso; omega))))
        have e1 : List.map uval ((L.take k).map fun p => (rightsOf a p).read) ++ [[.int .u64 q.rights.read]] = List.map uval ((L.take (k + 1)).map fun p => (rightsOf a p).read) := by rw [s1, List.map_append]; rfl
        have e2 : List.map uval ((L.take k).map fun p => (rightsOf a p).write) ++ [[.int .u64 q.rights.write]] = List.map uval ((L.take (k + 1)).map fun p => (rightsOf a p).write) := by rw [s2, List.map_append]; rfl
        have e3 : List.map uval ((L.take k).map fun p => (rightsOf a p).own) ++ [[.int .u64 q.rights.own]] = List.map uval ((L.take (k + 1)).map fun p => (rightsOf a p).own) := by rw [s3, List.map_append]; rfl
        refine ⟨k + 1, hlt, by omega, ?_⟩
        (refine Le.mk ?_ ?_; (repeat' (first | exact LeEnv.done | refine LeEnv.cons ?_ ?_ | exact PVLe.refl _ | exact PVLe.s (SVLe.nil _ _ _) | exact PVLe.s (SVLe.no _ _ _ _) | (refine PVLe.int ?_; first | rfl | omega | (simp; done) | (simp; omega)) | (refine PVLe.els ?_; first | rfl | assumption | (simp; done)) | (refine PVLe.bool ?_; first | rfl | assumption) | (refine PVLe.bsl ?_; first | rfl | assumption | (simp; done))));  (repeat' (first | exact LeBox.done | refine LeBox.cons ?_ ?_ | exact rfl)))
      · obtain rfl : k = L.length := by omega
        rw [List.take_length]
        repeat' (first
    | (apply RunK.callS; exact rfl; exact rfl; exact hm1; (repeat (first | exact ArgsLe.nil | refine ArgsLe.cons ?_ ?_ | exact ArgLe.v _ | exact ArgLe.sl _ _ _ _ | exact ArgLe.nil _ | exact ArgLe.nil' | exact ArgLe.nsl _ _ _ _ _ | exact ArgLe.nsn _ | (apply ArgLe.bsl; exact rfl; (first | exact rfl | (rw [List.length_map]; done) | (simp only [List.length_map]; done) | (simp; done) | (simp; omega)); (first | assumption | exact map_len (fun _ => rfl))))); exact rfl) | (apply RunK.callS; exact rfl; exact rfl; exact hm2; (repeat (first | exact ArgsLe.nil | refine ArgsLe.cons ?_ ?_ | exact ArgLe.v _ | exact ArgLe.sl _ _ _ _ | exact ArgLe.nil _ | exact ArgLe.nil' | exact ArgLe.nsl _ _ _ _ _ | exact ArgLe.nsn _ | (apply ArgLe.bsl; exact rfl; (first | exact rfl | (rw [List.length_map]; done) | (simp only [List.length_map]; done) | (simp; done) | (simp; omega)); (first | assumption | exact map_len (fun _ => rfl))))); exact rfl) | (apply RunK.callS; exact rfl; exact rfl; exact hm3; (repeat (first | exact ArgsLe.nil | refine ArgsLe.cons ?_ ?_ | exact ArgLe.v _ | exact ArgLe.sl _ _ _ _ | exact ArgLe.nil _ | exact ArgLe.nil' | exact ArgLe.nsl _ _ _ _ _ | exact ArgLe.nsn _ | (apply ArgLe.bsl; exact rfl; (first | exact rfl | (rw [List.length_map]; done) | (simp only [List.length_map]; done) | (simp; done) | (simp; omega)); (first | assumption | exact map_len (fun _ => rfl))))); exact rfl)
    | refine Wt.seq ?_
    | (apply Wt.regionK; exact rfl)
    | refine Wt.ret ?_
    | refine Wt.exit ?_
    | refine RunK.nil ?_
    | (apply RunK.assignV; exact rfl; exact rfl)
    | (apply RunK.moveS; exact rfl; exact rfl)
    | (apply RunK.lss; exact rfl; exact rfl; exact rfl)
    | (apply RunK.build; exact rfl; (repeat (first | exact PartsOk.nil | (apply PartsOk.cons; exact rfl) | (apply PartsOk.consN; exact rfl))); (repeat (first | exact fill_nil | (apply fill_cons; exact rfl; (first | exact Cells.agg _ | exact Cells.int _ _ | exact Cells.bool _ | exact Cells.one _ rfl); exact rfl; (repeat (first | exact Upd.nil _ | apply Upd.cons | apply Upd.skip))))))
    | (apply RunK.store; exact rfl; exact rfl; exact rfl; exact rfl; exact rfl; exact rfl; exact rfl; apply upd_eq; exact rfl; (first | exact Cells.agg _ | exact Cells.int _ _ | exact Cells.bool _ | exact Cells.one _ rfl); (repeat (first | exact Upd.nil _ | apply Upd.cons | apply Upd.skip)))
    | (apply Wt.cond; exact rfl; all_goals (intro hg; (first | exact absurd hg (by decide) | skip); (first | (with_reducible replace hg := not_t hg) | (with_reducible replace hg := not_f hg) | skip); (first | (with_reducible replace hg := dec_t hg) | (with_reducible replace hg := dec_f hg) | skip); (first | (with_reducible exact absurd rfl hg) | skip); (repeat rw [List.length_map] at hg); try (exfalso; omega))))
        apply ResOk.cv; exact rfl; exact rfl; exact loadRow rfl rfl; exact rfl; exact rfl; exact rfl
  · rw [show overS r a = (noRights, regE r a) by simp [overS, he]]
    refine pure_of_wt Try.func24 rfl (by decide) _ Try.ntmps24 rfl Try.results24 fun w0 => ?_
    repeat' (first
    | (apply RunK.callS; exact rfl; exact rfl; exact hc; (repeat (first | exact ArgsLe.nil | refine ArgsLe.cons ?_ ?_ | exact ArgLe.v _ | exact ArgLe.sl _ _ _ _ | exact ArgLe.nil _ | exact ArgLe.nil' | exact ArgLe.nsl _ _ _ _ _ | exact ArgLe.nsn _ | (apply ArgLe.bsl; exact rfl; (first | exact rfl | (rw [List.length_map]; done) | (simp only [List.length_map]; done) | (simp; done) | (simp; omega)); (first | assumption | exact map_len (fun _ => rfl))))); exact rfl)
    | refine Wt.seq ?_
    | (apply Wt.regionK; exact rfl)
    | refine Wt.ret ?_
    | refine RunK.nil ?_
    | (apply RunK.moveV; exact rfl; exact rfl)
    | (apply RunK.assignV; exact rfl; exact rfl)
    | (apply RunK.box; exact rfl; exact rfl; apply Cells.eq; (first | exact Cells.agg _ | exact Cells.int _ _ | exact Cells.bool _ | exact Cells.one _ rfl); exact rfl)
    | (apply RunK.alloc; exact rfl; apply Cells.eq; (first | exact Cells.agg _ | exact Cells.int _ _ | exact Cells.bool _ | exact Cells.one _ rfl); exact rfl)
    | (apply RunK.moveS; exact rfl; exact rfl)
    | (apply RunK.loadR; exact rfl; exact rfl; exact rfl; exact rfl; (apply cut_eq; repeat (first | exact Cut.nil _ | apply Cut.cons | apply Cut.skip)))
    | (apply RunK.neq; exact rfl; exact rfl; exact rfl)
    | (apply RunK.build; exact rfl; (repeat (first | exact PartsOk.nil | (apply PartsOk.cons; exact rfl) | (apply PartsOk.consN; exact rfl))); (repeat (first | exact fill_nil | (apply fill_cons; exact rfl; (first | exact Cells.agg _ | exact Cells.int _ _ | exact Cells.bool _ | exact Cells.one _ rfl); exact rfl; (repeat (first | exact Upd.nil _ | apply Upd.cons | apply Upd.skip))))))
    | (apply RunK.store; exact rfl; exact rfl; exact rfl; exact rfl; exact rfl; exact rfl; exact rfl; apply upd_eq; exact rfl; (first | exact Cells.agg _ | exact Cells.int _ _ | exact Cells.bool _ | exact Cells.one _ rfl); (repeat (first | exact Upd.nil _ | apply Upd.cons | apply Upd.skip)))
    | (apply Wt.cond; exact rfl; all_goals (intro hg; (first | exact absurd hg (by decide) | skip); (first | (with_reducible replace hg := not_t hg) | (with_reducible replace hg := not_f hg) | skip); (first | (with_reducible replace hg := dec_t hg) | (with_reducible replace hg := dec_f hg) | skip); (first | (with_reducible exact absurd rfl hg) | skip); (repeat rw [List.length_map] at hg); try (exfalso; omega))))
    apply ResOk.cv; exact rfl; exact rfl; exact loadRow rfl rfl; exact rfl; exact rfl; exact rfl
end Go.Proofs.Ytfacimebfdeaeaa
