/- The walk of the law RegionEvery. -/
import Derived.Test.YtgljklggeopolaaF14
namespace Go.Proofs.Ytgljklggeopolaa
open Pv Go.RowKit

/-- What a row's first j addresses leave of s; what the first i rows leave of all. -/
def colAcc (g : Rights → Nat) (l : List Rule) (c1 row : Int) (s : Nat) : Nat → Nat
  | 0 => s
  | j + 1 => colAcc g l c1 row s j &&& g (atL l ⟨c1 + (j : Int), row⟩)
def rowAcc (g : Rights → Nat) (l : List Rule) (c1 r1 : Int) (nc : Nat) : Nat → Nat
  | 0 => 18446744073709551615
  | i + 1 => colAcc g l c1 (r1 + (i : Int)) (rowAcc g l c1 r1 nc i) nc
theorem colAcc_bit {g : Rights → Nat} {l : List Rule} {c1 row : Int} {s b : Nat} : ∀ {n : Nat}, (colAcc g l c1 row s n).testBit b = true ↔ s.testBit b = true ∧ ∀ j : Nat, j < n → (g (atL l ⟨c1 + (j : Int), row⟩)).testBit b = true
  | 0 => by simp [colAcc]
  | n + 1 => by
    rw [colAcc, Nat.testBit_and, Bool.and_eq_true, colAcc_bit]
    refine ⟨fun ⟨⟨h1, h2⟩, h3⟩ => ⟨h1, fun j hj => ?_⟩, fun ⟨h1, h2⟩ => ⟨⟨h1, fun j hj => h2 j (by omega)⟩, h2 n (by omega)⟩⟩
    by_cases e : j = n
    · subst e; exact h3
    · exact h2 j (by omega)
theorem rowAcc_bit {g : Rights → Nat} {l : List Rule} {c1 r1 : Int} {nc b : Nat} : ∀ {n : Nat}, (rowAcc g l c1 r1 nc n).testBit b = true ↔ b < 64 ∧ ∀ i : Nat, i < n → ∀ j : Nat, j < nc → (g (atL l ⟨c1 + (j : Int), r1 + (i : Int)⟩)).testBit b = true
  | 0 => by rw [rowAcc, full_bit]; simp
  | n + 1 => by
    rw [rowAcc, colAcc_bit, rowAcc_bit]
    refine ⟨fun ⟨⟨h1, h2⟩, h3⟩ => ⟨h1, fun i hi => ?_⟩, fun ⟨h1, h2⟩ => ⟨⟨h1, fun i hi => h2 i (by omega)⟩, h2 n (by omega)⟩⟩
    by_cases e : i = n
    · subst e; exact h3
    · exact h2 i (by omega)
theorem colAcc_lt {g : Rights → Nat} {l : List Rule} {c1 row : Int} {s : Nat} (h : s < 18446744073709551616) : ∀ n, colAcc g l c1 row s n < 18446744073709551616
  | 0 => h
  | n + 1 => Nat.lt_of_le_of_lt Nat.and_le_left (colAcc_lt h n)
theorem rowAcc_lt {g : Rights → Nat} {l : List Rule} {c1 r1 : Int} {nc : Nat} : ∀ n, rowAcc g l c1 r1 nc n < 18446744073709551616
  | 0 => (by decide : (18446744073709551615 : Nat) < 18446744073709551616)
  | n + 1 => colAcc_lt (rowAcc_lt n) nc
theorem rowAcc_over {g : Rights → Nat} {r : Rect} {l : List Rule} (hr : rectOk r = true) (hch : chkE l = 0) {nr nc : Nat} (hnr : (nr : Int) = r.r2 - r.r1 + 1) (hnc : (nc : Int) = r.c2 - r.c1 + 1) : rowAcc g l r.c1 r.r1 nc nr = overG g r l :=
  Nat.eq_of_testBit_eq fun b => by
    rw [Bool.eq_iff_iff, rowAcc_bit, overG_bit hr hch]
    refine and_congr_right fun _ => ⟨fun h x hx => ?_, fun h i hi j hj => h _ (has_iff.2 (by simp only; omega))⟩
    have hh := has_iff.1 hx
    have := h (x.row - r.r1).toNat (by omega) (x.col - r.c1).toNat (by omega)
    rwa [show r.c1 + ((x.col - r.c1).toNat : Int) = x.col by omega, show r.r1 + ((x.row - r.r1).toNat : Int) = x.row by omega] at this
theorem atS_ok {x : Ref} {l : List Rule} (hx : refOk x = true) (hch : chkE l = 0) : atS x l = (atL l x, 0) := by simp [atS, whichS, hx, hch, atL]

set_option maxRecDepth 100000 in
set_option maxHeartbeats 1000000 in
theorem lawEvery (r : Rect) (_ : r.ok) (l : List Rule) (hL : l.length * 56 ≤ 140737488351232) (hok : ∀ x ∈ l, x.ok) :
    Pure Try.prog 8 [.v r.v, rules l] (.s (.v (.bool true))) := by
  have hv := valid20 r l (by omega) hok
  by_cases hg1 : validL r l = true
  · rw [hg1] at hv
    obtain ⟨_, hch, hr⟩ := valid_iff.1 hg1
    have hro := ok_iff.1 hr
    have h1 := regOver r l (by omega) hok
    rw [overS_ok hr hch, overR_eq] at h1
    obtain ⟨nr, hnr⟩ : ∃ nr : Nat, (nr : Int) = r.r2 - r.r1 + 1 := ⟨(r.r2 - r.r1 + 1).toNat, by omega⟩
    obtain ⟨nc, hnc⟩ : ∃ nc : Nat, (nc : Int) = r.c2 - r.c1 + 1 := ⟨(r.c2 - r.c1 + 1).toNat, by omega⟩
    rw [← rowAcc_over hr hch hnr hnc, ← rowAcc_over hr hch hnr hnc, ← rowAcc_over hr hch hnr hnc] at h1
    have hmul : -9223372036854775808 ≤ (r.c2 - r.c1 + 1) * (r.r2 - r.r1 + 1) ∧ (r.c2 - r.c1 + 1) * (r.r2 - r.r1 + 1) ≤ 9223372036854775807 := by
      rw [← hnr, ← hnc]
      have : nc * nr ≤ 1024 * 1024 := Nat.mul_le_mul (by omega) (by omega)
      have h2 : ((nc : Int) * (nr : Int)) = ((nc * nr : Nat) : Int) := by simp
      omega
    have eqSelf : ∀ (A : Rights) (o o2 : Operand), BinRun Try.prog .eql 28 o o2 A.v A.v (.bool true) := fun A o o2 => by
      have := eqlRights (x := o) (y := o2) A A
      rwa [decide_eq_true rfl] at this
    refine pure_of_wt Try.func8 rfl (by decide) _ Try.ntmps8 rfl Try.results8 fun w0 => ?_
    repeat' (first
    | (apply RunK.callS; exact rfl; exact hv; (repeat (first | exact ArgsLe.nil | refine ArgsLe.cons ?_ ?_ | exact ArgLe.v _ | exact ArgLe.sl _ _ _ _ | exact ArgLe.nil _ | exact ArgLe.nil' | (apply ArgLe.bsl; exact rfl; (first | exact rfl | (rw [List.length_map]; done) | (simp only [List.length_map]; done) | (simp; done) | (simp; omega)); (first | assumption | exact map_len (fun _ => rfl))))); exact rfl) | (apply RunK.bin; exact rfl; exact rfl; exact rfl; exact BinRun.mul' hmul)
    | refine Wt.seq ?_
    | (apply Wt.regionK; exact rfl)
    | refine Wt.ret ?_
    | refine Wt.block ?_
    | refine Wt.skip ?_
    | refine RunK.nil ?_
    | (apply RunK.moveV; exact rfl; exact rfl)
    | (apply RunK.load1; exact rfl; exact rfl; exact rfl; exact rfl)
    | (apply RunK.field; exact rfl; exact rfl)
    | (apply RunK.assignV; exact rfl; exact rfl)
    | (apply RunK.box; exact rfl; exact rfl; apply Cells.eq; (first | exact Cells.agg _ | exact Cells.int _ _ | exact Cells.bool _ | exact Cells.one _ rfl); exact rfl)
    | (apply RunK.alloc; exact rfl; apply Cells.eq; (first | exact Cells.agg _ | exact Cells.int _ _ | exact Cells.bool _ | exact Cells.one _ rfl); exact rfl)
    | (apply RunK.moveS; exact rfl; exact rfl)
    | (apply RunK.loadR; exact rfl; exact rfl; exact rfl; exact rfl; (apply cut_eq; repeat (first | exact Cut.nil _ | apply Cut.cons | apply Cut.skip)))
    | (apply RunK.pickF; exact rfl; exact rfl; exact rfl)
    | (apply RunK.gtr; exact rfl; exact rfl; exact rfl)
    | (apply RunK.add; exact rfl; exact rfl; exact rfl; (first | omega | (simp only [List.length_map]; omega)))
    | (apply RunK.sub; exact rfl; exact rfl; exact rfl; (first | omega | (simp only [List.length_map]; omega)))
    | (apply RunK.not; exact rfl; exact rfl)
    | (apply RunK.build; exact rfl; (repeat (first | exact PartsOk.nil | (apply PartsOk.cons; exact rfl))); (repeat (first | exact fill_nil | (apply fill_cons; exact rfl; (first | exact Cells.agg _ | exact Cells.int _ _ | exact Cells.bool _ | exact Cells.one _ rfl); exact rfl; (repeat (first | exact Upd.nil _ | apply Upd.cons | apply Upd.skip))))))
    | (apply RunK.store; exact rfl; exact rfl; exact rfl; exact rfl; exact rfl; exact rfl; exact rfl; apply upd_eq; exact rfl; (first | exact Cells.agg _ | exact Cells.int _ _ | exact Cells.bool _ | exact Cells.one _ rfl); (repeat (first | exact Upd.nil _ | apply Upd.cons | apply Upd.skip)))
    | (apply Wt.cond; exact rfl; all_goals (intro hg; (first | exact absurd hg (by decide) | skip); (first | (with_reducible replace hg := not_t hg) | (with_reducible replace hg := not_f hg) | skip); (first | (with_reducible replace hg := dec_t hg) | (with_reducible replace hg := dec_f hg) | skip); (first | (with_reducible exact absurd rfl hg) | skip); (repeat rw [List.length_map] at hg); try (exfalso; omega))))
    · apply ResOk.v1; exact rfl; exact rfl
    refine Wt.loop (fun i : Nat => ⟨[(1, .s (rules l)), (2, .box 2 0), (5, .box 5 0), (6, .s (.v (.int .i64 (r.r1 + i))))], [(2, r.vals), (5, [.int .u64 (rowAcc Rights.read l r.c1 r.r1 nc i : Nat), .int .u64 (rowAcc Rights.write l r.c1 r.r1 nc i : Nat), .int .u64 (rowAcc Rights.own l r.c1 r.r1 nc i : Nat)])]⟩) (fun i => i ≤ nr) (fun i => nr - i) 0 (Nat.zero_le _) ?_ ?_
    · (refine Le.mk ?_ ?_; (repeat' (first | exact LeEnv.done | refine LeEnv.cons ?_ ?_ | exact PVLe.refl _ | exact PVLe.s (SVLe.nil _ _ _) | exact PVLe.s (SVLe.no _ _ _ _) | (refine PVLe.int ?_; first | rfl | omega | (simp; done) | (simp; omega)) | (refine PVLe.els ?_; first | rfl | assumption | (simp; done)) | (refine PVLe.bool ?_; first | rfl | assumption) | (refine PVLe.bsl ?_; first | rfl | assumption | (simp; done))));  (repeat' (first | exact LeBox.done | refine LeBox.cons ?_ ?_ | exact rfl)))
    · rintro i hi
      by_cases hlti : i < nr
      · repeat' (first
    | refine Wt.seq ?_
    | (apply Wt.regionK; exact rfl)
    | refine Wt.block ?_
    | refine Wt.skip ?_
    | refine RunK.nil ?_
    | (apply RunK.moveV; exact rfl; exact rfl)
    | (apply RunK.load1; exact rfl; exact rfl; exact rfl; exact rfl)
    | (apply RunK.field; exact rfl; exact rfl)
    | (apply RunK.assignV; exact rfl; exact rfl)
    | (apply RunK.leq; exact rfl; exact rfl; exact rfl)
    | (apply Wt.cond; exact rfl; all_goals (intro hg; (first | exact absurd hg (by decide) | skip); (first | (with_reducible replace hg := not_t hg) | (with_reducible replace hg := not_f hg) | skip); (first | (with_reducible replace hg := dec_t hg) | (with_reducible replace hg := dec_f hg) | skip); (first | (with_reducible exact absurd rfl hg) | skip); (repeat rw [List.length_map] at hg); try (exfalso; omega))))
        refine Wt.loop (fun j : Nat => ⟨[(1, .s (rules l)), (2, .box 2 0), (5, .box 5 0), (6, .s (.v (.int .i64 (r.r1 + i)))), (7, .s (.v (.int .i64 (r.c1 + j))))], [(2, r.vals), (5, [.int .u64 (colAcc Rights.read l r.c1 (r.r1 + i) (rowAcc Rights.read l r.c1 r.r1 nc i) j : Nat), .int .u64 (colAcc Rights.write l r.c1 (r.r1 + i) (rowAcc Rights.write l r.c1 r.r1 nc i) j : Nat), .int .u64 (colAcc Rights.own l r.c1 (r.r1 + i) (rowAcc Rights.own l r.c1 r.r1 nc i) j : Nat)])]⟩) (fun j => j ≤ nc) (fun j => nc - j) 0 (Nat.zero_le _) ?_ ?_
        · (refine Le.mk ?_ ?_; (repeat' (first | exact LeEnv.done | refine LeEnv.cons ?_ ?_ | exact PVLe.refl _ | exact PVLe.s (SVLe.nil _ _ _) | exact PVLe.s (SVLe.no _ _ _ _) | (refine PVLe.int ?_; first | rfl | omega | (simp; done) | (simp; omega)) | (refine PVLe.els ?_; first | rfl | assumption | (simp; done)) | (refine PVLe.bool ?_; first | rfl | assumption) | (refine PVLe.bsl ?_; first | rfl | assumption | (simp; done))));  (repeat' (first | exact LeBox.done | refine LeBox.cons ?_ ?_ | exact rfl)))
        · rintro j hj
          by_cases hltj : j < nc
          · have hat := aclAt ⟨r.c1 + j, r.r1 + i⟩ l (by omega) hok
            rw [atS_ok (by simp [refOk]; omega) hch] at hat
            dsimp only at hat
            have hlt1 : ∀ g, colAcc g l r.c1 (r.r1 + i) (rowAcc g l r.c1 r.r1 nc i) j < 18446744073709551616 := fun g => colAcc_lt (rowAcc_lt i) j
            have hao : (atL l ⟨r.c1 + j, r.r1 + i⟩).ok := by
              obtain ⟨q, hq⟩ := exists_at (lastN_lt (x := ⟨r.c1 + j, r.r1 + i⟩) (l := l) (List.length_pos_iff.2 (chkE_ne hch)))
              unfold atL; rw [hq]; exact (hok q (List.mem_of_getElem? hq)).rights
            have a1 : ∀ t o o2, BinRun Try.prog .and t o o2 (.int .u64 (colAcc Rights.read l r.c1 (r.r1 + i) (rowAcc Rights.read l r.c1 r.r1 nc i) j : Nat)) (.int .u64 ((atL l ⟨r.c1 + j, r.r1 + i⟩).read : Nat)) (.int .u64 (colAcc Rights.read l r.c1 (r.r1 + i) (rowAcc Rights.read l r.c1 r.r1 nc i) (j + 1) : Nat)) := fun t o o2 => andRun (hlt1 _) hao.read
            have a2 : ∀ t o o2, BinRun Try.prog .and t o o2 (.int .u64 (colAcc Rights.write l r.c1 (r.r1 + i) (rowAcc Rights.write l r.c1 r.r1 nc i) j : Nat)) (.int .u64 ((atL l ⟨r.c1 + j, r.r1 + i⟩).write : Nat)) (.int .u64 (colAcc Rights.write l r.c1 (r.r1 + i) (rowAcc Rights.write l r.c1 r.r1 nc i) (j + 1) : Nat)) := fun t o o2 => andRun (hlt1 _) hao.write
            have a3 : ∀ t o o2, BinRun Try.prog .and t o o2 (.int .u64 (colAcc Rights.own l r.c1 (r.r1 + i) (rowAcc Rights.own l r.c1 r.r1 nc i) j : Nat)) (.int .u64 ((atL l ⟨r.c1 + j, r.r1 + i⟩).own : Nat)) (.int .u64 (colAcc Rights.own l r.c1 (r.r1 + i) (rowAcc Rights.own l r.c1 r.r1 nc i) (j + 1) : Nat)) := fun t o o2 => andRun (hlt1 _) hao.own
            clear hlt1 hao
            generalize atL l ⟨r.c1 + j, r.r1 + i⟩ = B at *
            repeat' (first
    | (apply RunK.callT; exact rfl; exact hat; (repeat (first | exact ArgsLe.nil | refine ArgsLe.cons ?_ ?_ | exact ArgLe.v _ | exact ArgLe.sl _ _ _ _ | exact ArgLe.nil _ | exact ArgLe.nil' | (apply ArgLe.bsl; exact rfl; (first | exact rfl | (rw [List.length_map]; done) | (simp only [List.length_map]; done) | (simp; done) | (simp; omega)); (first | assumption | exact map_len (fun _ => rfl))))); exact rfl) | (apply RunK.bin; exact rfl; exact rfl; exact rfl; first | exact a1 _ _ _ | exact a2 _ _ _ | exact a3 _ _ _)
    | refine Wt.seq ?_
    | (apply Wt.regionK; exact rfl)
    | refine Wt.block ?_
    | refine Wt.skip ?_
    | refine RunK.nil ?_
    | (apply RunK.moveV; exact rfl; exact rfl)
    | (apply RunK.load1; exact rfl; exact rfl; exact rfl; exact rfl)
    | (apply RunK.field; exact rfl; exact rfl)
    | (apply RunK.assignV; exact rfl; exact rfl)
    | (apply RunK.alloc; exact rfl; apply Cells.eq; (first | exact Cells.agg _ | exact Cells.int _ _ | exact Cells.bool _ | exact Cells.one _ rfl); exact rfl)
    | (apply RunK.moveS; exact rfl; exact rfl)
    | (apply RunK.moveT; exact rfl; exact rfl)
    | (apply RunK.leq; exact rfl; exact rfl; exact rfl)
    | (apply RunK.neq; exact rfl; exact rfl; exact rfl)
    | (apply RunK.add; exact rfl; exact rfl; exact rfl; (first | omega | (simp only [List.length_map]; omega)))
    | (apply RunK.extract; exact rfl; exact rfl; exact rfl)
    | (apply RunK.build; exact rfl; (repeat (first | exact PartsOk.nil | (apply PartsOk.cons; exact rfl))); (repeat (first | exact fill_nil | (apply fill_cons; exact rfl; (first | exact Cells.agg _ | exact Cells.int _ _ | exact Cells.bool _ | exact Cells.one _ rfl); exact rfl; (repeat (first | exact Upd.nil _ | apply Upd.cons | apply Upd.skip))))))
    | (apply RunK.store; exact rfl; exact rfl; exact rfl; exact rfl; exact rfl; exact rfl; exact rfl; apply upd_eq; exact rfl; (first | exact Cells.agg _ | exact Cells.int _ _ | exact Cells.bool _ | exact Cells.one _ rfl); (repeat (first | exact Upd.nil _ | apply Upd.cons | apply Upd.skip)))
    | (apply Wt.cond; exact rfl; all_goals (intro hg; (first | exact absurd hg (by decide) | skip); (first | (with_reducible replace hg := not_t hg) | (with_reducible replace hg := not_f hg) | skip); (first | (with_reducible replace hg := dec_t hg) | (with_reducible replace hg := dec_f hg) | skip); (first | (with_reducible exact absurd rfl hg) | skip); (repeat rw [List.length_map] at hg); try (exfalso; omega))))
            refine ⟨j + 1, hltj, by omega, ?_⟩
            (refine Le.mk ?_ ?_; (repeat' (first | exact LeEnv.done | refine LeEnv.cons ?_ ?_ | exact PVLe.refl _ | exact PVLe.s (SVLe.nil _ _ _) | exact PVLe.s (SVLe.no _ _ _ _) | (refine PVLe.int ?_; first | rfl | omega | (simp; done) | (simp; omega)) | (refine PVLe.els ?_; first | rfl | assumption | (simp; done)) | (refine PVLe.bool ?_; first | rfl | assumption) | (refine PVLe.bsl ?_; first | rfl | assumption | (simp; done))));  (repeat' (first | exact LeBox.done | refine LeBox.cons ?_ ?_ | exact rfl)))
          · obtain rfl : j = nc := by omega
            repeat' (first
    | refine Wt.seq ?_
    | (apply Wt.regionK; exact rfl)
    | refine Wt.exit ?_
    | refine RunK.nil ?_
    | (apply RunK.moveV; exact rfl; exact rfl)
    | (apply RunK.load1; exact rfl; exact rfl; exact rfl; exact rfl)
    | (apply RunK.field; exact rfl; exact rfl)
    | (apply RunK.assignV; exact rfl; exact rfl)
    | (apply RunK.leq; exact rfl; exact rfl; exact rfl)
    | (apply RunK.add; exact rfl; exact rfl; exact rfl; (first | omega | (simp only [List.length_map]; omega)))
    | (apply Wt.cond; exact rfl; all_goals (intro hg; (first | exact absurd hg (by decide) | skip); (first | (with_reducible replace hg := not_t hg) | (with_reducible replace hg := not_f hg) | skip); (first | (with_reducible replace hg := dec_t hg) | (with_reducible replace hg := dec_f hg) | skip); (first | (with_reducible exact absurd rfl hg) | skip); (repeat rw [List.length_map] at hg); try (exfalso; omega))))
            refine ⟨i + 1, hlti, by omega, ?_⟩
            (refine Le.mk ?_ ?_; (repeat' (first | exact LeEnv.done | refine LeEnv.cons ?_ ?_ | exact PVLe.refl _ | exact PVLe.s (SVLe.nil _ _ _) | exact PVLe.s (SVLe.no _ _ _ _) | (refine PVLe.int ?_; first | rfl | omega | (simp; done) | (simp; omega)) | (refine PVLe.els ?_; first | rfl | assumption | (simp; done)) | (refine PVLe.bool ?_; first | rfl | assumption) | (refine PVLe.bsl ?_; first | rfl | assumption | (simp; done))));  (repeat' (first | exact LeBox.done | refine LeBox.cons ?_ ?_ | exact rfl)))
      · obtain rfl : i = nr := by omega
        generalize rowAcc Rights.read l r.c1 r.r1 nc i = x1 at *
        generalize rowAcc Rights.write l r.c1 r.r1 nc i = x2 at *
        generalize rowAcc Rights.own l r.c1 r.r1 nc i = x3 at *
        have hbin := eqSelf ⟨x1, x2, x3⟩
        repeat' (first
    | (apply RunK.callT; exact rfl; exact h1; (repeat (first | exact ArgsLe.nil | refine ArgsLe.cons ?_ ?_ | exact ArgLe.v _ | exact ArgLe.sl _ _ _ _ | exact ArgLe.nil _ | exact ArgLe.nil' | (apply ArgLe.bsl; exact rfl; (first | exact rfl | (rw [List.length_map]; done) | (simp only [List.length_map]; done) | (simp; done) | (simp; omega)); (first | assumption | exact map_len (fun _ => rfl))))); exact rfl) | (apply RunK.callS; exact rfl; exact example20; (repeat (first | exact ArgsLe.nil | refine ArgsLe.cons ?_ ?_ | exact ArgLe.v _ | exact ArgLe.sl _ _ _ _ | exact ArgLe.nil _ | exact ArgLe.nil' | (apply ArgLe.bsl; exact rfl; (first | exact rfl | (rw [List.length_map]; done) | (simp only [List.length_map]; done) | (simp; done) | (simp; omega)); (first | assumption | exact map_len (fun _ => rfl))))); exact rfl) | (apply RunK.bin; exact rfl; exact rfl; exact rfl; exact hbin _ _)
    | refine Wt.seq ?_
    | (apply Wt.regionK; exact rfl)
    | refine Wt.ret ?_
    | refine Wt.exit ?_
    | refine RunK.nil ?_
    | (apply RunK.moveV; exact rfl; exact rfl)
    | (apply RunK.load1; exact rfl; exact rfl; exact rfl; exact rfl)
    | (apply RunK.field; exact rfl; exact rfl)
    | (apply RunK.assignV; exact rfl; exact rfl)
    | (apply RunK.alloc; exact rfl; apply Cells.eq; (first | exact Cells.agg _ | exact Cells.int _ _ | exact Cells.bool _ | exact Cells.one _ rfl); exact rfl)
    | (apply RunK.moveS; exact rfl; exact rfl)
    | (apply RunK.moveT; exact rfl; exact rfl)
    | (apply RunK.loadR; exact rfl; exact rfl; exact rfl; exact rfl; (apply cut_eq; repeat (first | exact Cut.nil _ | apply Cut.cons | apply Cut.skip)))
    | (apply RunK.pickT; exact rfl; exact rfl; exact rfl)
    | (apply RunK.leq; exact rfl; exact rfl; exact rfl)
    | (apply RunK.eql; exact rfl; exact rfl; exact rfl)
    | (apply RunK.extract; exact rfl; exact rfl; exact rfl)
    | (apply RunK.store; exact rfl; exact rfl; exact rfl; exact rfl; exact rfl; exact rfl; exact rfl; apply upd_eq; exact rfl; (first | exact Cells.agg _ | exact Cells.int _ _ | exact Cells.bool _ | exact Cells.one _ rfl); (repeat (first | exact Upd.nil _ | apply Upd.cons | apply Upd.skip)))
    | (apply Wt.cond; exact rfl; all_goals (intro hg; (first | exact absurd hg (by decide) | skip); (first | (with_reducible replace hg := not_t hg) | (with_reducible replace hg := not_f hg) | skip); (first | (with_reducible replace hg := dec_t hg) | (with_reducible replace hg := dec_f hg) | skip); (first | (with_reducible exact absurd rfl hg) | skip); (repeat rw [List.length_map] at hg); try (exfalso; omega))))
        all_goals (apply ResOk.v1; exact rfl; exact rfl)
  · rw [Bool.not_eq_true] at hg1
    rw [hg1] at hv
    refine pure_of_wt Try.func8 rfl (by decide) _ Try.ntmps8 rfl Try.results8 fun w0 => ?_
    repeat' (first
    | (apply RunK.callS; exact rfl; exact hv; (repeat (first | exact ArgsLe.nil | refine ArgsLe.cons ?_ ?_ | exact ArgLe.v _ | exact ArgLe.sl _ _ _ _ | exact ArgLe.nil _ | exact ArgLe.nil' | (apply ArgLe.bsl; exact rfl; (first | exact rfl | (rw [List.length_map]; done) | (simp only [List.length_map]; done) | (simp; done) | (simp; omega)); (first | assumption | exact map_len (fun _ => rfl))))); exact rfl)
    | refine Wt.seq ?_
    | (apply Wt.regionK; exact rfl)
    | refine Wt.ret ?_
    | refine RunK.nil ?_
    | (apply RunK.moveV; exact rfl; exact rfl)
    | (apply RunK.assignV; exact rfl; exact rfl)
    | (apply RunK.box; exact rfl; exact rfl; apply Cells.eq; (first | exact Cells.agg _ | exact Cells.int _ _ | exact Cells.bool _ | exact Cells.one _ rfl); exact rfl)
    | (apply RunK.moveS; exact rfl; exact rfl)
    | (apply RunK.loadR; exact rfl; exact rfl; exact rfl; exact rfl; (apply cut_eq; repeat (first | exact Cut.nil _ | apply Cut.cons | apply Cut.skip)))
    | (apply RunK.pickT; exact rfl; exact rfl; exact rfl)
    | (apply RunK.not; exact rfl; exact rfl)
    | (apply RunK.skip; exact rfl; exact rfl)
    | (apply Wt.cond; exact rfl; all_goals (intro hg; (first | exact absurd hg (by decide) | skip); (first | (with_reducible replace hg := not_t hg) | (with_reducible replace hg := not_f hg) | skip); (first | (with_reducible replace hg := dec_t hg) | (with_reducible replace hg := dec_f hg) | skip); (first | (with_reducible exact absurd rfl hg) | skip); (repeat rw [List.length_map] at hg); try (exfalso; omega))))
    apply ResOk.v1; exact rfl; exact rfl
end Go.Proofs.Ytgljklggeopolaa
