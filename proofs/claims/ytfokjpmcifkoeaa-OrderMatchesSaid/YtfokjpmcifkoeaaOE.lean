/- The walk of container/heap's down at a heap of nodes. No condition. -/
import Derived.Test.YtfokjpmcifkoeaaOCD
namespace Go.Proofs.Ytfokjpmcifkoeaa
open Pv Go.RowKit Scc Heap
set_option maxHeartbeats 1000000 in
set_option maxRecDepth 100000 in
theorem hDown (B : Nat) (r : NRow) (L : List Nat) (n : Nat) (h : RowL r L) (hL : L.length < 1000000) (hn : n ≤ L.length) (hD : Dn L n 0) : Acts Try.prog 61 [.v (hI B), .v (.int .i64 0), .v (.int .i64 (n : Int))] (heapF B r) [] (fun res fs => (∃ b, res = .s (.v (.bool b))) ∧ ∃ (r' : NRow) (L' : List Nat), r'.hdr = r.hdr ∧ RowL r' L' ∧ L'.Perm L ∧ Hp L' n ∧ (∀ k, n ≤ k → at0 L' k = at0 L k) ∧ fs = [.nest 1 1 [r']]) := by
  refine acts_of_wt Try.func61 rfl (by decide) _ Try.ntmps61 rfl Try.results61 rfl (by simp [ownOf]) fun w0 W => ?_
  repeat' (first
    | (apply RunK.indexN; exact rfl; exact rfl; exact rfl; (first | exact rfl | exact (rfl : (0 : Int) = ((0 : Nat) : Int)) | exact (rfl : (1 : Int) = ((1 : Nat) : Int)) | exact (rfl : (2 : Int) = ((2 : Nat) : Int)) | exact (rfl : (3 : Int) = ((3 : Nat) : Int)) | assumption); (first | omega | exact lt_of_get ‹_› | (rw [List.length_map]; omega) | (simp; omega))) | (apply RunK.loadNS; exact rfl; exact rfl; assumption; exact rfl) | (apply RunK.lenNs; exact rfl; exact rfl) | (apply RunK.moveNs; exact rfl; exact rfl) | (apply RunK.assignNs; exact rfl; exact rfl)
    | refine Wt.seq ?_
    | (apply Wt.regionK; exact rfl)
    | refine Wt.block ?_
    | refine RunK.nil ?_
    | (apply RunK.moveV; exact rfl; exact rfl)
    | (apply RunK.assignV; exact rfl; exact rfl))
  refine Wt.loop (fun s : Nat × NRow × List Nat => ⟨[(0, .s (.v (hI B))), (1, .s (.v (.int .i64 0))), (2, .s (.v (.int .i64 (n : Int)))), (7, .s (.v (.int .i64 s.1))), (2000000, .kept B (.cells #[r.hdr] 54 (0, 0))), (2000001, .nest 1 1 [s.2.1]), (2999999, .old W (keptOf (heapF B r)))], []⟩) (fun s => RowL s.2.1 s.2.2 ∧ s.2.1.hdr = r.hdr ∧ s.1 ≤ n ∧ Dn s.2.2 n s.1 ∧ s.2.2.Perm L ∧ ∀ k, n ≤ k → at0 s.2.2 k = at0 L k) (fun s => n - s.1) (0, r, L) ⟨h, rfl, Nat.zero_le _, hD, .refl _, fun _ _ => rfl⟩ ?_ ?_
  · (refine Le.mk ?_ ?_; (repeat' (first | exact LeEnv.done | refine LeEnv.cons ?_ ?_ | exact PVLe.refl _ | exact PVLe.s (SVLe.nil _ _ _) | exact PVLe.s (SVLe.no _ _ _ _) | (refine PVLe.int ?_; first | rfl | omega | (simp; done) | (simp; omega)) | (refine PVLe.els ?_; first | rfl | assumption | (simp; done)) | (refine PVLe.bool ?_; first | rfl | assumption) | (refine PVLe.bsl ?_; first | rfl | assumption | (simp; done))));  (repeat' (first | exact LeBox.done | refine LeBox.cons ?_ ?_ | exact rfl)))
  · clear h hD
    rintro ⟨i, q, M⟩ ⟨h1, h2, h3, h4, h5, h6⟩
    dsimp only at h1 h2 h3 h4 h5 h6 ⊢
    have hml := h5.length_eq
    by_cases hA : n ≤ 2 * i + 1
    · have hE := dn_end h4 (fun k k1 k2 k3 => by omega)
      repeat' (first
    | (apply RunK.mul; exact rfl; exact rfl; exact rfl; (first | omega | (simp only [List.length_map]; omega)))
    | refine Wt.seq ?_
    | (apply Wt.regionK; exact rfl)
    | refine Wt.ret ?_
    | refine Wt.block ?_
    | refine Wt.exit ?_
    | refine RunK.nil ?_
    | (apply RunK.moveV; exact rfl; exact rfl)
    | (apply RunK.assignV; exact rfl; exact rfl)
    | (apply RunK.pickT; exact rfl; exact rfl; exact rfl)
    | (apply RunK.geq; exact rfl; exact rfl; exact rfl)
    | (apply RunK.gtr; exact rfl; exact rfl; exact rfl)
    | (apply RunK.add; exact rfl; exact rfl; exact rfl; (first | omega | (simp only [List.length_map]; omega)))
    | (apply RunK.skip; exact rfl; exact rfl)
    | (apply RunK.guard; exact rfl; exact rfl; exact rfl; all_goals (intro hg; (first | exact absurd hg (by decide) | skip); (first | (with_reducible replace hg := not_t hg) | (with_reducible replace hg := not_f hg) | skip); (first | (with_reducible replace hg := dec_t hg) | (with_reducible replace hg := dec_f hg) | skip); (first | (with_reducible exact absurd rfl hg) | skip); (repeat rw [List.length_map] at hg); try (exfalso; omega)))
    | (apply Wt.cond; exact rfl; all_goals (intro hg; (first | exact absurd hg (by decide) | skip); (first | (with_reducible replace hg := not_t hg) | (with_reducible replace hg := not_f hg) | skip); (first | (with_reducible replace hg := dec_t hg) | (with_reducible replace hg := dec_f hg) | skip); (first | (with_reducible exact absurd rfl hg) | skip); (repeat rw [List.length_map] at hg); try (exfalso; omega))))
      all_goals first
        | (exfalso; omega)
        | exact ActEnd.mk (.s (.v (.bool (decide ((0 : Int) < (i : Int)))))) _ ⟨⟨_, rfl⟩, q, M, h2, h1, h5, hE, h6, rfl⟩ (by apply ResOk.v1; exact rfl; exact rfl) rfl rfl (.nest 2000001 rfl .nil) (.same 2000000 rfl (.nest .nil))
    · have e1 : ((2 * i + 1 : Nat) : Int) = 2 * (i : Int) + 1 := by omega
      have e2 : ((2 * i + 1 + 1 : Nat) : Int) = 2 * (i : Int) + 1 + 1 := by omega
      have hsame : ∀ j, j < n → ∀ k, n ≤ k → at0 (sw M i j) k = at0 L k := fun j hj k hk => by rw [at_sw (by omega) (by omega), if_neg (by omega), if_neg (by omega)]; exact h6 k hk
      have c1 := nLess q M h1 (2 * i + 1) i (by omega) (by omega)
      have c2 := nSwap q M h1 i (2 * i + 1) (by omega) (by omega)
      rw [h2, e1] at c1 c2
      by_cases hB : 2 * i + 2 < n
      · have c3 := nLess q M h1 (2 * i + 1 + 1) (2 * i + 1) (by omega) (by omega)
        have c4 := nLess q M h1 (2 * i + 1 + 1) i (by omega) (by omega)
        have c5 := nSwap q M h1 i (2 * i + 1 + 1) (by omega) (by omega)
        rw [h2, e2] at c4 c5
        rw [h2, e2, e1] at c3
        by_cases hC : at0 M (2 * i + 1 + 1) < at0 M (2 * i + 1)
        · rw [decide_eq_true hC] at c3
          have hmin : ∀ k, 0 < k → k < n → (k - 1) / 2 = i → at0 M (2 * i + 1 + 1) ≤ at0 M k := fun k k1 k2 k3 => by
            rcases (by omega : k = 2 * i + 1 ∨ k = 2 * i + 1 + 1) with rfl | rfl <;> omega
          by_cases hl : at0 M (2 * i + 1 + 1) < at0 M i
          · rw [decide_eq_true hl] at c4
            have hs := dn_step h4 (by omega) (by omega) (by omega) (by omega) hmin hl
            have hp := (sw_perm (i := i) (j := 2 * i + 1 + 1) (by omega) (by omega)).trans h5
            have hk := hsame (2 * i + 1 + 1) (by omega)
            clear hsame
            repeat' (first
    | (apply RunK.mul; exact rfl; exact rfl; exact rfl; (first | omega | (simp only [List.length_map]; omega))) | (apply RunK.invokeV 2000000 [2000001] 900001 mLess; (case hw => exact rfl); (case hp => exact c3); (case hx => exact rfl); (case hk => exact rfl); (case hu => exact rfl); (case ha => (repeat (first | exact ArgsLe.nil | refine ArgsLe.cons ?_ ?_ | exact ArgLe.v _ | exact ArgLe.sl _ _ _ _ | exact ArgLe.nil _ | exact ArgLe.nil' | exact ArgLe.nsl _ _ _ _ _ | exact ArgLe.nsn _ | (apply ArgLe.bsl; exact rfl; (first | exact rfl | (rw [List.length_map]; done) | (simp only [List.length_map]; done) | (simp; done) | (simp; omega)); (first | assumption | exact map_len (fun _ => rfl)))))); (case hf => exact .nest 2000001 rfl rfl rfl .nil); (case hap => exact ApartE.nil _); (case hng => exact rfl); intro res fs' hres _; obtain ⟨rfl, rfl⟩ := hres) | (apply RunK.invokeV 2000000 [2000001] 900001 mLess; (case hw => exact rfl); (case hp => exact c4); (case hx => exact rfl); (case hk => exact rfl); (case hu => exact rfl); (case ha => (repeat (first | exact ArgsLe.nil | refine ArgsLe.cons ?_ ?_ | exact ArgLe.v _ | exact ArgLe.sl _ _ _ _ | exact ArgLe.nil _ | exact ArgLe.nil' | exact ArgLe.nsl _ _ _ _ _ | exact ArgLe.nsn _ | (apply ArgLe.bsl; exact rfl; (first | exact rfl | (rw [List.length_map]; done) | (simp only [List.length_map]; done) | (simp; done) | (simp; omega)); (first | assumption | exact map_len (fun _ => rfl)))))); (case hf => exact .nest 2000001 rfl rfl rfl .nil); (case hap => exact ApartE.nil _); (case hng => exact rfl); intro res fs' hres _; obtain ⟨rfl, rfl⟩ := hres) | (apply RunK.invokeV 2000000 [2000001] 900001 mSwap; (case hw => exact rfl); (case hp => exact c5); (case hx => exact rfl); (case hk => exact rfl); (case hu => exact rfl); (case ha => (repeat (first | exact ArgsLe.nil | refine ArgsLe.cons ?_ ?_ | exact ArgLe.v _ | exact ArgLe.sl _ _ _ _ | exact ArgLe.nil _ | exact ArgLe.nil' | exact ArgLe.nsl _ _ _ _ _ | exact ArgLe.nsn _ | (apply ArgLe.bsl; exact rfl; (first | exact rfl | (rw [List.length_map]; done) | (simp only [List.length_map]; done) | (simp; done) | (simp; omega)); (first | assumption | exact map_len (fun _ => rfl)))))); (case hf => exact .nest 2000001 rfl rfl rfl .nil); (case hap => exact ApartE.nil _); (case hng => exact rfl); intro res fs' hres _; obtain ⟨rfl, q', hq1, hq2, rfl⟩ := hres)
    | refine Wt.seq ?_
    | (apply Wt.regionK; exact rfl)
    | refine Wt.block ?_
    | refine Wt.skip ?_
    | refine RunK.nil ?_
    | (apply RunK.moveV; exact rfl; exact rfl)
    | (apply RunK.assignV; exact rfl; exact rfl)
    | (apply RunK.pickT; exact rfl; exact rfl; exact rfl)
    | (apply RunK.pickF; exact rfl; exact rfl; exact rfl)
    | (apply RunK.geq; exact rfl; exact rfl; exact rfl)
    | (apply RunK.lss; exact rfl; exact rfl; exact rfl)
    | (apply RunK.add; exact rfl; exact rfl; exact rfl; (first | omega | (simp only [List.length_map]; omega)))
    | (apply RunK.not; exact rfl; exact rfl)
    | (apply RunK.guard; exact rfl; exact rfl; exact rfl; all_goals (intro hg; (first | exact absurd hg (by decide) | skip); (first | (with_reducible replace hg := not_t hg) | (with_reducible replace hg := not_f hg) | skip); (first | (with_reducible replace hg := dec_t hg) | (with_reducible replace hg := dec_f hg) | skip); (first | (with_reducible exact absurd rfl hg) | skip); (repeat rw [List.length_map] at hg); try (exfalso; omega)))
    | (apply Wt.cond; exact rfl; all_goals (intro hg; (first | exact absurd hg (by decide) | skip); (first | (with_reducible replace hg := not_t hg) | (with_reducible replace hg := not_f hg) | skip); (first | (with_reducible replace hg := dec_t hg) | (with_reducible replace hg := dec_f hg) | skip); (first | (with_reducible exact absurd rfl hg) | skip); (repeat rw [List.length_map] at hg); try (exfalso; omega))))
            all_goals first
              | (exfalso; omega)
              | (refine ⟨(2 * i + 1 + 1, q', sw M i (2 * i + 1 + 1)), ⟨hq2, hq1, (by dsimp only; omega), hs, hp, hk⟩, by dsimp only; omega, ?_⟩; dsimp only; (refine Le.mk ?_ ?_; (repeat' (first | exact LeEnv.done | refine LeEnv.cons ?_ ?_ | exact PVLe.refl _ | exact PVLe.s (SVLe.nil _ _ _) | exact PVLe.s (SVLe.no _ _ _ _) | (refine PVLe.int ?_; first | rfl | omega | (simp; done) | (simp; omega)) | (refine PVLe.els ?_; first | rfl | assumption | (simp; done)) | (refine PVLe.bool ?_; first | rfl | assumption) | (refine PVLe.bsl ?_; first | rfl | assumption | (simp; done))));  (repeat' (first | exact LeBox.done | refine LeBox.cons ?_ ?_ | exact rfl))))
          · rw [decide_eq_false hl] at c4
            have hE := dn_end h4 (fun k k1 k2 k3 => by have := hmin k k1 k2 k3; omega)
            clear hsame
            repeat' (first
    | (apply RunK.mul; exact rfl; exact rfl; exact rfl; (first | omega | (simp only [List.length_map]; omega))) | (apply RunK.invokeV 2000000 [2000001] 900001 mLess; (case hw => exact rfl); (case hp => exact c3); (case hx => exact rfl); (case hk => exact rfl); (case hu => exact rfl); (case ha => (repeat (first | exact ArgsLe.nil | refine ArgsLe.cons ?_ ?_ | exact ArgLe.v _ | exact ArgLe.sl _ _ _ _ | exact ArgLe.nil _ | exact ArgLe.nil' | exact ArgLe.nsl _ _ _ _ _ | exact ArgLe.nsn _ | (apply ArgLe.bsl; exact rfl; (first | exact rfl | (rw [List.length_map]; done) | (simp only [List.length_map]; done) | (simp; done) | (simp; omega)); (first | assumption | exact map_len (fun _ => rfl)))))); (case hf => exact .nest 2000001 rfl rfl rfl .nil); (case hap => exact ApartE.nil _); (case hng => exact rfl); intro res fs' hres _; obtain ⟨rfl, rfl⟩ := hres) | (apply RunK.invokeV 2000000 [2000001] 900001 mLess; (case hw => exact rfl); (case hp => exact c4); (case hx => exact rfl); (case hk => exact rfl); (case hu => exact rfl); (case ha => (repeat (first | exact ArgsLe.nil | refine ArgsLe.cons ?_ ?_ | exact ArgLe.v _ | exact ArgLe.sl _ _ _ _ | exact ArgLe.nil _ | exact ArgLe.nil' | exact ArgLe.nsl _ _ _ _ _ | exact ArgLe.nsn _ | (apply ArgLe.bsl; exact rfl; (first | exact rfl | (rw [List.length_map]; done) | (simp only [List.length_map]; done) | (simp; done) | (simp; omega)); (first | assumption | exact map_len (fun _ => rfl)))))); (case hf => exact .nest 2000001 rfl rfl rfl .nil); (case hap => exact ApartE.nil _); (case hng => exact rfl); intro res fs' hres _; obtain ⟨rfl, rfl⟩ := hres)
    | refine Wt.seq ?_
    | (apply Wt.regionK; exact rfl)
    | refine Wt.ret ?_
    | refine Wt.block ?_
    | refine Wt.skip ?_
    | refine Wt.exit ?_
    | refine RunK.nil ?_
    | (apply RunK.moveV; exact rfl; exact rfl)
    | (apply RunK.assignV; exact rfl; exact rfl)
    | (apply RunK.pickT; exact rfl; exact rfl; exact rfl)
    | (apply RunK.pickF; exact rfl; exact rfl; exact rfl)
    | (apply RunK.geq; exact rfl; exact rfl; exact rfl)
    | (apply RunK.lss; exact rfl; exact rfl; exact rfl)
    | (apply RunK.gtr; exact rfl; exact rfl; exact rfl)
    | (apply RunK.add; exact rfl; exact rfl; exact rfl; (first | omega | (simp only [List.length_map]; omega)))
    | (apply RunK.not; exact rfl; exact rfl)
    | (apply RunK.guard; exact rfl; exact rfl; exact rfl; all_goals (intro hg; (first | exact absurd hg (by decide) | skip); (first | (with_reducible replace hg := not_t hg) | (with_reducible replace hg := not_f hg) | skip); (first | (with_reducible replace hg := dec_t hg) | (with_reducible replace hg := dec_f hg) | skip); (first | (with_reducible exact absurd rfl hg) | skip); (repeat rw [List.length_map] at hg); try (exfalso; omega)))
    | (apply Wt.cond; exact rfl; all_goals (intro hg; (first | exact absurd hg (by decide) | skip); (first | (with_reducible replace hg := not_t hg) | (with_reducible replace hg := not_f hg) | skip); (first | (with_reducible replace hg := dec_t hg) | (with_reducible replace hg := dec_f hg) | skip); (first | (with_reducible exact absurd rfl hg) | skip); (repeat rw [List.length_map] at hg); try (exfalso; omega))))
            all_goals first
              | (exfalso; omega)
              | exact ActEnd.mk (.s (.v (.bool (decide ((0 : Int) < (i : Int)))))) _ ⟨⟨_, rfl⟩, q, M, h2, h1, h5, hE, h6, rfl⟩ (by apply ResOk.v1; exact rfl; exact rfl) rfl rfl (.nest 2000001 rfl .nil) (.same 2000000 rfl (.nest .nil))
        · rw [decide_eq_false hC] at c3
          have hmin : ∀ k, 0 < k → k < n → (k - 1) / 2 = i → at0 M (2 * i + 1) ≤ at0 M k := fun k k1 k2 k3 => by
            rcases (by omega : k = 2 * i + 1 ∨ k = 2 * i + 1 + 1) with rfl | rfl <;> omega
          by_cases hl : at0 M (2 * i + 1) < at0 M i
          · rw [decide_eq_true hl] at c1
            have hs := dn_step h4 (by omega) (by omega) (by omega) (by omega) hmin hl
            have hp := (sw_perm (i := i) (j := 2 * i + 1) (by omega) (by omega)).trans h5
            have hk := hsame (2 * i + 1) (by omega)
            clear hsame
            repeat' (first
    | (apply RunK.mul; exact rfl; exact rfl; exact rfl; (first | omega | (simp only [List.length_map]; omega))) | (apply RunK.invokeV 2000000 [2000001] 900001 mLess; (case hw => exact rfl); (case hp => exact c3); (case hx => exact rfl); (case hk => exact rfl); (case hu => exact rfl); (case ha => (repeat (first | exact ArgsLe.nil | refine ArgsLe.cons ?_ ?_ | exact ArgLe.v _ | exact ArgLe.sl _ _ _ _ | exact ArgLe.nil _ | exact ArgLe.nil' | exact ArgLe.nsl _ _ _ _ _ | exact ArgLe.nsn _ | (apply ArgLe.bsl; exact rfl; (first | exact rfl | (rw [List.length_map]; done) | (simp only [List.length_map]; done) | (simp; done) | (simp; omega)); (first | assumption | exact map_len (fun _ => rfl)))))); (case hf => exact .nest 2000001 rfl rfl rfl .nil); (case hap => exact ApartE.nil _); (case hng => exact rfl); intro res fs' hres _; obtain ⟨rfl, rfl⟩ := hres) | (apply RunK.invokeV 2000000 [2000001] 900001 mLess; (case hw => exact rfl); (case hp => exact c1); (case hx => exact rfl); (case hk => exact rfl); (case hu => exact rfl); (case ha => (repeat (first | exact ArgsLe.nil | refine ArgsLe.cons ?_ ?_ | exact ArgLe.v _ | exact ArgLe.sl _ _ _ _ | exact ArgLe.nil _ | exact ArgLe.nil' | exact ArgLe.nsl _ _ _ _ _ | exact ArgLe.nsn _ | (apply ArgLe.bsl; exact rfl; (first | exact rfl | (rw [List.length_map]; done) | (simp only [List.length_map]; done) | (simp; done) | (simp; omega)); (first | assumption | exact map_len (fun _ => rfl)))))); (case hf => exact .nest 2000001 rfl rfl rfl .nil); (case hap => exact ApartE.nil _); (case hng => exact rfl); intro res fs' hres _; obtain ⟨rfl, rfl⟩ := hres) | (apply RunK.invokeV 2000000 [2000001] 900001 mSwap; (case hw => exact rfl); (case hp => exact c2); (case hx => exact rfl); (case hk => exact rfl); (case hu => exact rfl); (case ha => (repeat (first | exact ArgsLe.nil | refine ArgsLe.cons ?_ ?_ | exact ArgLe.v _ | exact ArgLe.sl _ _ _ _ | exact ArgLe.nil _ | exact ArgLe.nil' | exact ArgLe.nsl _ _ _ _ _ | exact ArgLe.nsn _ | (apply ArgLe.bsl; exact rfl; (first | exact rfl | (rw [List.length_map]; done) | (simp only [List.length_map]; done) | (simp; done) | (simp; omega)); (first | assumption | exact map_len (fun _ => rfl)))))); (case hf => exact .nest 2000001 rfl rfl rfl .nil); (case hap => exact ApartE.nil _); (case hng => exact rfl); intro res fs' hres _; obtain ⟨rfl, q', hq1, hq2, rfl⟩ := hres)
    | refine Wt.seq ?_
    | (apply Wt.regionK; exact rfl)
    | refine Wt.block ?_
    | refine Wt.skip ?_
    | refine RunK.nil ?_
    | (apply RunK.moveV; exact rfl; exact rfl)
    | (apply RunK.assignV; exact rfl; exact rfl)
    | (apply RunK.pickT; exact rfl; exact rfl; exact rfl)
    | (apply RunK.pickF; exact rfl; exact rfl; exact rfl)
    | (apply RunK.geq; exact rfl; exact rfl; exact rfl)
    | (apply RunK.lss; exact rfl; exact rfl; exact rfl)
    | (apply RunK.add; exact rfl; exact rfl; exact rfl; (first | omega | (simp only [List.length_map]; omega)))
    | (apply RunK.not; exact rfl; exact rfl)
    | (apply RunK.guard; exact rfl; exact rfl; exact rfl; all_goals (intro hg; (first | exact absurd hg (by decide) | skip); (first | (with_reducible replace hg := not_t hg) | (with_reducible replace hg := not_f hg) | skip); (first | (with_reducible replace hg := dec_t hg) | (with_reducible replace hg := dec_f hg) | skip); (first | (with_reducible exact absurd rfl hg) | skip); (repeat rw [List.length_map] at hg); try (exfalso; omega)))
    | (apply Wt.cond; exact rfl; all_goals (intro hg; (first | exact absurd hg (by decide) | skip); (first | (with_reducible replace hg := not_t hg) | (with_reducible replace hg := not_f hg) | skip); (first | (with_reducible replace hg := dec_t hg) | (with_reducible replace hg := dec_f hg) | skip); (first | (with_reducible exact absurd rfl hg) | skip); (repeat rw [List.length_map] at hg); try (exfalso; omega))))
            all_goals first
              | (exfalso; omega)
              | (refine ⟨(2 * i + 1, q', sw M i (2 * i + 1)), ⟨hq2, hq1, (by dsimp only; omega), hs, hp, hk⟩, by dsimp only; omega, ?_⟩; dsimp only; (refine Le.mk ?_ ?_; (repeat' (first | exact LeEnv.done | refine LeEnv.cons ?_ ?_ | exact PVLe.refl _ | exact PVLe.s (SVLe.nil _ _ _) | exact PVLe.s (SVLe.no _ _ _ _) | (refine PVLe.int ?_; first | rfl | omega | (simp; done) | (simp; omega)) | (refine PVLe.els ?_; first | rfl | assumption | (simp; done)) | (refine PVLe.bool ?_; first | rfl | assumption) | (refine PVLe.bsl ?_; first | rfl | assumption | (simp; done))));  (repeat' (first | exact LeBox.done | refine LeBox.cons ?_ ?_ | exact rfl))))
          · rw [decide_eq_false hl] at c1
            have hE := dn_end h4 (fun k k1 k2 k3 => by have := hmin k k1 k2 k3; omega)
            clear hsame
            repeat' (first
    | (apply RunK.mul; exact rfl; exact rfl; exact rfl; (first | omega | (simp only [List.length_map]; omega))) | (apply RunK.invokeV 2000000 [2000001] 900001 mLess; (case hw => exact rfl); (case hp => exact c3); (case hx => exact rfl); (case hk => exact rfl); (case hu => exact rfl); (case ha => (repeat (first | exact ArgsLe.nil | refine ArgsLe.cons ?_ ?_ | exact ArgLe.v _ | exact ArgLe.sl _ _ _ _ | exact ArgLe.nil _ | exact ArgLe.nil' | exact ArgLe.nsl _ _ _ _ _ | exact ArgLe.nsn _ | (apply ArgLe.bsl; exact rfl; (first | exact rfl | (rw [List.length_map]; done) | (simp only [List.length_map]; done) | (simp; done) | (simp; omega)); (first | assumption | exact map_len (fun _ => rfl)))))); (case hf => exact .nest 2000001 rfl rfl rfl .nil); (case hap => exact ApartE.nil _); (case hng => exact rfl); intro res fs' hres _; obtain ⟨rfl, rfl⟩ := hres) | (apply RunK.invokeV 2000000 [2000001] 900001 mLess; (case hw => exact rfl); (case hp => exact c1); (case hx => exact rfl); (case hk => exact rfl); (case hu => exact rfl); (case ha => (repeat (first | exact ArgsLe.nil | refine ArgsLe.cons ?_ ?_ | exact ArgLe.v _ | exact ArgLe.sl _ _ _ _ | exact ArgLe.nil _ | exact ArgLe.nil' | exact ArgLe.nsl _ _ _ _ _ | exact ArgLe.nsn _ | (apply ArgLe.bsl; exact rfl; (first | exact rfl | (rw [List.length_map]; done) | (simp only [List.length_map]; done) | (simp; done) | (simp; omega)); (first | assumption | exact map_len (fun _ => rfl)))))); (case hf => exact .nest 2000001 rfl rfl rfl .nil); (case hap => exact ApartE.nil _); (case hng => exact rfl); intro res fs' hres _; obtain ⟨rfl, rfl⟩ := hres)
    | refine Wt.seq ?_
    | (apply Wt.regionK; exact rfl)
    | refine Wt.ret ?_
    | refine Wt.block ?_
    | refine Wt.skip ?_
    | refine Wt.exit ?_
    | refine RunK.nil ?_
    | (apply RunK.moveV; exact rfl; exact rfl)
    | (apply RunK.assignV; exact rfl; exact rfl)
    | (apply RunK.pickT; exact rfl; exact rfl; exact rfl)
    | (apply RunK.pickF; exact rfl; exact rfl; exact rfl)
    | (apply RunK.geq; exact rfl; exact rfl; exact rfl)
    | (apply RunK.lss; exact rfl; exact rfl; exact rfl)
    | (apply RunK.gtr; exact rfl; exact rfl; exact rfl)
    | (apply RunK.add; exact rfl; exact rfl; exact rfl; (first | omega | (simp only [List.length_map]; omega)))
    | (apply RunK.not; exact rfl; exact rfl)
    | (apply RunK.guard; exact rfl; exact rfl; exact rfl; all_goals (intro hg; (first | exact absurd hg (by decide) | skip); (first | (with_reducible replace hg := not_t hg) | (with_reducible replace hg := not_f hg) | skip); (first | (with_reducible replace hg := dec_t hg) | (with_reducible replace hg := dec_f hg) | skip); (first | (with_reducible exact absurd rfl hg) | skip); (repeat rw [List.length_map] at hg); try (exfalso; omega)))
    | (apply Wt.cond; exact rfl; all_goals (intro hg; (first | exact absurd hg (by decide) | skip); (first | (with_reducible replace hg := not_t hg) | (with_reducible replace hg := not_f hg) | skip); (first | (with_reducible replace hg := dec_t hg) | (with_reducible replace hg := dec_f hg) | skip); (first | (with_reducible exact absurd rfl hg) | skip); (repeat rw [List.length_map] at hg); try (exfalso; omega))))
            all_goals first
              | (exfalso; omega)
              | exact ActEnd.mk (.s (.v (.bool (decide ((0 : Int) < (i : Int)))))) _ ⟨⟨_, rfl⟩, q, M, h2, h1, h5, hE, h6, rfl⟩ (by apply ResOk.v1; exact rfl; exact rfl) rfl rfl (.nest 2000001 rfl .nil) (.same 2000000 rfl (.nest .nil))
      · have hmin : ∀ k, 0 < k → k < n → (k - 1) / 2 = i → at0 M (2 * i + 1) ≤ at0 M k := fun k k1 k2 k3 => by
          obtain rfl : k = 2 * i + 1 := by omega
          exact Nat.le_refl _
        by_cases hl : at0 M (2 * i + 1) < at0 M i
        · rw [decide_eq_true hl] at c1
          have hs := dn_step h4 (by omega) (by omega) (by omega) (by omega) hmin hl
          have hp := (sw_perm (i := i) (j := 2 * i + 1) (by omega) (by omega)).trans h5
          have hk := hsame (2 * i + 1) (by omega)
          clear hsame
          repeat' (first
    | (apply RunK.mul; exact rfl; exact rfl; exact rfl; (first | omega | (simp only [List.length_map]; omega))) | (apply RunK.invokeV 2000000 [2000001] 900001 mLess; (case hw => exact rfl); (case hp => exact c1); (case hx => exact rfl); (case hk => exact rfl); (case hu => exact rfl); (case ha => (repeat (first | exact ArgsLe.nil | refine ArgsLe.cons ?_ ?_ | exact ArgLe.v _ | exact ArgLe.sl _ _ _ _ | exact ArgLe.nil _ | exact ArgLe.nil' | exact ArgLe.nsl _ _ _ _ _ | exact ArgLe.nsn _ | (apply ArgLe.bsl; exact rfl; (first | exact rfl | (rw [List.length_map]; done) | (simp only [List.length_map]; done) | (simp; done) | (simp; omega)); (first | assumption | exact map_len (fun _ => rfl)))))); (case hf => exact .nest 2000001 rfl rfl rfl .nil); (case hap => exact ApartE.nil _); (case hng => exact rfl); intro res fs' hres _; obtain ⟨rfl, rfl⟩ := hres) | (apply RunK.invokeV 2000000 [2000001] 900001 mSwap; (case hw => exact rfl); (case hp => exact c2); (case hx => exact rfl); (case hk => exact rfl); (case hu => exact rfl); (case ha => (repeat (first | exact ArgsLe.nil | refine ArgsLe.cons ?_ ?_ | exact ArgLe.v _ | exact ArgLe.sl _ _ _ _ | exact ArgLe.nil _ | exact ArgLe.nil' | exact ArgLe.nsl _ _ _ _ _ | exact ArgLe.nsn _ | (apply ArgLe.bsl; exact rfl; (first | exact rfl | (rw [List.length_map]; done) | (simp only [List.length_map]; done) | (simp; done) | (simp; omega)); (first | assumption | exact map_len (fun _ => rfl)))))); (case hf => exact .nest 2000001 rfl rfl rfl .nil); (case hap => exact ApartE.nil _); (case hng => exact rfl); intro res fs' hres _; obtain ⟨rfl, q', hq1, hq2, rfl⟩ := hres)
    | refine Wt.seq ?_
    | (apply Wt.regionK; exact rfl)
    | refine Wt.block ?_
    | refine Wt.skip ?_
    | refine RunK.nil ?_
    | (apply RunK.moveV; exact rfl; exact rfl)
    | (apply RunK.assignV; exact rfl; exact rfl)
    | (apply RunK.pickF; exact rfl; exact rfl; exact rfl)
    | (apply RunK.geq; exact rfl; exact rfl; exact rfl)
    | (apply RunK.lss; exact rfl; exact rfl; exact rfl)
    | (apply RunK.add; exact rfl; exact rfl; exact rfl; (first | omega | (simp only [List.length_map]; omega)))
    | (apply RunK.not; exact rfl; exact rfl)
    | (apply RunK.skip; exact rfl; exact rfl)
    | (apply RunK.guard; exact rfl; exact rfl; exact rfl; all_goals (intro hg; (first | exact absurd hg (by decide) | skip); (first | (with_reducible replace hg := not_t hg) | (with_reducible replace hg := not_f hg) | skip); (first | (with_reducible replace hg := dec_t hg) | (with_reducible replace hg := dec_f hg) | skip); (first | (with_reducible exact absurd rfl hg) | skip); (repeat rw [List.length_map] at hg); try (exfalso; omega)))
    | (apply Wt.cond; exact rfl; all_goals (intro hg; (first | exact absurd hg (by decide) | skip); (first | (with_reducible replace hg := not_t hg) | (with_reducible replace hg := not_f hg) | skip); (first | (with_reducible replace hg := dec_t hg) | (with_reducible replace hg := dec_f hg) | skip); (first | (with_reducible exact absurd rfl hg) | skip); (repeat rw [List.length_map] at hg); try (exfalso; omega))))
          all_goals first
            | (exfalso; omega)
            | (refine ⟨(2 * i + 1, q', sw M i (2 * i + 1)), ⟨hq2, hq1, (by dsimp only; omega), hs, hp, hk⟩, by dsimp only; omega, ?_⟩; dsimp only; (refine Le.mk ?_ ?_; (repeat' (first | exact LeEnv.done | refine LeEnv.cons ?_ ?_ | exact PVLe.refl _ | exact PVLe.s (SVLe.nil _ _ _) | exact PVLe.s (SVLe.no _ _ _ _) | (refine PVLe.int ?_; first | rfl | omega | (simp; done) | (simp; omega)) | (refine PVLe.els ?_; first | rfl | assumption | (simp; done)) | (refine PVLe.bool ?_; first | rfl | assumption) | (refine PVLe.bsl ?_; first | rfl | assumption | (simp; done))));  (repeat' (first | exact LeBox.done | refine LeBox.cons ?_ ?_ | exact rfl))))
        · rw [decide_eq_false hl] at c1
          have hE := dn_end h4 (fun k k1 k2 k3 => by have := hmin k k1 k2 k3; omega)
          clear hsame
          repeat' (first
    | (apply RunK.mul; exact rfl; exact rfl; exact rfl; (first | omega | (simp only [List.length_map]; omega))) | (apply RunK.invokeV 2000000 [2000001] 900001 mLess; (case hw => exact rfl); (case hp => exact c1); (case hx => exact rfl); (case hk => exact rfl); (case hu => exact rfl); (case ha => (repeat (first | exact ArgsLe.nil | refine ArgsLe.cons ?_ ?_ | exact ArgLe.v _ | exact ArgLe.sl _ _ _ _ | exact ArgLe.nil _ | exact ArgLe.nil' | exact ArgLe.nsl _ _ _ _ _ | exact ArgLe.nsn _ | (apply ArgLe.bsl; exact rfl; (first | exact rfl | (rw [List.length_map]; done) | (simp only [List.length_map]; done) | (simp; done) | (simp; omega)); (first | assumption | exact map_len (fun _ => rfl)))))); (case hf => exact .nest 2000001 rfl rfl rfl .nil); (case hap => exact ApartE.nil _); (case hng => exact rfl); intro res fs' hres _; obtain ⟨rfl, rfl⟩ := hres)
    | refine Wt.seq ?_
    | (apply Wt.regionK; exact rfl)
    | refine Wt.ret ?_
    | refine Wt.block ?_
    | refine Wt.skip ?_
    | refine Wt.exit ?_
    | refine RunK.nil ?_
    | (apply RunK.moveV; exact rfl; exact rfl)
    | (apply RunK.assignV; exact rfl; exact rfl)
    | (apply RunK.pickF; exact rfl; exact rfl; exact rfl)
    | (apply RunK.geq; exact rfl; exact rfl; exact rfl)
    | (apply RunK.lss; exact rfl; exact rfl; exact rfl)
    | (apply RunK.gtr; exact rfl; exact rfl; exact rfl)
    | (apply RunK.add; exact rfl; exact rfl; exact rfl; (first | omega | (simp only [List.length_map]; omega)))
    | (apply RunK.not; exact rfl; exact rfl)
    | (apply RunK.skip; exact rfl; exact rfl)
    | (apply RunK.guard; exact rfl; exact rfl; exact rfl; all_goals (intro hg; (first | exact absurd hg (by decide) | skip); (first | (with_reducible replace hg := not_t hg) | (with_reducible replace hg := not_f hg) | skip); (first | (with_reducible replace hg := dec_t hg) | (with_reducible replace hg := dec_f hg) | skip); (first | (with_reducible exact absurd rfl hg) | skip); (repeat rw [List.length_map] at hg); try (exfalso; omega)))
    | (apply Wt.cond; exact rfl; all_goals (intro hg; (first | exact absurd hg (by decide) | skip); (first | (with_reducible replace hg := not_t hg) | (with_reducible replace hg := not_f hg) | skip); (first | (with_reducible replace hg := dec_t hg) | (with_reducible replace hg := dec_f hg) | skip); (first | (with_reducible exact absurd rfl hg) | skip); (repeat rw [List.length_map] at hg); try (exfalso; omega))))
          all_goals first
            | (exfalso; omega)
            | exact ActEnd.mk (.s (.v (.bool (decide ((0 : Int) < (i : Int)))))) _ ⟨⟨_, rfl⟩, q, M, h2, h1, h5, hE, h6, rfl⟩ (by apply ResOk.v1; exact rfl; exact rfl) rfl rfl (.nest 2000001 rfl .nil) (.same 2000000 rfl (.nest .nil))
end Go.Proofs.Ytfokjpmcifkoeaa
