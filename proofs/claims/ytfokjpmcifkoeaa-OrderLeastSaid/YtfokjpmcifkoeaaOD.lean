/- The walks of container/heap's up and down at a heap of nodes. No condition. -/
import Derived.Test.YtfokjpmcifkoeaaOC
namespace Go.Proofs.Ytfokjpmcifkoeaa
open Pv Go.RowKit Scc Heap
set_option maxRecDepth 100000 in
theorem mLen : MethodAt Try.prog 53 54 "Len" 45 false := .of (by kernel_rfl) Try.underlying53
set_option maxRecDepth 100000 in
theorem mLess : MethodAt Try.prog 53 54 "Less" 111 false := .of (by kernel_rfl) Try.underlying53
set_option maxRecDepth 100000 in
theorem mSwap : MethodAt Try.prog 53 54 "Swap" 114 false := .of (by kernel_rfl) Try.underlying53
set_option maxRecDepth 100000 in
theorem mPush : MethodAt Try.prog 53 54 "Push" 113 true := .of (by kernel_rfl) Try.underlying53
set_option maxRecDepth 100000 in
theorem mPop : MethodAt Try.prog 53 54 "Pop" 112 true := .of (by kernel_rfl) Try.underlying53
/-- The heap as container/heap holds it. -/
abbrev hI (B : Nat) : Value := .iface 53 (.pointer (some ⟨B, 0, none⟩))
set_option maxRecDepth 100000 in
theorem quo2 {P : Program} {t : TypeId} {x y : Operand} {a c : Int} (h : a.tdiv 2 = c) (hb : -1000000000 ≤ c ∧ c ≤ 1000000000) : BinRun P .quo t x y (.int .i64 a) (.int .i64 2) (.int .i64 c) := by
  have := BinRun.quo (P := P) (t := t) (x := x) (y := y) (k := .i64) (a := a) (b := 2) (by decide)
  rwa [wrap_i64 (by omega), h] at this
set_option maxRecDepth 100000 in
theorem par (j : Nat) : ((j : Int) - 1).tdiv 2 = (((j - 1) / 2 : Nat) : Int) := by
  cases j with
  | zero => rfl
  | succ j =>
    rw [show ((j + 1 : Nat) : Int) - 1 = ((j : Nat) : Int) by omega, Nat.add_sub_cancel]
    rfl
set_option maxRecDepth 100000 in
theorem hUp (B : Nat) (r : NRow) (L : List Nat) (j : Nat) (h : RowL r L) (hL : L.length < 1000000) (hj : j < L.length) (hU : Up L j) : Acts Try.prog 60 [.v (hI B), .v (.int .i64 (j : Int))] (heapF B r) [] (fun res fs => res = .tup [] ∧ ∃ (r' : NRow) (L' : List Nat), r'.hdr = r.hdr ∧ RowL r' L' ∧ L'.Perm L ∧ Hp L' L'.length ∧ fs = [.nest 1 1 [r']]) := by
  refine acts_of_wt Try.func60 rfl (by decide) _ Try.ntmps60 rfl Try.results60 rfl (by simp [ownOf]) fun w0 W => ?_
  repeat' (first
    | (apply RunK.indexN; exact rfl; exact rfl; exact rfl; (first | exact rfl | exact (rfl : (0 : Int) = ((0 : Nat) : Int)) | exact (rfl : (1 : Int) = ((1 : Nat) : Int)) | exact (rfl : (2 : Int) = ((2 : Nat) : Int)) | exact (rfl : (3 : Int) = ((3 : Nat) : Int)) | assumption); (first | omega | exact lt_of_get ‹_› | (rw [List.length_map]; omega) | (simp; omega))) | (apply RunK.loadNS; exact rfl; exact rfl; assumption; exact rfl) | (apply RunK.lenNs; exact rfl; exact rfl) | (apply RunK.moveNs; exact rfl; exact rfl) | (apply RunK.assignNs; exact rfl; exact rfl)
    | refine Wt.block ?_)
  refine Wt.loop (fun s : Nat × NRow × List Nat => ⟨[(0, .s (.v (hI B))), (1, .s (.v (.int .i64 s.1))), (2000000, .kept B (.cells #[r.hdr] 54 (0, 0))), (2000001, .nest 1 1 [s.2.1]), (2999999, .old W (keptOf (heapF B r)))], []⟩) (fun s => RowL s.2.1 s.2.2 ∧ s.2.1.hdr = r.hdr ∧ s.1 < s.2.2.length ∧ Up s.2.2 s.1 ∧ s.2.2.Perm L) (fun s => s.1) (j, r, L) ⟨h, rfl, hj, hU, .refl _⟩ ?_ ?_
  · (refine Le.mk ?_ ?_; (repeat' (first | exact LeEnv.done | refine LeEnv.cons ?_ ?_ | exact PVLe.refl _ | exact PVLe.s (SVLe.nil _ _ _) | exact PVLe.s (SVLe.no _ _ _ _) | (refine PVLe.int ?_; first | rfl | omega | (simp; done) | (simp; omega)) | (refine PVLe.els ?_; first | rfl | assumption | (simp; done)) | (refine PVLe.bool ?_; first | rfl | assumption) | (refine PVLe.bsl ?_; first | rfl | assumption | (simp; done))));  (repeat' (first | exact LeBox.done | refine LeBox.cons ?_ ?_ | exact rfl)))
  · clear h hj hU
    rintro ⟨j, q, M⟩ ⟨h1, h2, h3, h4, h5⟩
    dsimp only at h1 h2 h3 h4 h5 ⊢
    have hml := h5.length_eq
    have hpar := par j
    have hi : (j - 1) / 2 < M.length := by omega
    have c1 := nLess q M h1 j ((j - 1) / 2) h3 hi
    have c2 := nSwap q M h1 ((j - 1) / 2) j hi h3
    rw [h2] at c1 c2
    have hend : ∀ s : St, s.look 2000000 = .kept B (.cells #[r.hdr] 54 (0, 0)) → True := fun _ _ => trivial
    clear hend
    by_cases h0 : j = 0
    · subst h0
      repeat' (first
    | (apply RunK.bin; exact rfl; exact rfl; exact rfl; exact quo2 hpar ⟨by omega, by omega⟩)
    | refine Wt.seq ?_
    | (apply Wt.regionK; exact rfl)
    | refine Wt.block ?_
    | refine Wt.exit ?_
    | refine RunK.nil ?_
    | (apply RunK.moveV; exact rfl; exact rfl)
    | (apply RunK.assignV; exact rfl; exact rfl)
    | (apply RunK.pickT; exact rfl; exact rfl; exact rfl)
    | (apply RunK.eql; exact rfl; exact rfl; exact rfl)
    | (apply RunK.sub; exact rfl; exact rfl; exact rfl; (first | omega | (simp only [List.length_map]; omega)))
    | (apply RunK.skip; exact rfl; exact rfl)
    | (apply Wt.cond; exact rfl; all_goals (intro hg; (first | exact absurd hg (by decide) | skip); (first | (with_reducible replace hg := not_t hg) | (with_reducible replace hg := not_f hg) | skip); (first | (with_reducible replace hg := dec_t hg) | (with_reducible replace hg := dec_f hg) | skip); (first | (with_reducible exact absurd rfl hg) | skip); (repeat rw [List.length_map] at hg); try (exfalso; omega))))
      all_goals first
        | (exfalso; omega)
        | exact ActEnd.mk (.tup []) _ ⟨rfl, q, M, h2, h1, h5, up_end h4 (.inl rfl), rfl⟩ .zero rfl rfl (.nest 2000001 rfl .nil) (.same 2000000 rfl (.nest .nil))
    · by_cases hl : at0 M j < at0 M ((j - 1) / 2)
      · rw [decide_eq_true hl] at c1
        have hs := up_step h4 h3 (by omega) hl
        have hp := (sw_perm hi h3).trans h5
        repeat' (first
    | (apply RunK.bin; exact rfl; exact rfl; exact rfl; exact quo2 hpar ⟨by omega, by omega⟩) | (apply RunK.invokeV 2000000 [2000001] 900001 mLess; (case hw => exact rfl); (case hp => exact c1); (case hx => exact rfl); (case hk => exact rfl); (case hu => exact rfl); (case ha => (repeat (first | exact ArgsLe.nil | refine ArgsLe.cons ?_ ?_ | exact ArgLe.v _ | exact ArgLe.sl _ _ _ _ | exact ArgLe.nil _ | exact ArgLe.nil' | exact ArgLe.nsl _ _ _ _ _ | exact ArgLe.nsn _ | (apply ArgLe.bsl; exact rfl; (first | exact rfl | (rw [List.length_map]; done) | (simp only [List.length_map]; done) | (simp; done) | (simp; omega)); (first | assumption | exact map_len (fun _ => rfl)))))); (case hf => exact .nest 2000001 rfl rfl rfl .nil); (case hap => exact ApartE.nil _); (case hng => exact rfl); intro res fs' hres _; obtain ⟨rfl, rfl⟩ := hres) | (apply RunK.invokeV 2000000 [2000001] 900001 mSwap; (case hw => exact rfl); (case hp => exact c2); (case hx => exact rfl); (case hk => exact rfl); (case hu => exact rfl); (case ha => (repeat (first | exact ArgsLe.nil | refine ArgsLe.cons ?_ ?_ | exact ArgLe.v _ | exact ArgLe.sl _ _ _ _ | exact ArgLe.nil _ | exact ArgLe.nil' | exact ArgLe.nsl _ _ _ _ _ | exact ArgLe.nsn _ | (apply ArgLe.bsl; exact rfl; (first | exact rfl | (rw [List.length_map]; done) | (simp only [List.length_map]; done) | (simp; done) | (simp; omega)); (first | assumption | exact map_len (fun _ => rfl)))))); (case hf => exact .nest 2000001 rfl rfl rfl .nil); (case hap => exact ApartE.nil _); (case hng => exact rfl); intro res fs' hres _; obtain ⟨rfl, q', hq1, hq2, rfl⟩ := hres)
    | refine Wt.seq ?_
    | (apply Wt.regionK; exact rfl)
    | refine Wt.block ?_
    | refine Wt.skip ?_
    | refine RunK.nil ?_
    | (apply RunK.moveV; exact rfl; exact rfl)
    | (apply RunK.assignV; exact rfl; exact rfl)
    | (apply RunK.pickF; exact rfl; exact rfl; exact rfl)
    | (apply RunK.eql; exact rfl; exact rfl; exact rfl)
    | (apply RunK.sub; exact rfl; exact rfl; exact rfl; (first | omega | (simp only [List.length_map]; omega)))
    | (apply RunK.not; exact rfl; exact rfl)
    | (apply RunK.guard; exact rfl; exact rfl; exact rfl; all_goals (intro hg; (first | exact absurd hg (by decide) | skip); (first | (with_reducible replace hg := not_t hg) | (with_reducible replace hg := not_f hg) | skip); (first | (with_reducible replace hg := dec_t hg) | (with_reducible replace hg := dec_f hg) | skip); (first | (with_reducible exact absurd rfl hg) | skip); (repeat rw [List.length_map] at hg); try (exfalso; omega)))
    | (apply Wt.cond; exact rfl; all_goals (intro hg; (first | exact absurd hg (by decide) | skip); (first | (with_reducible replace hg := not_t hg) | (with_reducible replace hg := not_f hg) | skip); (first | (with_reducible replace hg := dec_t hg) | (with_reducible replace hg := dec_f hg) | skip); (first | (with_reducible exact absurd rfl hg) | skip); (repeat rw [List.length_map] at hg); try (exfalso; omega))))
        all_goals first
          | (exfalso; omega)
          | (refine ⟨((j - 1) / 2, q', sw M ((j - 1) / 2) j), ⟨hq2, hq1, (by dsimp only; rw [sw_len]; exact hi), hs, hp⟩, by dsimp only; omega, ?_⟩; dsimp only; (refine Le.mk ?_ ?_; (repeat' (first | exact LeEnv.done | refine LeEnv.cons ?_ ?_ | exact PVLe.refl _ | exact PVLe.s (SVLe.nil _ _ _) | exact PVLe.s (SVLe.no _ _ _ _) | (refine PVLe.int ?_; first | rfl | omega | (simp; done) | (simp; omega)) | (refine PVLe.els ?_; first | rfl | assumption | (simp; done)) | (refine PVLe.bool ?_; first | rfl | assumption) | (refine PVLe.bsl ?_; first | rfl | assumption | (simp; done))));  (repeat' (first | exact LeBox.done | refine LeBox.cons ?_ ?_ | exact rfl))))
      · rw [decide_eq_false hl] at c1
        repeat' (first
    | (apply RunK.bin; exact rfl; exact rfl; exact rfl; exact quo2 hpar ⟨by omega, by omega⟩) | (apply RunK.invokeV 2000000 [2000001] 900001 mLess; (case hw => exact rfl); (case hp => exact c1); (case hx => exact rfl); (case hk => exact rfl); (case hu => exact rfl); (case ha => (repeat (first | exact ArgsLe.nil | refine ArgsLe.cons ?_ ?_ | exact ArgLe.v _ | exact ArgLe.sl _ _ _ _ | exact ArgLe.nil _ | exact ArgLe.nil' | exact ArgLe.nsl _ _ _ _ _ | exact ArgLe.nsn _ | (apply ArgLe.bsl; exact rfl; (first | exact rfl | (rw [List.length_map]; done) | (simp only [List.length_map]; done) | (simp; done) | (simp; omega)); (first | assumption | exact map_len (fun _ => rfl)))))); (case hf => exact .nest 2000001 rfl rfl rfl .nil); (case hap => exact ApartE.nil _); (case hng => exact rfl); intro res fs' hres _; obtain ⟨rfl, rfl⟩ := hres)
    | refine Wt.seq ?_
    | (apply Wt.regionK; exact rfl)
    | refine Wt.block ?_
    | refine Wt.exit ?_
    | refine RunK.nil ?_
    | (apply RunK.moveV; exact rfl; exact rfl)
    | (apply RunK.assignV; exact rfl; exact rfl)
    | (apply RunK.pickF; exact rfl; exact rfl; exact rfl)
    | (apply RunK.eql; exact rfl; exact rfl; exact rfl)
    | (apply RunK.sub; exact rfl; exact rfl; exact rfl; (first | omega | (simp only [List.length_map]; omega)))
    | (apply RunK.not; exact rfl; exact rfl)
    | (apply RunK.guard; exact rfl; exact rfl; exact rfl; all_goals (intro hg; (first | exact absurd hg (by decide) | skip); (first | (with_reducible replace hg := not_t hg) | (with_reducible replace hg := not_f hg) | skip); (first | (with_reducible replace hg := dec_t hg) | (with_reducible replace hg := dec_f hg) | skip); (first | (with_reducible exact absurd rfl hg) | skip); (repeat rw [List.length_map] at hg); try (exfalso; omega)))
    | (apply Wt.cond; exact rfl; all_goals (intro hg; (first | exact absurd hg (by decide) | skip); (first | (with_reducible replace hg := not_t hg) | (with_reducible replace hg := not_f hg) | skip); (first | (with_reducible replace hg := dec_t hg) | (with_reducible replace hg := dec_f hg) | skip); (first | (with_reducible exact absurd rfl hg) | skip); (repeat rw [List.length_map] at hg); try (exfalso; omega))))
        all_goals first
          | (exfalso; omega)
          | exact ActEnd.mk (.tup []) _ ⟨rfl, q, M, h2, h1, h5, up_end h4 (.inr hl), rfl⟩ .zero rfl rfl (.nest 2000001 rfl .nil) (.same 2000000 rfl (.nest .nil))
end Go.Proofs.Ytfokjpmcifkoeaa
