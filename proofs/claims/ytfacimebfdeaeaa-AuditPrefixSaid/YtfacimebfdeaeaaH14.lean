/- The walk of the law AuditPrefix. -/
import Derived.Test.YtfacimebfdeaeaaH13
namespace Go.Proofs.Ytfacimebfdeaeaa
open Pv Go.RowKit
set_option maxRecDepth 100000 in
theorem hasS_bit_ {s z : Nat} (h : z < 64) : hasS s (z : Int) = s.testBit z := by unfold hasS userB; rw [decide_eq_true ⟨by omega, by omega⟩]; rfl
set_option maxRecDepth 100000 in
theorem us_rem (u : Nat) : ((u : Int)).tmod 64 = ((u % 64 : Nat) : Int) := by rw [Int.tmod_eq_emod_of_nonneg (by omega)]; omega
set_option maxRecDepth 100000 in
theorem filter_at {α : Type} {p : α → Bool} {l : List α} {k : Nat} {x : α} (h : l[k]? = some x) (hp : p x = true) : (l.filter p)[((l.take k).filter p).length]? = some x := by
  obtain ⟨hk, he⟩ := List.getElem?_eq_some_iff.1 h
  have e : l.filter p = (l.take k).filter p ++ (l.drop k).filter p := by rw [← List.filter_append, List.take_append_drop]
  rw [e, List.getElem?_append_right (Nat.le_refl _), Nat.sub_self, List.drop_eq_getElem_cons hk, he, List.filter_cons_of_pos hp]
  rfl
set_option maxRecDepth 100000 in
theorem bit_zero (b : Bool) : ((b.toNat : Nat) : Int) = 0 ↔ b = false := by cases b <;> decide
set_option maxHeartbeats 4000000 in
set_option maxRecDepth 100000 in
theorem lawPrefix (us : Nat) (_hus : us < 256) (l : List Event) (_hl : l.length * 72 ≤ 140737488351232) (hol : ∀ x ∈ l, x.ok) (m : List Event) (_hm : m.length * 72 ≤ 140737488351232) (hom : ∀ x ∈ m, x.ok) : Pure Try.prog 11 [.v (.int .u8 (us : Int)), events l, events m] (.s (.v (.bool true))) := by
  by_cases hs : ¬(l.length ≤ 60 ∧ m.length ≤ 60)
  · refine pure_of_wt Try.func11 rfl (by decide) _ Try.ntmps11 rfl Try.results11 fun w0 => ?_
    repeat' (first
    | refine Wt.seq ?_
    | (apply Wt.regionK; exact rfl)
    | refine Wt.ret ?_
    | refine RunK.nil ?_
    | (apply RunK.moveV; exact rfl; exact rfl)
    | (apply RunK.assignV; exact rfl; exact rfl)
    | (apply RunK.moveS; exact rfl; exact rfl)
    | (apply RunK.pickT; exact rfl; exact rfl; exact rfl)
    | (apply RunK.pickF; exact rfl; exact rfl; exact rfl)
    | (apply RunK.gtr; exact rfl; exact rfl; exact rfl)
    | (apply RunK.len; exact rfl; exact rfl)
    | (apply RunK.skip; exact rfl; exact rfl)
    | (apply RunK.guard; exact rfl; exact rfl; exact rfl; all_goals (intro hg; (first | exact absurd hg (by decide) | skip); (first | (with_reducible replace hg := not_t hg) | (with_reducible replace hg := not_f hg) | skip); (first | (with_reducible replace hg := dec_t hg) | (with_reducible replace hg := dec_f hg) | skip); (first | (with_reducible exact absurd rfl hg) | skip); (repeat rw [List.length_map] at hg); try (exfalso; omega)))
    | (apply Wt.cond; exact rfl; all_goals (intro hg; (first | exact absurd hg (by decide) | skip); (first | (with_reducible replace hg := not_t hg) | (with_reducible replace hg := not_f hg) | skip); (first | (with_reducible replace hg := dec_t hg) | (with_reducible replace hg := dec_f hg) | skip); (first | (with_reducible exact absurd rfl hg) | skip); (repeat rw [List.length_map] at hg); try (exfalso; omega))))
    all_goals (apply ResOk.v1; exact rfl; exact rfl)
  replace hs := Decidable.not_not.1 hs
  obtain ⟨z, hzd⟩ : ∃ z, z = us % 64 := ⟨_, rfl⟩
  have hz : z < 64 := by omega
  have hLl : (l ++ m).length = l.length + m.length := List.length_append
  have hoL : ∀ x ∈ l ++ m, x.ok := fun x hx => (List.mem_append.1 hx).elim (hol x) (hom x)
  have h1 := auditEvents (z : Int) l (by omega) hol
  have h2 := auditEvents (z : Int) (l ++ m) (by omega) hoL
  have n1 : (seenEvent z l).length ≤ l.length := List.length_filter_le _ _
  have n2 : (seenEvent z (l ++ m)).length ≤ (l ++ m).length := List.length_filter_le _ _
  have g1 := auditGrows l (l ++ m) (by omega) (by omega)
  rw [show growsB l (l ++ m) = true from decide_eq_true (List.take_left' rfl).symm] at g1
  have g2 := auditGrows (seenEvent z l) (seenEvent z (l ++ m)) (by omega) (by omega)
  rw [show growsB (seenEvent z l) (seenEvent z (l ++ m)) = true from decide_eq_true (by unfold seenEvent; rw [List.filter_append]; exact (List.take_left' rfl).symm)] at g2
  have g3 : 0 < m.length → Pure Try.prog 42 [events (l ++ m), events l] (.s (.v (.bool false))) := fun hm => by
    have := auditGrows (l ++ m) l (by omega) (by omega)
    rwa [growsB_long (by omega)] at this
  have hL : l.map Event.vals ++ m.map Event.vals = (l ++ m).map Event.vals := List.map_append.symm
  have hfa : ∀ (k : Nat) (x : Event), (l ++ m)[k]? = some x → hasS x.to (z : Int) = true → (seenEvent z (l ++ m))[(((l ++ m).take k).filter fun x => hasS x.to (z : Int)).length]? = some x := fun k x h hp => filter_at h hp
  have hfe : (((l ++ m).take (l ++ m).length).filter fun x => hasS x.to (z : Int)).length = (seenEvent z (l ++ m)).length := by rw [List.take_length]; rfl
  unfold events at h2 g1 g3
  rw [← hL] at h2 g1 g3
  generalize seenEvent z l = A at *
  generalize seenEvent z (l ++ m) = B at *
  have b1 : ∀ t o o2, BinRun Try.prog .rem t o o2 (.int .u8 (us : Int)) (.int .u8 64) (.int .u8 (z : Int)) := fun t o o2 => by
    have := BinRun.rem (P := Try.prog) (t := t) (x := o) (y := o2) (k := .u8) (a := (us : Int)) (b := 64) (by decide)
    rwa [us_rem, ← hzd] at this
  have b2 : ∀ (s : Nat) t o o2, BinRun Try.prog .shr t o o2 (.int .u64 (s : Int)) (.int .u64 (z : Int)) (.int .u64 ((s / 2 ^ z : Nat) : Int)) := fun s t o o2 => by
    have := BinRun.shr (P := Try.prog) (t := t) (x := o) (y := o2) (k := .u64) (k' := .u64) (a := (s : Int)) (b := (z : Int)) (by omega)
    rwa [shr_bit (by omega) (by omega), Int.toNat_natCast] at this
  have b3 : ∀ (s : Nat) t o o2, BinRun Try.prog .rem t o o2 (.int .u64 ((s / 2 ^ z : Nat) : Int)) (.int .u64 2) (.int .u64 (((s.testBit z).toNat : Nat) : Int)) := fun s t o o2 => by
    have := BinRun.rem (P := Try.prog) (t := t) (x := o) (y := o2) (k := .u64) (a := ((s / 2 ^ z : Nat) : Int)) (b := 2) (by decide)
    rwa [u8_rem] at this
  refine pure_of_wt Try.func11 rfl (by decide) _ Try.ntmps11 rfl Try.results11 fun w0 => ?_
  repeat' (first
    | (apply RunK.callS; exact rfl; exact (copyEvents l (by omega)); (repeat (first | exact ArgsLe.nil | refine ArgsLe.cons ?_ ?_ | exact ArgLe.v _ | exact ArgLe.sl _ _ _ _ | exact ArgLe.nil _ | exact ArgLe.nil' | (apply ArgLe.bsl; exact rfl; (first | exact rfl | (rw [List.length_map]; done) | (simp only [List.length_map]; done) | (simp; done) | (simp; omega)); (first | assumption | exact map_len (fun _ => rfl))))); exact rfl) | (first | (apply RunK.append; exact rfl; exact rfl; exact rfl; (first | exact ReadLe.sl _ _ _ _ | exact ReadLe.nil _); exact rfl; (first | exact one_rows rfl | exact one_map (fun _ => rfl) _); (first | exact app_b1 (by omega) | exact app_b2 (by omega) | exact app_b3 (by omega) | exact app_b4 (by omega) | exact app_b5 (by omega))) | (apply RunK.appendN; exact rfl; exact rfl; exact rfl; (first | exact ReadLe.sl _ _ _ _ | exact ReadLe.nil _); exact rfl; (first | exact one_rows rfl | exact one_map (fun _ => rfl) _); (first | exact app_b1 (by omega) | exact app_b2 (by omega) | exact app_b3 (by omega) | exact app_b4 (by omega) | exact app_b5 (by omega))) | (apply RunK.appendF; exact rfl; exact rfl; exact rfl; (first | exact ReadLe.sl _ _ _ _ | exact ReadLe.nil _); (first | exact one_rows rfl | exact one_map (fun _ => rfl) _); (first | exact app_b1 (by omega) | exact app_b2 (by omega) | exact app_b3 (by omega) | exact app_b4 (by omega) | exact app_b5 (by omega)))) | (apply RunK.callS; exact rfl; exact h1; (repeat (first | exact ArgsLe.nil | refine ArgsLe.cons ?_ ?_ | exact ArgLe.v _ | exact ArgLe.sl _ _ _ _ | exact ArgLe.nil _ | exact ArgLe.nil' | (apply ArgLe.bsl; exact rfl; (first | exact rfl | (rw [List.length_map]; done) | (simp only [List.length_map]; done) | (simp; done) | (simp; omega)); (first | assumption | exact map_len (fun _ => rfl))))); exact rfl) | (apply RunK.callS; exact rfl; exact h2; (repeat (first | exact ArgsLe.nil | refine ArgsLe.cons ?_ ?_ | exact ArgLe.v _ | exact ArgLe.sl _ _ _ _ | exact ArgLe.nil _ | exact ArgLe.nil' | (apply ArgLe.bsl; exact rfl; (first | exact rfl | (rw [List.length_map]; done) | (simp only [List.length_map]; done) | (simp; done) | (simp; omega)); (first | assumption | exact map_len (fun _ => rfl))))); exact rfl) | (apply RunK.callS; exact rfl; exact g1; (repeat (first | exact ArgsLe.nil | refine ArgsLe.cons ?_ ?_ | exact ArgLe.v _ | exact ArgLe.sl _ _ _ _ | exact ArgLe.nil _ | exact ArgLe.nil' | (apply ArgLe.bsl; exact rfl; (first | exact rfl | (rw [List.length_map]; done) | (simp only [List.length_map]; done) | (simp; done) | (simp; omega)); (first | assumption | exact map_len (fun _ => rfl))))); exact rfl) | (apply RunK.callS; exact rfl; exact g2; (repeat (first | exact ArgsLe.nil | refine ArgsLe.cons ?_ ?_ | exact ArgLe.v _ | exact ArgLe.sl _ _ _ _ | exact ArgLe.nil _ | exact ArgLe.nil' | (apply ArgLe.bsl; exact rfl; (first | exact rfl | (rw [List.length_map]; done) | (simp only [List.length_map]; done) | (simp; done) | (simp; omega)); (first | assumption | exact map_len (fun _ => rfl))))); exact rfl) | (apply RunK.callS; exact rfl; exact (g3 (by omega)); (repeat (first | exact ArgsLe.nil | refine ArgsLe.cons ?_ ?_ | exact ArgLe.v _ | exact ArgLe.sl _ _ _ _ | exact ArgLe.nil _ | exact ArgLe.nil' | (apply ArgLe.bsl; exact rfl; (first | exact rfl | (rw [List.length_map]; done) | (simp only [List.length_map]; done) | (simp; done) | (simp; omega)); (first | assumption | exact map_len (fun _ => rfl))))); exact rfl) | (apply RunK.bin; exact rfl; exact rfl; exact rfl; exact b1 _ _ _) | (apply RunK.conv z Try.underlying5 Try.underlying3 (.inl rfl); exact rfl; exact rfl; exact rfl; omega)
    | refine Wt.seq ?_
    | (apply Wt.regionK; exact rfl)
    | refine Wt.block ?_
    | refine Wt.skip ?_
    | refine RunK.nil ?_
    | (apply RunK.moveV; exact rfl; exact rfl)
    | (apply RunK.assignV; exact rfl; exact rfl)
    | (apply RunK.moveS; exact rfl; exact rfl)
    | (apply RunK.assignS; exact rfl; exact rfl)
    | (apply RunK.pickT; exact rfl; exact rfl; exact rfl)
    | (apply RunK.pickF; exact rfl; exact rfl; exact rfl)
    | (apply RunK.gtr; exact rfl; exact rfl; exact rfl)
    | (apply RunK.not; exact rfl; exact rfl)
    | (apply RunK.len; exact rfl; exact rfl)
    | (apply RunK.skip; exact rfl; exact rfl)
    | (apply RunK.guard; exact rfl; exact rfl; exact rfl; all_goals (intro hg; (first | exact absurd hg (by decide) | skip); (first | (with_reducible replace hg := not_t hg) | (with_reducible replace hg := not_f hg) | skip); (first | (with_reducible replace hg := dec_t hg) | (with_reducible replace hg := dec_f hg) | skip); (first | (with_reducible exact absurd rfl hg) | skip); (repeat rw [List.length_map] at hg); try (exfalso; omega)))
    | (apply Wt.cond; exact rfl; all_goals (intro hg; (first | exact absurd hg (by decide) | skip); (first | (with_reducible replace hg := not_t hg) | (with_reducible replace hg := not_f hg) | skip); (first | (with_reducible replace hg := dec_t hg) | (with_reducible replace hg := dec_f hg) | skip); (first | (with_reducible exact absurd rfl hg) | skip); (repeat rw [List.length_map] at hg); try (exfalso; omega))))
  all_goals
    refine Wt.loop (fun k : Nat => ⟨[(7, .s (.v (.int .i64 (z : Int)))), (8, .s (.sl (some 25) (.front 68) 9 ((l ++ m).map Event.vals))), (10, .s (.sl (some 33) (.front 68) 9 (B.map Event.vals))), (11, .s (.v (.int .i64 ((((l ++ m).take k).filter fun x => hasS x.to (z : Int)).length : Nat)))), (12, .s (.v (.int .i64 k)))], []⟩) (fun k => k ≤ (l ++ m).length) (fun k => (l ++ m).length - k) 0 (Nat.zero_le _) ?_ ?_
    · (refine Le.mk ?_ ?_; (repeat' (first | exact LeEnv.done | refine LeEnv.cons ?_ ?_ | exact PVLe.refl _ | exact PVLe.s (SVLe.nil _ _ _) | exact PVLe.s (SVLe.no _ _ _ _) | (refine PVLe.int ?_; first | rfl | omega | (simp; done) | (simp; omega)) | (refine PVLe.els ?_; first | rfl | assumption | (simp; done)) | (refine PVLe.bool ?_; first | rfl | assumption) | (refine PVLe.bsl ?_; first | rfl | assumption | (simp; done))));  (repeat' (first | exact LeBox.done | refine LeBox.cons ?_ ?_ | exact rfl)))
    · intro k hk
      by_cases hlt : k < (l ++ m).length
      · obtain ⟨x, hx0⟩ := exists_at hlt
        have hx := get_map (f := Event.vals) hx0
        have hq := hfa k x hx0
        have hF := filter_le (p := fun x : Event => hasS x.to (z : Int)) (l := l ++ m) (k := k)
        have hy := filter_yes (p := fun x : Event => hasS x.to (z : Int)) hx0
        have hn := filter_no (p := fun x : Event => hasS x.to (z : Int)) hx0
        have hb := hasS_bit_ (s := x.to) hz
        have hb2 := b3 x.to
        generalize (((l ++ m).take k).filter fun x => hasS x.to (z : Int)) = F at *
        rw [hb] at hq hy hn
        have hbz := bit_zero (x.to.testBit z)
        generalize x.to.testBit z = b at *
        cases b with
        | false =>
          repeat' (first
    | (apply RunK.bin; exact rfl; exact rfl; exact rfl; first | exact b2 _ _ _ _ | exact hb2 _ _ _) | (apply RunK.conv z Try.underlying3 Try.underlying37 (.inr rfl); exact rfl; exact rfl; exact rfl; omega)
    | refine Wt.seq ?_
    | (apply Wt.regionK; exact rfl)
    | refine Wt.block ?_
    | refine Wt.skip ?_
    | refine Wt.exit ?_
    | refine RunK.nil ?_
    | (apply RunK.moveV; exact rfl; exact rfl)
    | (apply RunK.index; exact rfl; exact rfl; exact rfl; (first | exact rfl | exact (rfl : (0 : Int) = ((0 : Nat) : Int)) | exact (rfl : (1 : Int) = ((1 : Nat) : Int)) | exact (rfl : (2 : Int) = ((2 : Nat) : Int)) | exact (rfl : (3 : Int) = ((3 : Nat) : Int)) | assumption); (first | omega | exact lt_of_get ‹_› | (rw [List.length_map]; omega) | (simp; omega)))
    | (apply RunK.loadE1; exact rfl; exact rfl; assumption; exact rfl)
    | (apply RunK.fieldE; exact rfl; exact rfl)
    | (apply RunK.assignV; exact rfl; exact rfl)
    | (apply RunK.moveS; exact rfl; exact rfl)
    | (apply RunK.lss; exact rfl; exact rfl; exact rfl)
    | (apply RunK.eql; exact rfl; exact rfl; exact rfl)
    | (apply RunK.add; exact rfl; exact rfl; exact rfl; (first | omega | (simp only [List.length_map]; omega)))
    | (apply RunK.len; exact rfl; exact rfl)
    | (apply Wt.cond; exact rfl; all_goals (intro hg; (first | exact absurd hg (by decide) | skip); (first | (with_reducible replace hg := not_t hg) | (with_reducible replace hg := not_f hg) | skip); (first | (with_reducible replace hg := dec_t hg) | (with_reducible replace hg := dec_f hg) | skip); (first | (with_reducible exact absurd rfl hg) | skip); (repeat rw [List.length_map] at hg); try (exfalso; omega))))
          refine ⟨k + 1, hlt, by omega, ?_⟩
          rw [hn (by decide)]
          (refine Le.mk ?_ ?_; (repeat' (first | exact LeEnv.done | refine LeEnv.cons ?_ ?_ | exact PVLe.refl _ | exact PVLe.s (SVLe.nil _ _ _) | exact PVLe.s (SVLe.no _ _ _ _) | (refine PVLe.int ?_; first | rfl | omega | (simp; done) | (simp; omega)) | (refine PVLe.els ?_; first | rfl | assumption | (simp; done)) | (refine PVLe.bool ?_; first | rfl | assumption) | (refine PVLe.bsl ?_; first | rfl | assumption | (simp; done))));  (repeat' (first | exact LeBox.done | refine LeBox.cons ?_ ?_ | exact rfl)))
        | true =>
          have hx2 := get_map (f := Event.vals) (hq rfl)
          have hFB := lt_of_get (hq rfl)
          have hc : ((F.length : Nat) : Int) + 1 = ((F ++ [x]).length : Nat) := by rw [List.length_append]; rfl
          have hc2 := hc.symm
          repeat' (first
    | (apply RunK.bin; exact rfl; exact rfl; exact rfl; first | exact b2 _ _ _ _ | exact hb2 _ _ _ | exact neqEvent_ x x) | (apply RunK.conv z Try.underlying3 Try.underlying37 (.inr rfl); exact rfl; exact rfl; exact rfl; omega) | (apply RunK.index (j := F.length); exact rfl; exact rfl; exact rfl; exact rfl; (rw [List.length_map]; exact hFB))
    | refine Wt.seq ?_
    | (apply Wt.regionK; exact rfl)
    | (apply Wt.regionD; kernel_rfl; kernel_rfl; exact rfl; exact rfl)
    | refine Wt.block ?_
    | refine Wt.skip ?_
    | refine RunK.nil ?_
    | (apply RunK.moveV; exact rfl; exact rfl)
    | (apply RunK.index; exact rfl; exact rfl; exact rfl; (first | exact rfl | exact (rfl : (0 : Int) = ((0 : Nat) : Int)) | exact (rfl : (1 : Int) = ((1 : Nat) : Int)) | exact (rfl : (2 : Int) = ((2 : Nat) : Int)) | exact (rfl : (3 : Int) = ((3 : Nat) : Int)) | assumption); (first | omega | exact lt_of_get ‹_› | (rw [List.length_map]; omega) | (simp; omega)))
    | (apply RunK.loadE1; exact rfl; exact rfl; assumption; exact rfl)
    | (apply RunK.fieldE; exact rfl; exact rfl)
    | (apply RunK.assignV; exact rfl; exact rfl)
    | (apply RunK.moveS; exact rfl; exact rfl)
    | (apply RunK.loadER; exact rfl; exact rfl; assumption; exact rfl; (apply cut_eq; repeat (first | exact Cut.nil _ | apply Cut.cons | apply Cut.skip)))
    | (apply RunK.pickF; exact rfl; exact rfl; exact rfl)
    | (apply RunK.geq; exact rfl; exact rfl; exact rfl)
    | (apply RunK.lss; exact rfl; exact rfl; exact rfl)
    | (apply RunK.eql; exact rfl; exact rfl; exact rfl)
    | (apply RunK.add; exact rfl; exact rfl; exact rfl; (first | omega | (simp only [List.length_map]; omega)))
    | (apply RunK.len; exact rfl; exact rfl)
    | (apply RunK.guard; exact rfl; exact rfl; exact rfl; all_goals (intro hg; (first | exact absurd hg (by decide) | skip); (first | (with_reducible replace hg := not_t hg) | (with_reducible replace hg := not_f hg) | skip); (first | (with_reducible replace hg := dec_t hg) | (with_reducible replace hg := dec_f hg) | skip); (first | (with_reducible exact absurd rfl hg) | skip); (repeat rw [List.length_map] at hg); try (exfalso; omega)))
    | (apply Wt.cond; exact rfl; all_goals (intro hg; (first | exact absurd hg (by decide) | skip); (first | (with_reducible replace hg := not_t hg) | (with_reducible replace hg := not_f hg) | skip); (first | (with_reducible replace hg := dec_t hg) | (with_reducible replace hg := dec_f hg) | skip); (first | (with_reducible exact absurd rfl hg) | skip); (repeat rw [List.length_map] at hg); try (exfalso; omega))))
          refine ⟨k + 1, hlt, by omega, ?_⟩
          rw [hy rfl]
          (refine Le.mk ?_ ?_; (repeat' (first | exact LeEnv.done | refine LeEnv.cons ?_ ?_ | exact PVLe.refl _ | exact PVLe.s (SVLe.nil _ _ _) | exact PVLe.s (SVLe.no _ _ _ _) | (refine PVLe.int ?_; first | rfl | omega | (simp; done) | (simp; omega)) | (refine PVLe.els ?_; first | rfl | assumption | (simp; done)) | (refine PVLe.bool ?_; first | rfl | assumption) | (refine PVLe.bsl ?_; first | rfl | assumption | (simp; done))));  (repeat' (first | exact LeBox.done | refine LeBox.cons ?_ ?_ | exact rfl)))
      · have hkl : k = (l ++ m).length := by omega
        rw [hkl] at hlt ⊢
        rw [hfe]
        repeat' (first
    | (apply RunK.callS; exact rfl; exact awake30; (repeat (first | exact ArgsLe.nil | refine ArgsLe.cons ?_ ?_ | exact ArgLe.v _ | exact ArgLe.sl _ _ _ _ | exact ArgLe.nil _ | exact ArgLe.nil' | (apply ArgLe.bsl; exact rfl; (first | exact rfl | (rw [List.length_map]; done) | (simp only [List.length_map]; done) | (simp; done) | (simp; omega)); (first | assumption | exact map_len (fun _ => rfl))))); exact rfl)
    | refine Wt.seq ?_
    | (apply Wt.regionK; exact rfl)
    | refine Wt.ret ?_
    | refine Wt.exit ?_
    | refine RunK.nil ?_
    | (apply RunK.moveV; exact rfl; exact rfl)
    | (apply RunK.assignV; exact rfl; exact rfl)
    | (apply RunK.moveS; exact rfl; exact rfl)
    | (apply RunK.pickT; exact rfl; exact rfl; exact rfl)
    | (apply RunK.lss; exact rfl; exact rfl; exact rfl)
    | (apply RunK.eql; exact rfl; exact rfl; exact rfl)
    | (apply RunK.len; exact rfl; exact rfl)
    | (apply RunK.guard; exact rfl; exact rfl; exact rfl; all_goals (intro hg; (first | exact absurd hg (by decide) | skip); (first | (with_reducible replace hg := not_t hg) | (with_reducible replace hg := not_f hg) | skip); (first | (with_reducible replace hg := dec_t hg) | (with_reducible replace hg := dec_f hg) | skip); (first | (with_reducible exact absurd rfl hg) | skip); (repeat rw [List.length_map] at hg); try (exfalso; omega)))
    | (apply Wt.cond; exact rfl; all_goals (intro hg; (first | exact absurd hg (by decide) | skip); (first | (with_reducible replace hg := not_t hg) | (with_reducible replace hg := not_f hg) | skip); (first | (with_reducible replace hg := dec_t hg) | (with_reducible replace hg := dec_f hg) | skip); (first | (with_reducible exact absurd rfl hg) | skip); (repeat rw [List.length_map] at hg); try (exfalso; omega))))
        all_goals (apply ResOk.v1; exact rfl; exact rfl)
end Go.Proofs.Ytfacimebfdeaeaa
