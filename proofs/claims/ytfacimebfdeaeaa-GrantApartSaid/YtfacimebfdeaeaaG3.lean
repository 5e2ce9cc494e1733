/- The walk of the law GrantOwned. -/
import Derived.Test.YtfacimebfdeaeaaG2
namespace Go.Proofs.Ytfacimebfdeaeaa
open Pv Go.RowKit

set_option maxRecDepth 100000 in
theorem toN_bit {p : Grant → Bool} {l : List Grant} {k u : Nat} {g : Grant} (h : l[k]? = some g) (hp : p g = true) : (toN p l (k + 1)).testBit u = ((toN p l k).testBit u || g.to.testBit u) := by
  rw [toN_yes h hp, Nat.testBit_or]
set_option maxRecDepth 100000 in
theorem u64_rem (s n : Nat) : (((s / 2 ^ n : Nat)) : Int).tmod 2 = (((s.testBit n).toNat : Nat) : Int) := u8_rem s n
set_option maxRecDepth 100000 in
theorem hasS_bit {s : Nat} {u : Int} (h : 0 ≤ u) (h2 : u < 64) : hasS s u = s.testBit u.toNat := by unfold hasS userB; rw [decide_eq_true ⟨h, h2⟩]; rfl
set_option maxRecDepth 100000 in
theorem one_t {b : Bool} (h : ((b.toNat : Nat) : Int) = 1) : b = true := by cases b; cases h; rfl
set_option maxRecDepth 100000 in
theorem one_f {b : Bool} (h : ¬((b.toNat : Nat) : Int) = 1) : b = false := by cases b; rfl; exact absurd rfl h
set_option maxRecDepth 100000 in
theorem bit_eq (b : Bool) : decide (((b.toNat : Nat) : Int) = 1) = b := by cases b <;> rfl
set_option maxRecDepth 100000 in
/-- u8 arithmetic of the laws' arguments. -/
theorem fn_rem (fn : Nat) : ((fn : Int)).tmod 5 = ((fn % 5 : Nat) : Int) := by rw [Int.tmod_eq_emod_of_nonneg (by omega)]; omega
set_option maxRecDepth 100000 in
theorem user_rem (u : Nat) : ((u : Int)).tmod 64 = ((u % 64 : Nat) : Int) := by rw [Int.tmod_eq_emod_of_nonneg (by omega)]; omega
set_option maxRecDepth 100000 in
theorem fn_add (fn : Nat) : IntKind.u8.wrap (46 + ((fn % 5 : Nat) : Int)) = ((46 + fn % 5 : Nat) : Int) := by
  have : fn % 5 < 5 := Nat.mod_lt _ (by decide)
  have h : fn % 5 = 0 ∨ fn % 5 = 1 ∨ fn % 5 = 2 ∨ fn % 5 = 3 ∨ fn % 5 = 4 := by omega
  rcases h with h | h | h | h | h <;> rw [h] <;> rfl
set_option maxHeartbeats 4000000 in
set_option maxRecDepth 100000 in
theorem lawGOwned (fn : Nat) (_hfn : fn < 256) (r : Rect) (_hr : r.ok) (a : List Rule) (ha : a.length * 56 ≤ 140737488351232) (hoa : ∀ x ∈ a, x.ok) (l : List Grant) (hb : l.length * 64 ≤ 140737488351232) (hok : ∀ g ∈ l, g.ok) (us : Nat) (_hus : us < 256) : Pure Try.prog 4 [.v (.int .u8 fn), .v r.v, rules a, grants l, .v (.int .u8 us)] (.s (.v (.bool true))) := by
  have hg0 := good21 a l (by omega) (by omega) hoa hok
  have hr0 := range r
  obtain ⟨hl5, hrel⟩ : 46 + fn % 5 < 256 ∧ relB (46 + fn % 5) = true := by
    have : fn % 5 < 5 := Nat.mod_lt _ (by decide)
    exact ⟨by omega, decide_eq_true (by omega)⟩
  by_cases hgood : ¬(decide (chkE a = 0) && (decide (chkG l = 0) && decide (a.length ≤ 20 ∧ l.length ≤ 30))) = true
  · rw [eq_false_of_ne_true hgood] at hg0
    refine pure_of_wt Try.func4 rfl (by decide) _ Try.ntmps4 rfl Try.results4 fun w0 => ?_
    repeat' (first
    | (apply RunK.callS; exact rfl; exact hg0; (repeat (first | exact ArgsLe.nil | refine ArgsLe.cons ?_ ?_ | exact ArgLe.v _ | exact ArgLe.sl _ _ _ _ | exact ArgLe.nil _ | exact ArgLe.nil' | (apply ArgLe.bsl; exact rfl; (first | exact rfl | (rw [List.length_map]; done) | (simp only [List.length_map]; done) | (simp; done) | (simp; omega)); (first | assumption | exact map_len (fun _ => rfl))))); exact rfl)
    | refine Wt.seq ?_
    | (apply Wt.regionK; exact rfl)
    | refine Wt.ret ?_
    | refine RunK.nil ?_
    | (apply RunK.moveV; exact rfl; exact rfl)
    | (apply RunK.assignV; exact rfl; exact rfl)
    | (apply RunK.box; exact rfl; exact rfl; apply Cells.eq; (first | exact Cells.agg _ | exact Cells.int _ _ | exact Cells.bool _ | exact Cells.one _ rfl); exact rfl)
    | (apply RunK.moveS; exact rfl; exact rfl)
    | (apply RunK.pickT; exact rfl; exact rfl; exact rfl)
    | (apply RunK.not; exact rfl; exact rfl)
    | (apply RunK.skip; exact rfl; exact rfl)
    | (apply Wt.cond; exact rfl; all_goals (intro hg; (first | exact absurd hg (by decide) | skip); (first | (with_reducible replace hg := not_t hg) | (with_reducible replace hg := not_f hg) | skip); (first | (with_reducible replace hg := dec_t hg) | (with_reducible replace hg := dec_f hg) | skip); (first | (with_reducible exact absurd rfl hg) | skip); (repeat rw [List.length_map] at hg); try (exfalso; omega))))
    apply ResOk.v1; exact rfl; exact rfl
  replace hgood := Decidable.not_not.1 hgood
  rw [hgood] at hg0
  simp only [Bool.and_eq_true, decide_eq_true_eq] at hgood
  obtain ⟨h3, h4, _, _⟩ := hgood
  cases h2 : rectOk r with
  | false =>
    rw [h2] at hr0
    refine pure_of_wt Try.func4 rfl (by decide) _ Try.ntmps4 rfl Try.results4 fun w0 => ?_
    repeat' (first
    | (apply RunK.callS; exact rfl; exact hg0; (repeat (first | exact ArgsLe.nil | refine ArgsLe.cons ?_ ?_ | exact ArgLe.v _ | exact ArgLe.sl _ _ _ _ | exact ArgLe.nil _ | exact ArgLe.nil' | (apply ArgLe.bsl; exact rfl; (first | exact rfl | (rw [List.length_map]; done) | (simp only [List.length_map]; done) | (simp; done) | (simp; omega)); (first | assumption | exact map_len (fun _ => rfl))))); exact rfl) | (apply RunK.callS; exact rfl; exact hr0; (repeat (first | exact ArgsLe.nil | refine ArgsLe.cons ?_ ?_ | exact ArgLe.v _ | exact ArgLe.sl _ _ _ _ | exact ArgLe.nil _ | exact ArgLe.nil' | (apply ArgLe.bsl; exact rfl; (first | exact rfl | (rw [List.length_map]; done) | (simp only [List.length_map]; done) | (simp; done) | (simp; omega)); (first | assumption | exact map_len (fun _ => rfl))))); exact rfl)
    | refine Wt.seq ?_
    | (apply Wt.regionK; exact rfl)
    | refine Wt.ret ?_
    | refine RunK.nil ?_
    | (apply RunK.moveV; exact rfl; exact rfl)
    | (apply RunK.assignV; exact rfl; exact rfl)
    | (apply RunK.box; exact rfl; exact rfl; apply Cells.eq; (first | exact Cells.agg _ | exact Cells.int _ _ | exact Cells.bool _ | exact Cells.one _ rfl); exact rfl)
    | (apply RunK.moveS; exact rfl; exact rfl)
    | (apply RunK.loadR; exact rfl; exact rfl; exact rfl; exact rfl; (apply cut_eq; repeat (first | exact Cut.nil _ | apply Cut.cons | apply Cut.skip)))
    | (apply RunK.pickF; exact rfl; exact rfl; exact rfl)
    | (apply RunK.not; exact rfl; exact rfl)
    | (apply Wt.cond; exact rfl; all_goals (intro hg; (first | exact absurd hg (by decide) | skip); (first | (with_reducible replace hg := not_t hg) | (with_reducible replace hg := not_f hg) | skip); (first | (with_reducible replace hg := dec_t hg) | (with_reducible replace hg := dec_f hg) | skip); (first | (with_reducible exact absurd rfl hg) | skip); (repeat rw [List.length_map] at hg); try (exfalso; omega))))
    apply ResOk.v1; exact rfl; exact rfl
  | true =>
    rw [h2] at hr0
    have hf := grantFor (46 + fn % 5) r a l (by omega) hb hoa hok
    rw [forS_ok hrel h2 h3 h4] at hf
    have ho := regOver r a (by omega) hoa
    have ho2 : (overS r a).2 = 0 := by rw [overS_ok h2 h3]
    have hown : ∀ g ∈ l, g.rect = r → liveB a g = (!g.revoked && (overS r a).1.own.testBit g.by_.toNat) := fun g hg e => by
      have h5 := chkG_good h4 g hg
      simp only [goodG, argB, Bool.and_eq_true, decide_eq_true_eq] at h5
      unfold liveB
      rw [e, hasS_bit h5.2.2.2.1 h5.2.2.2.2]
    have hOb : (overS r a).1.own < 18446744073709551616 := overS_bd.2
    rw [ho2] at ho
    generalize (overS r a).1 = O at *
    obtain ⟨o1, o2, o3⟩ := O
    dsimp only at ho hown hOb
    generalize hp : selB (46 + fn % 5) r a = p at *
    have hbl : (byN p l l.length).length < 1000000000000000 := by have := byN_len (p := p) (l := l) l.length; omega
    have he := equalInts (byN p l l.length) (byN p l l.length) hbl hbl
    rw [decide_eq_true rfl] at he
    dsimp only [forR] at hf
    have b1 : ∀ t o o2, BinRun Try.prog .rem t o o2 (.int .u8 (fn : Int)) (.int .u8 5) (.int .u8 ((fn % 5 : Nat) : Int)) := fun t o o2 => by
      have := BinRun.rem (P := Try.prog) (t := t) (x := o) (y := o2) (k := .u8) (a := (fn : Int)) (b := 5) (by decide)
      rwa [fn_rem] at this
    have b2 : ∀ t o o2, BinRun Try.prog .add t o o2 (.int .u8 46) (.int .u8 ((fn % 5 : Nat) : Int)) (.int .u8 ((46 + fn % 5 : Nat) : Int)) := fun t o o2 => by
      have := BinRun.add (P := Try.prog) (t := t) (x := o) (y := o2) (k := .u8) (a := 46) (b := ((fn % 5 : Nat) : Int))
      rwa [fn_add] at this
    have b3 : ∀ t o o2, BinRun Try.prog .rem t o o2 (.int .u8 (us : Int)) (.int .u8 64) (.int .u8 ((us % 64 : Nat) : Int)) := fun t o o2 => by
      have := BinRun.rem (P := Try.prog) (t := t) (x := o) (y := o2) (k := .u8) (a := (us : Int)) (b := 64) (by decide)
      rwa [user_rem] at this
    have hu64 : us % 64 < 64 := Nat.mod_lt _ (by decide)
    generalize hu : us % 64 = u at *
    generalize hfd : fn % 5 = d at *
    have hd5 : d < 5 := by rw [← hfd]; exact Nat.mod_lt _ (by decide)
    have b4 : ∀ (s : Nat) t o o2, BinRun Try.prog .shr t o o2 (.int .u64 (s : Int)) (.int .u64 (u : Int)) (.int .u64 ((s / 2 ^ u : Nat) : Int)) := fun s t o o2 => by
      have := BinRun.shr (P := Try.prog) (t := t) (x := o) (y := o2) (k := .u64) (k' := .u64) (a := (s : Int)) (b := (u : Int)) (by omega)
      rwa [shr_bit (by omega) (by omega), Int.toNat_natCast] at this
    have b5 : ∀ (s n : Nat) t o o2, BinRun Try.prog .rem t o o2 (.int .u64 ((s / 2 ^ n : Nat) : Int)) (.int .u64 2) (.int .u64 (((s.testBit n).toNat : Nat) : Int)) := fun s n t o o2 => by
      have := BinRun.rem (P := Try.prog) (t := t) (x := o) (y := o2) (k := .u64) (a := ((s / 2 ^ n : Nat) : Int)) (b := 2) (by decide)
      rwa [u64_rem] at this
    have b6 : ∀ t o o2, BinRun Try.prog .sub t o o2 (.int .u8 ((46 + d : Nat) : Int)) (.int .u8 46) (.int .u8 (d : Int)) := fun t o o2 => by
      have := BinRun.sub (P := Try.prog) (t := t) (x := o) (y := o2) (k := .u8) (a := ((46 + d : Nat) : Int)) (b := 46)
      rwa [u8_sub (by omega), Nat.add_sub_cancel_left] at this
    have b7 : ∀ (s : Nat) t o o2, BinRun Try.prog .shr t o o2 (.int .u8 (s : Int)) (.int .u8 (d : Int)) (.int .u8 ((s / 2 ^ d : Nat) : Int)) := fun s t o o2 => by
      have := BinRun.shr (P := Try.prog) (t := t) (x := o) (y := o2) (k := .u8) (k' := .u8) (a := (s : Int)) (b := (d : Int)) (Int.natCast_nonneg _)
      rwa [u8_shr hd5] at this
    have b8 : ∀ (s : Nat) t o o2, BinRun Try.prog .rem t o o2 (.int .u8 ((s / 2 ^ d : Nat) : Int)) (.int .u8 2) (.int .u8 (((s.testBit d).toNat : Nat) : Int)) := fun s t o o2 => by
      have := BinRun.rem (P := Try.prog) (t := t) (x := o) (y := o2) (k := .u8) (a := ((s / 2 ^ d : Nat) : Int)) (b := 2) (by decide)
      rwa [u8_rem] at this
    have h0 : false = (toN p l 0).testBit u := (Nat.zero_testBit u).symm
    refine pure_of_wt Try.func4 rfl (by decide) _ Try.ntmps4 rfl Try.results4 fun w0 => ?_
    repeat' (first
    | (apply RunK.callS; exact rfl; exact hg0; (repeat (first | exact ArgsLe.nil | refine ArgsLe.cons ?_ ?_ | exact ArgLe.v _ | exact ArgLe.sl _ _ _ _ | exact ArgLe.nil _ | exact ArgLe.nil' | (apply ArgLe.bsl; exact rfl; (first | exact rfl | (rw [List.length_map]; done) | (simp only [List.length_map]; done) | (simp; done) | (simp; omega)); (first | assumption | exact map_len (fun _ => rfl))))); exact rfl) | (apply RunK.callS; exact rfl; exact hr0; (repeat (first | exact ArgsLe.nil | refine ArgsLe.cons ?_ ?_ | exact ArgLe.v _ | exact ArgLe.sl _ _ _ _ | exact ArgLe.nil _ | exact ArgLe.nil' | (apply ArgLe.bsl; exact rfl; (first | exact rfl | (rw [List.length_map]; done) | (simp only [List.length_map]; done) | (simp; done) | (simp; omega)); (first | assumption | exact map_len (fun _ => rfl))))); exact rfl) | (apply RunK.callT; exact rfl; exact ho; (repeat (first | exact ArgsLe.nil | refine ArgsLe.cons ?_ ?_ | exact ArgLe.v _ | exact ArgLe.sl _ _ _ _ | exact ArgLe.nil _ | exact ArgLe.nil' | (apply ArgLe.bsl; exact rfl; (first | exact rfl | (rw [List.length_map]; done) | (simp only [List.length_map]; done) | (simp; done) | (simp; omega)); (first | assumption | exact map_len (fun _ => rfl))))); exact rfl) | (apply RunK.callT; exact rfl; exact hf; (repeat (first | exact ArgsLe.nil | refine ArgsLe.cons ?_ ?_ | exact ArgLe.v _ | exact ArgLe.sl _ _ _ _ | exact ArgLe.nil _ | exact ArgLe.nil' | (apply ArgLe.bsl; exact rfl; (first | exact rfl | (rw [List.length_map]; done) | (simp only [List.length_map]; done) | (simp; done) | (simp; omega)); (first | assumption | exact map_len (fun _ => rfl))))); exact rfl) | (apply RunK.callS; exact rfl; exact (copyRules a ha); (repeat (first | exact ArgsLe.nil | refine ArgsLe.cons ?_ ?_ | exact ArgLe.v _ | exact ArgLe.sl _ _ _ _ | exact ArgLe.nil _ | exact ArgLe.nil' | (apply ArgLe.bsl; exact rfl; (first | exact rfl | (rw [List.length_map]; done) | (simp only [List.length_map]; done) | (simp; done) | (simp; omega)); (first | assumption | exact map_len (fun _ => rfl))))); exact rfl) | (apply RunK.callS; exact rfl; exact (copyGrants l hb); (repeat (first | exact ArgsLe.nil | refine ArgsLe.cons ?_ ?_ | exact ArgLe.v _ | exact ArgLe.sl _ _ _ _ | exact ArgLe.nil _ | exact ArgLe.nil' | (apply ArgLe.bsl; exact rfl; (first | exact rfl | (rw [List.length_map]; done) | (simp only [List.length_map]; done) | (simp; done) | (simp; omega)); (first | assumption | exact map_len (fun _ => rfl))))); exact rfl) | (apply RunK.bin; exact rfl; exact rfl; exact rfl; first | exact b1 _ _ _ | exact b2 _ _ _ | exact b3 _ _ _) | (apply RunK.conv u Try.underlying5 Try.underlying37 (.inr rfl); exact rfl; exact rfl; exact rfl; omega)
    | refine Wt.seq ?_
    | (apply Wt.regionK; exact rfl)
    | (apply Wt.regionD; kernel_rfl; kernel_rfl; exact rfl; exact rfl)
    | refine Wt.block ?_
    | refine Wt.skip ?_
    | refine RunK.nil ?_
    | (apply RunK.moveV; exact rfl; exact rfl)
    | (apply RunK.assignV; exact rfl; exact rfl)
    | (apply RunK.box; exact rfl; exact rfl; apply Cells.eq; (first | exact Cells.agg _ | exact Cells.int _ _ | exact Cells.bool _ | exact Cells.one _ rfl); exact rfl)
    | (apply RunK.alloc; exact rfl; apply Cells.eq; (first | exact Cells.agg _ | exact Cells.int _ _ | exact Cells.bool _ | exact Cells.one _ rfl); exact rfl)
    | (apply RunK.moveS; exact rfl; exact rfl)
    | (apply RunK.moveT; exact rfl; exact rfl)
    | (apply RunK.assignS; exact rfl; exact rfl)
    | (apply RunK.assignN; exact rfl; exact rfl)
    | (apply RunK.loadR; exact rfl; exact rfl; exact rfl; exact rfl; (apply cut_eq; repeat (first | exact Cut.nil _ | apply Cut.cons | apply Cut.skip)))
    | (apply RunK.pickF; exact rfl; exact rfl; exact rfl)
    | (apply RunK.neq; exact rfl; exact rfl; exact rfl)
    | (apply RunK.not; exact rfl; exact rfl)
    | (apply RunK.extract; exact rfl; exact rfl; exact rfl)
    | (apply RunK.store; exact rfl; exact rfl; exact rfl; exact rfl; exact rfl; exact rfl; exact rfl; apply upd_eq; exact rfl; (first | exact Cells.agg _ | exact Cells.int _ _ | exact Cells.bool _ | exact Cells.one _ rfl); (repeat (first | exact Upd.nil _ | apply Upd.cons | apply Upd.skip)))
    | (apply Wt.cond; exact rfl; all_goals (intro hg; (first | exact absurd hg (by decide) | skip); (first | (with_reducible replace hg := not_t hg) | (with_reducible replace hg := not_f hg) | skip); (first | (with_reducible replace hg := dec_t hg) | (with_reducible replace hg := dec_f hg) | skip); (first | (with_reducible exact absurd rfl hg) | skip); (repeat rw [List.length_map] at hg); try (exfalso; omega))))
    refine Wt.loop (fun k : Nat => ⟨[(0, .s (.v (.int .u8 ((46 + d : Nat) : Int)))), (3, .s (grants l)), (6, .box 6 0), (11, .s (.v (.int .u64 (u : Int)))), (12, .box 12 0), (14, .s (.v (.int .u64 ((toN p l l.length : Nat) : Int)))), (15, .s (.sl (some 49) (.front 3) 1 ((byN p l l.length).map ival))), (17, .s (.v (.bool ((toN p l k).testBit u)))), (18, .s (intsR (byN p l k))), (19, .s (.v (.int .i64 k)))], [(6, r.vals), (12, (Rights.mk o1 o2 o3).vals)]⟩) (fun k => k ≤ l.length) (fun k => l.length - k) 0 (Nat.zero_le _) ?_ ?_
    · (refine Le.mk ?_ ?_; (repeat' (first | exact LeEnv.done | refine LeEnv.cons ?_ ?_ | exact PVLe.refl _ | exact PVLe.s (SVLe.nil _ _ _) | exact PVLe.s (SVLe.no _ _ _ _) | (refine PVLe.int ?_; first | rfl | omega | (simp; done) | (simp; omega)) | (refine PVLe.els ?_; first | rfl | assumption | (simp; done)) | (refine PVLe.bool ?_; first | rfl | assumption) | (refine PVLe.bsl ?_; first | rfl | assumption | (simp; done))));  (repeat' (first | exact LeBox.done | refine LeBox.cons ?_ ?_ | exact rfl)))
    · rintro k hk
      by_cases hlt : k < l.length
      · obtain ⟨g, hgk⟩ := exists_at hlt
        have hx := get_map (f := Grant.vals) hgk
        have hgm := List.mem_of_getElem? hgk
        have hgo := hok g hgm
        have hlen := byN_len (p := p) (l := l) k
        have h5 := chkG_good h4 g hgm
        simp only [goodG, argB, Bool.and_eq_true, decide_eq_true_eq] at h5
        obtain ⟨_, _, _, hby0, hby1⟩ := h5
        have hbn : g.by_ = ((g.by_.toNat : Nat) : Int) := by omega
        have b9 : ∀ t o o2, BinRun Try.prog .shr t o o2 (.int .u64 (o3 : Int)) (.int .u64 ((g.by_.toNat : Nat) : Int)) (.int .u64 ((o3 / 2 ^ g.by_.toNat : Nat) : Int)) := fun t o o2 => by
          have := BinRun.shr (P := Try.prog) (t := t) (x := o) (y := o2) (k := .u64) (k' := .u64) (a := (o3 : Int)) (b := ((g.by_.toNat : Nat) : Int)) (by omega)
          rwa [shr_bit (by omega) (by omega), Int.toNat_natCast] at this
        have hsel : p g = (decide (g.rect = r) && (g.fns.testBit d && (!g.revoked && o3.testBit g.by_.toNat))) := by
          rw [← hp]
          unfold selB namesB
          rw [hrel]
          by_cases e : g.rect = r
          · rw [hown g hgm e, Nat.add_sub_cancel_left]; rfl
          · rw [decide_eq_false e]; rfl
        repeat' (first
    | (apply RunK.bin; exact rfl; exact rfl; exact rfl; first | exact eqlRect g.rect r | exact b6 _ _ _ | exact b7 _ _ _ _ | exact b8 _ _ _ _ | exact b9 _ _ _ | exact b4 _ _ _ _ | exact b5 _ _ _ _ _) | (apply RunK.conv g.by_.toNat Try.underlying3 Try.underlying37 (.inr rfl); exact rfl; exact rfl; exact hbn; omega) | (first | (apply RunK.append; exact rfl; exact rfl; exact rfl; (first | exact ReadLe.sl _ _ _ _ | exact ReadLe.nil _); exact rfl; (first | exact one_rows rfl | exact one_map (fun _ => rfl) _); (first | exact app_b1 (by omega) | exact app_b2 (by omega) | exact app_b3 (by omega) | exact app_b4 (by omega) | exact app_b5 (by omega))) | (apply RunK.appendN; exact rfl; exact rfl; exact rfl; (first | exact ReadLe.sl _ _ _ _ | exact ReadLe.nil _); exact rfl; (first | exact one_rows rfl | exact one_map (fun _ => rfl) _); (first | exact app_b1 (by omega) | exact app_b2 (by omega) | exact app_b3 (by omega) | exact app_b4 (by omega) | exact app_b5 (by omega))) | (apply RunK.appendF; exact rfl; exact rfl; exact rfl; (first | exact ReadLe.sl _ _ _ _ | exact ReadLe.nil _); (first | exact one_rows rfl | exact one_map (fun _ => rfl) _); (first | exact app_b1 (by omega) | exact app_b2 (by omega) | exact app_b3 (by omega) | exact app_b4 (by omega) | exact app_b5 (by omega))))
    | refine Wt.seq ?_
    | (apply Wt.regionK; exact rfl)
    | refine Wt.block ?_
    | refine Wt.skip ?_
    | refine RunK.nil ?_
    | (apply RunK.moveV; exact rfl; exact rfl)
    | (apply RunK.index; exact rfl; exact rfl; exact rfl; (first | exact rfl | exact (rfl : (0 : Int) = ((0 : Nat) : Int)) | exact (rfl : (1 : Int) = ((1 : Nat) : Int)) | exact (rfl : (2 : Int) = ((2 : Nat) : Int)) | exact (rfl : (3 : Int) = ((3 : Nat) : Int)) | assumption); (first | omega | exact lt_of_get ‹_› | (rw [List.length_map]; omega) | (simp; omega)))
    | (apply RunK.load1; exact rfl; exact rfl; exact rfl; exact rfl)
    | (apply RunK.field; exact rfl; exact rfl)
    | (apply RunK.assignV; exact rfl; exact rfl)
    | (apply RunK.alloc; exact rfl; apply Cells.eq; (first | exact Cells.agg _ | exact Cells.int _ _ | exact Cells.bool _ | exact Cells.one _ rfl); exact rfl)
    | (apply RunK.moveS; exact rfl; exact rfl)
    | (apply RunK.assignS; exact rfl; exact rfl)
    | (apply RunK.loadR; exact rfl; exact rfl; exact rfl; exact rfl; (apply cut_eq; repeat (first | exact Cut.nil _ | apply Cut.cons | apply Cut.skip)))
    | (apply RunK.loadER; exact rfl; exact rfl; assumption; exact rfl; (apply cut_eq; repeat (first | exact Cut.nil _ | apply Cut.cons | apply Cut.skip)))
    | (apply RunK.pickT; exact rfl; exact rfl; exact rfl)
    | (apply RunK.pickF; exact rfl; exact rfl; exact rfl)
    | (apply RunK.lss; exact rfl; exact rfl; exact rfl)
    | (apply RunK.eql; exact rfl; exact rfl; exact rfl)
    | (apply RunK.add; exact rfl; exact rfl; exact rfl; (first | omega | (simp only [List.length_map]; omega)))
    | (apply RunK.not; exact rfl; exact rfl)
    | (apply RunK.len; exact rfl; exact rfl)
    | (apply RunK.rows; exact rfl; (repeat (first | exact PartsOk.nil | (apply PartsOk.cons; exact rfl))); (repeat (first | exact Rows.nil _ | (apply Rows.cons; (first | exact Cells.agg _ | exact Cells.int _ _ | exact Cells.bool _ | exact Cells.one _ rfl); exact rfl))); exact rfl; exact rfl)
    | (apply RunK.store; exact rfl; exact rfl; exact rfl; exact rfl; exact rfl; exact rfl; exact rfl; apply upd_eq; exact rfl; (first | exact Cells.agg _ | exact Cells.int _ _ | exact Cells.bool _ | exact Cells.one _ rfl); (repeat (first | exact Upd.nil _ | apply Upd.cons | apply Upd.skip)))
    | (apply RunK.skip; exact rfl; exact rfl)
    | (apply RunK.guard; exact rfl; exact rfl; exact rfl; all_goals (intro hg; (first | exact absurd hg (by decide) | skip); (first | (with_reducible replace hg := not_t hg) | (with_reducible replace hg := not_f hg) | skip); (first | (with_reducible replace hg := dec_t hg) | (with_reducible replace hg := dec_f hg) | skip); (first | (with_reducible exact absurd rfl hg) | skip); (repeat rw [List.length_map] at hg); try (exfalso; omega)))
    | (apply Wt.cond; exact rfl; all_goals (intro hg; (first | exact absurd hg (by decide) | skip); (first | (with_reducible replace hg := not_t hg) | (with_reducible replace hg := not_f hg) | skip); (first | (with_reducible replace hg := dec_t hg) | (with_reducible replace hg := dec_f hg) | skip); (first | (with_reducible exact absurd rfl hg) | skip); (repeat rw [List.length_map] at hg); try (exfalso; omega))))
        · have hs : p g = true := by rw [hsel, decide_eq_true ‹g.rect = r›, one_t ‹((g.fns.testBit d).toNat : Int) = 1›, ‹g.revoked = false›, one_t ‹((o3.testBit g.by_.toNat).toNat : Int) = 1›]; rfl
          have he : (byN p l k).map ival ++ [[.int .i64 (k : Int)]] = (byN p l (k + 1)).map ival := by rw [byN_yes hgk hs, List.map_append]; rfl
          have e2 : true = (toN p l (k + 1)).testBit u := by rw [toN_bit hgk hs, hg]; rfl
          refine ⟨k + 1, hlt, by omega, ?_⟩
          (refine Le.mk ?_ ?_; (repeat' (first | exact LeEnv.done | refine LeEnv.cons ?_ ?_ | exact PVLe.refl _ | exact PVLe.s (SVLe.nil _ _ _) | exact PVLe.s (SVLe.no _ _ _ _) | (refine PVLe.int ?_; first | rfl | omega | (simp; done) | (simp; omega)) | (refine PVLe.els ?_; first | rfl | assumption | (simp; done)) | (refine PVLe.bool ?_; first | rfl | assumption) | (refine PVLe.bsl ?_; first | rfl | assumption | (simp; done))));  (repeat' (first | exact LeBox.done | refine LeBox.cons ?_ ?_ | exact rfl)))
        · have hs : p g = true := by rw [hsel, decide_eq_true ‹g.rect = r›, one_t ‹((g.fns.testBit d).toNat : Int) = 1›, ‹g.revoked = false›, one_t ‹((o3.testBit g.by_.toNat).toNat : Int) = 1›]; rfl
          have he : (byN p l k).map ival ++ [[.int .i64 (k : Int)]] = (byN p l (k + 1)).map ival := by rw [byN_yes hgk hs, List.map_append]; rfl
          have e2 : decide ((((g.to.testBit u).toNat : Nat) : Int) = 1) = (toN p l (k + 1)).testBit u := by rw [toN_bit hgk hs, hg, bit_eq]; rfl
          refine ⟨k + 1, hlt, by omega, ?_⟩
          (refine Le.mk ?_ ?_; (repeat' (first | exact LeEnv.done | refine LeEnv.cons ?_ ?_ | exact PVLe.refl _ | exact PVLe.s (SVLe.nil _ _ _) | exact PVLe.s (SVLe.no _ _ _ _) | (refine PVLe.int ?_; first | rfl | omega | (simp; done) | (simp; omega)) | (refine PVLe.els ?_; first | rfl | assumption | (simp; done)) | (refine PVLe.bool ?_; first | rfl | assumption) | (refine PVLe.bsl ?_; first | rfl | assumption | (simp; done))));  (repeat' (first | exact LeBox.done | refine LeBox.cons ?_ ?_ | exact rfl)))
        all_goals
          have hs : p g = false := by
            rw [hsel]
            first
              | (rw [one_f ‹¬((o3.testBit g.by_.toNat).toNat : Int) = 1›]; simp; done)
              | (rw [one_f ‹¬((g.fns.testBit d).toNat : Int) = 1›]; simp; done)
              | (rw [‹g.revoked = true›]; simp; done)
              | (rw [decide_eq_false ‹¬g.rect = r›]; rfl)
          refine ⟨k + 1, hlt, by omega, ?_⟩
          rw [toN_no hgk hs, byN_no hgk hs]
          (refine Le.mk ?_ ?_; (repeat' (first | exact LeEnv.done | refine LeEnv.cons ?_ ?_ | exact PVLe.refl _ | exact PVLe.s (SVLe.nil _ _ _) | exact PVLe.s (SVLe.no _ _ _ _) | (refine PVLe.int ?_; first | rfl | omega | (simp; done) | (simp; omega)) | (refine PVLe.els ?_; first | rfl | assumption | (simp; done)) | (refine PVLe.bool ?_; first | rfl | assumption) | (refine PVLe.bsl ?_; first | rfl | assumption | (simp; done))));  (repeat' (first | exact LeBox.done | refine LeBox.cons ?_ ?_ | exact rfl)))
      · obtain rfl : k = l.length := by omega
        repeat' (first
    | (apply RunK.bin; exact rfl; exact rfl; exact rfl; first | exact b4 _ _ _ _ | exact b5 _ _ _ _ _ | exact eqlBool _ _) | (apply RunK.callS; exact rfl; exact he; (repeat (first | exact ArgsLe.nil | refine ArgsLe.cons ?_ ?_ | exact ArgLe.v _ | exact ArgLe.sl _ _ _ _ | exact ArgLe.nil _ | exact ArgLe.nil' | (apply ArgLe.bsl; exact rfl; (first | exact rfl | (rw [List.length_map]; done) | (simp only [List.length_map]; done) | (simp; done) | (simp; omega)); (first | assumption | exact map_len (fun _ => rfl))))); exact rfl) | (apply RunK.callS; exact rfl; exact example21; (repeat (first | exact ArgsLe.nil | refine ArgsLe.cons ?_ ?_ | exact ArgLe.v _ | exact ArgLe.sl _ _ _ _ | exact ArgLe.nil _ | exact ArgLe.nil' | (apply ArgLe.bsl; exact rfl; (first | exact rfl | (rw [List.length_map]; done) | (simp only [List.length_map]; done) | (simp; done) | (simp; omega)); (first | assumption | exact map_len (fun _ => rfl))))); exact rfl)
    | refine Wt.seq ?_
    | (apply Wt.regionK; exact rfl)
    | refine Wt.ret ?_
    | refine Wt.exit ?_
    | refine RunK.nil ?_
    | (apply RunK.moveV; exact rfl; exact rfl)
    | (apply RunK.assignV; exact rfl; exact rfl)
    | (apply RunK.moveS; exact rfl; exact rfl)
    | (apply RunK.pickT; exact rfl; exact rfl; exact rfl)
    | (apply RunK.pickF; exact rfl; exact rfl; exact rfl)
    | (apply RunK.lss; exact rfl; exact rfl; exact rfl)
    | (apply RunK.eql; exact rfl; exact rfl; exact rfl)
    | (apply RunK.len; exact rfl; exact rfl)
    | (apply RunK.skip; exact rfl; exact rfl)
    | (apply RunK.guard; exact rfl; exact rfl; exact rfl; all_goals (intro hg; (first | exact absurd hg (by decide) | skip); (first | (with_reducible replace hg := not_t hg) | (with_reducible replace hg := not_f hg) | skip); (first | (with_reducible replace hg := dec_t hg) | (with_reducible replace hg := dec_f hg) | skip); (first | (with_reducible exact absurd rfl hg) | skip); (repeat rw [List.length_map] at hg); try (exfalso; omega)))
    | (apply Wt.cond; exact rfl; all_goals (intro hg; (first | exact absurd hg (by decide) | skip); (first | (with_reducible replace hg := not_t hg) | (with_reducible replace hg := not_f hg) | skip); (first | (with_reducible replace hg := dec_t hg) | (with_reducible replace hg := dec_f hg) | skip); (first | (with_reducible exact absurd rfl hg) | skip); (repeat rw [List.length_map] at hg); try (exfalso; omega))))
        all_goals first | exact absurd (bit_eq _) hg | (apply ResOk.v1; exact rfl; exact rfl)
end Go.Proofs.Ytfacimebfdeaeaa
