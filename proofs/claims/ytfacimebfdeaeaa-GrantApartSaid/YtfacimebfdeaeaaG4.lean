/- The walk of the law GrantUnites. -/
import Derived.Test.YtfacimebfdeaeaaG3
namespace Go.Proofs.Ytfacimebfdeaeaa
open Pv Go.RowKit

set_option maxRecDepth 100000 in
theorem toN_take {p : Grant → Bool} {l : List Grant} {c : Nat} : ∀ {k : Nat}, k ≤ c → toN p (l.take c) k = toN p l k
  | 0, _ => rfl
  | k + 1, h => by rw [toN, toN, toN_take (by omega : k ≤ c), List.getElem?_take_of_lt (by omega)]
set_option maxRecDepth 100000 in
theorem byN_take {p : Grant → Bool} {l : List Grant} {c : Nat} : ∀ {k : Nat}, k ≤ c → byN p (l.take c) k = byN p l k
  | 0, _ => rfl
  | k + 1, h => by rw [byN, byN, byN_take (by omega : k ≤ c), List.getElem?_take_of_lt (by omega)]
set_option maxRecDepth 100000 in
theorem toN_drop {p : Grant → Bool} {l : List Grant} {c : Nat} : ∀ (j : Nat), toN p l (c + j) = toN p l c ||| toN p (l.drop c) j
  | 0 => by simp [toN]
  | j + 1 => by
    rw [← Nat.add_assoc, toN, toN, toN_drop j, List.getElem?_drop]
    cases l[c + j]? with
    | none => rfl
    | some g => simp only; split <;> simp [Nat.or_assoc]
set_option maxRecDepth 100000 in
theorem byN_drop {p : Grant → Bool} {l : List Grant} {c : Nat} : ∀ (j : Nat), byN p l (c + j) = byN p l c ++ (byN p (l.drop c) j).map (fun x => x + (c : Int))
  | 0 => by simp [byN]
  | j + 1 => by
    rw [← Nat.add_assoc, byN, byN, byN_drop j, List.getElem?_drop]
    cases l[c + j]? with
    | none => rfl
    | some g =>
      simp only
      split
      · rw [List.map_append, List.append_assoc]
        simp
        omega
      · rfl
set_option maxRecDepth 100000 in
theorem byN_mem {p : Grant → Bool} {l : List Grant} : ∀ {k : Nat} {x : Int}, x ∈ byN p l k → 0 ≤ x ∧ x < k
  | 0, x, h => by simp [byN] at h
  | k + 1, x, h => by
    rw [byN] at h
    split at h
    · split at h
      · rcases List.mem_append.1 h with h | h
        · have := byN_mem h; omega
        · rw [List.mem_singleton] at h; omega
      · have := byN_mem h; omega
    · have := byN_mem h; omega
set_option maxRecDepth 100000 in
theorem chkG_iff {l : List Grant} (hl : l.length ≤ 64) : chkG l = 0 ↔ ∀ g ∈ l, goodG 64 g = true := by
  refine ⟨chkG_good, fun h => ?_⟩
  unfold chkG
  rw [checkG_scan (by decide) hl, scanG_end 64 l fun j r _ hr => h r (List.mem_of_getElem? hr)]
set_option maxRecDepth 100000 in
theorem cut_mod (c : Int) (n : Nat) : ∃ k : Nat, k ≤ n ∧ (c.tmod ((n : Int) + 1) + n + 1).tmod ((n : Int) + 1) = (k : Int) ∧ -(n : Int) ≤ c.tmod ((n : Int) + 1) ∧ c.tmod ((n : Int) + 1) ≤ n := by
  have h1 : c.tmod ((n : Int) + 1) < (n : Int) + 1 := Int.tmod_lt_of_pos _ (by omega)
  have h2 : -((n : Int) + 1) < c.tmod ((n : Int) + 1) := Int.lt_tmod_of_pos _ (by omega)
  generalize c.tmod ((n : Int) + 1) = m at *
  have h3 : 0 ≤ (m + n + 1).tmod ((n : Int) + 1) := Int.tmod_nonneg _ (by omega)
  have h4 : (m + n + 1).tmod ((n : Int) + 1) < (n : Int) + 1 := Int.tmod_lt_of_pos _ (by omega)
  exact ⟨((m + n + 1).tmod ((n : Int) + 1)).toNat, by omega, by omega, by omega, by omega⟩
set_option maxHeartbeats 4000000 in
set_option maxRecDepth 100000 in
theorem lawGUnites (fn : Nat) (_hfn : fn < 256) (r : Rect) (_hr : r.ok) (a : List Rule) (ha : a.length * 56 ≤ 140737488351232) (hoa : ∀ x ∈ a, x.ok) (l : List Grant) (hb : l.length * 64 ≤ 140737488351232) (hok : ∀ g ∈ l, g.ok) (cut : Int) (_hcut : i64 cut) : Pure Try.prog 5 [.v (.int .u8 fn), .v r.v, rules a, grants l, .v (.int .i64 cut)] (.s (.v (.bool true))) := by
  have hg0 := good21 a l (by omega) (by omega) hoa hok
  have hr0 := range r
  obtain ⟨hl5, hrel⟩ : 46 + fn % 5 < 256 ∧ relB (46 + fn % 5) = true := by
    have : fn % 5 < 5 := Nat.mod_lt _ (by decide)
    exact ⟨by omega, decide_eq_true (by omega)⟩
  by_cases hgood : ¬(decide (chkE a = 0) && (decide (chkG l = 0) && decide (a.length ≤ 20 ∧ l.length ≤ 30))) = true
  · rw [eq_false_of_ne_true hgood] at hg0
    refine pure_of_wt Try.func5 rfl (by decide) _ Try.ntmps5 rfl Try.results5 fun w0 => ?_
    repeat' (first
    | (apply RunK.callS; exact rfl; exact hg0; (repeat (first | exact ArgsLe.nil | refine ArgsLe.cons ?_ ?_ | exact ArgLe.v _ | exact ArgLe.sl _ _ _ _ | exact ArgLe.nil _ | exact ArgLe.nil' | (apply ArgLe.bsl; exact rfl; (first | exact rfl | (rw [List.length_map]; done) | (simp only [List.length_map]; done) | (simp; done) | (simp; omega)); (first | assumption | exact map_len (fun _ => rfl))))); exact rfl)
    | refine Wt.seq ?_
    | (apply Wt.regionK; exact rfl)
    | refine Wt.ret ?_
    | refine RunK.nil ?_
    | (apply RunK.moveV; exact rfl; exact rfl)
    | (apply RunK.assignV; exact rfl; exact rfl)
    | (apply RunK.box; exact rfl; exact rfl; apply Cells.eq; (first | exact Cells.agg _ | exact Cells.int _ _ | exact Cells.bool _ | exact Cells.one _ rfl); exact rfl)
    | (apply RunK.moveS; exact rfl; exact rfl)
    | (apply RunK.pickT; exact rfl; exact rfl; exact rfl)
    | (apply RunK.not; exact rfl; exact rfl)
    | (apply RunK.skip; exact rfl; exact rfl)
    | (apply Wt.cond; exact rfl; all_goals (intro hg; (first | exact absurd hg (by decide) | skip); (first | (with_reducible replace hg := not_t hg) | (with_reducible replace hg := not_f hg) | skip); (first | (with_reducible replace hg := dec_t hg) | (with_reducible replace hg := dec_f hg) | skip); (first | (with_reducible exact absurd rfl hg) | skip); (repeat rw [List.length_map] at hg); try (exfalso; omega))))
    apply ResOk.v1; exact rfl; exact rfl
  replace hgood := Decidable.not_not.1 hgood
  rw [hgood] at hg0
  simp only [Bool.and_eq_true, decide_eq_true_eq] at hgood
  obtain ⟨h3, h4, _, hl30⟩ := hgood
  cases h2 : rectOk r with
  | false =>
    rw [h2] at hr0
    refine pure_of_wt Try.func5 rfl (by decide) _ Try.ntmps5 rfl Try.results5 fun w0 => ?_
    repeat' (first
    | (apply RunK.callS; exact rfl; exact hg0; (repeat (first | exact ArgsLe.nil | refine ArgsLe.cons ?_ ?_ | exact ArgLe.v _ | exact ArgLe.sl _ _ _ _ | exact ArgLe.nil _ | exact ArgLe.nil' | (apply ArgLe.bsl; exact rfl; (first | exact rfl | (rw [List.length_map]; done) | (simp only [List.length_map]; done) | (simp; done) | (simp; omega)); (first | assumption | exact map_len (fun _ => rfl))))); exact rfl) | (apply RunK.callS; exact rfl; exact hr0; (repeat (first | exact ArgsLe.nil | refine ArgsLe.cons ?_ ?_ | exact ArgLe.v _ | exact ArgLe.sl _ _ _ _ | exact ArgLe.nil _ | exact ArgLe.nil' | (apply ArgLe.bsl; exact rfl; (first | exact rfl | (rw [List.length_map]; done) | (simp only [List.length_map]; done) | (simp; done) | (simp; omega)); (first | assumption | exact map_len (fun _ => rfl))))); exact rfl)
    | refine Wt.seq ?_
    | (apply Wt.regionK; exact rfl)
    | refine Wt.ret ?_
    | refine RunK.nil ?_
    | (apply RunK.moveV; exact rfl; exact rfl)
    | (apply RunK.assignV; exact rfl; exact rfl)
    | (apply RunK.box; exact rfl; exact rfl; apply Cells.eq; (first | exact Cells.agg _ | exact Cells.int _ _ | exact Cells.bool _ | exact Cells.one _ rfl); exact rfl)
    | (apply RunK.moveS; exact rfl; exact rfl)
    | (apply RunK.loadR; exact rfl; exact rfl; exact rfl; exact rfl; (apply cut_eq; repeat (first | exact Cut.nil _ | apply Cut.cons | apply Cut.skip)))
    | (apply RunK.pickF; exact rfl; exact rfl; exact rfl)
    | (apply RunK.not; exact rfl; exact rfl)
    | (apply Wt.cond; exact rfl; all_goals (intro hg; (first | exact absurd hg (by decide) | skip); (first | (with_reducible replace hg := not_t hg) | (with_reducible replace hg := not_f hg) | skip); (first | (with_reducible replace hg := dec_t hg) | (with_reducible replace hg := dec_f hg) | skip); (first | (with_reducible exact absurd rfl hg) | skip); (repeat rw [List.length_map] at hg); try (exfalso; omega))))
    apply ResOk.v1; exact rfl; exact rfl
  | true =>
    rw [h2] at hr0
    obtain ⟨c, hcn, hcm, hm1, hm2⟩ := cut_mod cut l.length
    have hgood := chkG_good h4
    have ht4 : chkG (l.take c) = 0 := (chkG_iff (by rw [List.length_take]; omega)).2 fun g hg => hgood g (List.mem_of_mem_take hg)
    have hd4 : chkG (l.drop c) = 0 := (chkG_iff (by rw [List.length_drop]; omega)).2 fun g hg => hgood g (List.mem_of_mem_drop hg)
    have ht0 := hok
    have hft := grantFor (46 + fn % 5) r a (l.take c) (by omega) (by rw [List.length_take]; omega) hoa fun g hg => hok g (List.mem_of_mem_take hg)
    have hfd := grantFor (46 + fn % 5) r a (l.drop c) (by omega) (by rw [List.length_drop]; omega) hoa fun g hg => hok g (List.mem_of_mem_drop hg)
    have hf := grantFor (46 + fn % 5) r a l (by omega) hb hoa hok
    rw [forS_ok hrel h2 h3 h4] at hf
    rw [forS_ok hrel h2 h3 ht4, show (l.take c).length = c by rw [List.length_take]; omega, toN_take (Nat.le_refl c), byN_take (Nat.le_refl c)] at hft
    rw [forS_ok hrel h2 h3 hd4, List.length_drop] at hfd
    generalize selB (46 + fn % 5) r a = p at *
    have hto := toN_drop (p := p) (l := l) (c := c) (l.length - c)
    have hby := byN_drop (p := p) (l := l) (c := c) (l.length - c)
    rw [show c + (l.length - c) = l.length by omega] at hto hby
    have hbt := u64_or_nat _ _ (toN_lt (p := p) (fun g hg => (hok g hg).to) c) (toN_lt (p := p) (l := l.drop c) (fun g hg => (hok g (List.mem_of_mem_drop hg)).to) (l.length - c))
    rw [← hto] at hbt
    have hxl := byN_len (p := p) (l := l) c
    have hyl := byN_len (p := p) (l := l.drop c) (l.length - c)
    have hmem : ∀ x ∈ byN p (l.drop c) (l.length - c), 0 ≤ x ∧ x < 64 := fun x hx => by have := byN_mem hx; omega
    generalize byN p l c = xs at *
    generalize byN p (l.drop c) (l.length - c) = ys at *
    generalize byN p l l.length = zs at *
    generalize toN p l c = T1 at *
    generalize toN p (l.drop c) (l.length - c) = T2 at *
    generalize toN p l l.length = T3 at *
    dsimp only [forR] at hf hft hfd
    have b1 : ∀ t o o2, BinRun Try.prog .rem t o o2 (.int .u8 (fn : Int)) (.int .u8 5) (.int .u8 ((fn % 5 : Nat) : Int)) := fun t o o2 => by
      have := BinRun.rem (P := Try.prog) (t := t) (x := o) (y := o2) (k := .u8) (a := (fn : Int)) (b := 5) (by decide)
      rwa [fn_rem] at this
    have b2 : ∀ t o o2, BinRun Try.prog .add t o o2 (.int .u8 46) (.int .u8 ((fn % 5 : Nat) : Int)) (.int .u8 ((46 + fn % 5 : Nat) : Int)) := fun t o o2 => by
      have := BinRun.add (P := Try.prog) (t := t) (x := o) (y := o2) (k := .u8) (a := 46) (b := ((fn % 5 : Nat) : Int))
      rwa [fn_add] at this
    generalize 46 + fn % 5 = F at *
    generalize fn % 5 = d at *
    have hlm : (l.map Grant.vals).length = l.length := List.length_map _
    have b3 : ∀ t o o2, BinRun Try.prog .rem t o o2 (.int .i64 cut) (.int .i64 (((l.map Grant.vals).length : Int) + 1)) (.int .i64 (cut.tmod ((l.length : Int) + 1))) := fun t o o2 => by rw [hlm]; exact BinRun.rem (by omega)
    generalize cut.tmod ((l.length : Int) + 1) = m at *
    have b4 : ∀ t o o2, BinRun Try.prog .rem t o o2 (.int .i64 (m + ((l.map Grant.vals).length : Int) + 1)) (.int .i64 (((l.map Grant.vals).length : Int) + 1)) (.int .i64 (c : Int)) := fun t o o2 => by
      rw [hlm]
      have := BinRun.rem (P := Try.prog) (t := t) (x := o) (y := o2) (k := .i64) (a := m + (l.length : Int) + 1) (b := (l.length : Int) + 1) (by omega)
      rwa [hcm] at this
    have hct := copyGrants (l.take c) (by rw [List.length_take]; omega)
    have hcd := copyGrants (l.drop c) (by rw [List.length_drop]; omega)
    replace hct : Pure Try.prog 15 [.sl none .no 8 ((l.map Grant.vals).take c)] (.s (grantsR (l.take c))) := by rw [← List.map_take]; exact hct
    replace hcd : Pure Try.prog 15 [.sl none .no 8 ((l.map Grant.vals).drop c)] (.s (grantsR (l.drop c))) := by rw [← List.map_drop]; exact hcd
    refine pure_of_wt Try.func5 rfl (by decide) _ Try.ntmps5 rfl Try.results5 fun w0 => ?_
    repeat' (first
    | (apply RunK.callS; exact rfl; exact hg0; (repeat (first | exact ArgsLe.nil | refine ArgsLe.cons ?_ ?_ | exact ArgLe.v _ | exact ArgLe.sl _ _ _ _ | exact ArgLe.nil _ | exact ArgLe.nil' | (apply ArgLe.bsl; exact rfl; (first | exact rfl | (rw [List.length_map]; done) | (simp only [List.length_map]; done) | (simp; done) | (simp; omega)); (first | assumption | exact map_len (fun _ => rfl))))); exact rfl) | (apply RunK.callS; exact rfl; exact hr0; (repeat (first | exact ArgsLe.nil | refine ArgsLe.cons ?_ ?_ | exact ArgLe.v _ | exact ArgLe.sl _ _ _ _ | exact ArgLe.nil _ | exact ArgLe.nil' | (apply ArgLe.bsl; exact rfl; (first | exact rfl | (rw [List.length_map]; done) | (simp only [List.length_map]; done) | (simp; done) | (simp; omega)); (first | assumption | exact map_len (fun _ => rfl))))); exact rfl) | (apply RunK.callT; exact rfl; exact hft; (repeat (first | exact ArgsLe.nil | refine ArgsLe.cons ?_ ?_ | exact ArgLe.v _ | exact ArgLe.sl _ _ _ _ | exact ArgLe.nil _ | exact ArgLe.nil' | (apply ArgLe.bsl; exact rfl; (first | exact rfl | (rw [List.length_map]; done) | (simp only [List.length_map]; done) | (simp; done) | (simp; omega)); (first | assumption | exact map_len (fun _ => rfl))))); exact rfl) | (apply RunK.callT; exact rfl; exact hfd; (repeat (first | exact ArgsLe.nil | refine ArgsLe.cons ?_ ?_ | exact ArgLe.v _ | exact ArgLe.sl _ _ _ _ | exact ArgLe.nil _ | exact ArgLe.nil' | (apply ArgLe.bsl; exact rfl; (first | exact rfl | (rw [List.length_map]; done) | (simp only [List.length_map]; done) | (simp; done) | (simp; omega)); (first | assumption | exact map_len (fun _ => rfl))))); exact rfl) | (apply RunK.callT; exact rfl; exact hf; (repeat (first | exact ArgsLe.nil | refine ArgsLe.cons ?_ ?_ | exact ArgLe.v _ | exact ArgLe.sl _ _ _ _ | exact ArgLe.nil _ | exact ArgLe.nil' | (apply ArgLe.bsl; exact rfl; (first | exact rfl | (rw [List.length_map]; done) | (simp only [List.length_map]; done) | (simp; done) | (simp; omega)); (first | assumption | exact map_len (fun _ => rfl))))); exact rfl) | (apply RunK.callS; exact rfl; exact (copyRules a ha); (repeat (first | exact ArgsLe.nil | refine ArgsLe.cons ?_ ?_ | exact ArgLe.v _ | exact ArgLe.sl _ _ _ _ | exact ArgLe.nil _ | exact ArgLe.nil' | (apply ArgLe.bsl; exact rfl; (first | exact rfl | (rw [List.length_map]; done) | (simp only [List.length_map]; done) | (simp; done) | (simp; omega)); (first | assumption | exact map_len (fun _ => rfl))))); exact rfl) | (apply RunK.callS; exact rfl; exact hct; (repeat (first | exact ArgsLe.nil | refine ArgsLe.cons ?_ ?_ | exact ArgLe.v _ | exact ArgLe.sl _ _ _ _ | exact ArgLe.nil _ | exact ArgLe.nil' | (apply ArgLe.bsl; exact rfl; (first | exact rfl | (rw [List.length_map]; done) | (simp only [List.length_map]; done) | (simp; done) | (simp; omega)); (first | assumption | exact map_len (fun _ => rfl))))); exact rfl) | (apply RunK.callS; exact rfl; exact hcd; (repeat (first | exact ArgsLe.nil | refine ArgsLe.cons ?_ ?_ | exact ArgLe.v _ | exact ArgLe.sl _ _ _ _ | exact ArgLe.nil _ | exact ArgLe.nil' | (apply ArgLe.bsl; exact rfl; (first | exact rfl | (rw [List.length_map]; done) | (simp only [List.length_map]; done) | (simp; done) | (simp; omega)); (first | assumption | exact map_len (fun _ => rfl))))); exact rfl) | (apply RunK.callS; exact rfl; exact (copyGrants l hb); (repeat (first | exact ArgsLe.nil | refine ArgsLe.cons ?_ ?_ | exact ArgLe.v _ | exact ArgLe.sl _ _ _ _ | exact ArgLe.nil _ | exact ArgLe.nil' | (apply ArgLe.bsl; exact rfl; (first | exact rfl | (rw [List.length_map]; done) | (simp only [List.length_map]; done) | (simp; done) | (simp; omega)); (first | assumption | exact map_len (fun _ => rfl))))); exact rfl) | (apply RunK.bin; exact rfl; exact rfl; exact rfl; first | exact b1 _ _ _ | exact b2 _ _ _ | exact b3 _ _ _ | exact b4 _ _ _ | exact runBits (.inr (.inl rfl)) hbt)
    | refine Wt.seq ?_
    | (apply Wt.regionK; exact rfl)
    | (apply Wt.regionD; kernel_rfl; kernel_rfl; exact rfl; exact rfl)
    | refine Wt.ret ?_
    | refine Wt.block ?_
    | refine Wt.skip ?_
    | refine RunK.nil ?_
    | (apply RunK.moveV; exact rfl; exact rfl)
    | (apply RunK.assignV; exact rfl; exact rfl)
    | (apply RunK.box; exact rfl; exact rfl; apply Cells.eq; (first | exact Cells.agg _ | exact Cells.int _ _ | exact Cells.bool _ | exact Cells.one _ rfl); exact rfl)
    | (apply RunK.moveS; exact rfl; exact rfl)
    | (apply RunK.moveT; exact rfl; exact rfl)
    | (apply RunK.assignS; exact rfl; exact rfl)
    | (apply RunK.loadR; exact rfl; exact rfl; exact rfl; exact rfl; (apply cut_eq; repeat (first | exact Cut.nil _ | apply Cut.cons | apply Cut.skip)))
    | (apply RunK.pickF; exact rfl; exact rfl; exact rfl)
    | (apply RunK.neq; exact rfl; exact rfl; exact rfl)
    | (apply RunK.add; exact rfl; exact rfl; exact rfl; (first | omega | (simp only [List.length_map]; omega)))
    | (apply RunK.not; exact rfl; exact rfl)
    | (apply RunK.len; exact rfl; exact rfl)
    | (apply RunK.sliceFrom; exact rfl; exact rfl; exact rfl; (first | exact rfl | exact (rfl : (0 : Int) = ((0 : Nat) : Int)) | exact (rfl : (1 : Int) = ((1 : Nat) : Int)) | exact (rfl : (2 : Int) = ((2 : Nat) : Int)) | exact (rfl : (3 : Int) = ((3 : Nat) : Int)) | assumption); (first | omega | (simp only [List.length_map]; omega)))
    | (apply RunK.sliceTo; exact rfl; exact rfl; exact rfl; (first | exact rfl | exact (rfl : (0 : Int) = ((0 : Nat) : Int)) | exact (rfl : (1 : Int) = ((1 : Nat) : Int)) | exact (rfl : (2 : Int) = ((2 : Nat) : Int)) | exact (rfl : (3 : Int) = ((3 : Nat) : Int)) | assumption); (first | omega | (simp only [List.length_map]; omega)))
    | (apply RunK.extract; exact rfl; exact rfl; exact rfl)
    | (apply RunK.guard; exact rfl; exact rfl; exact rfl; all_goals (intro hg; (first | exact absurd hg (by decide) | skip); (first | (with_reducible replace hg := not_t hg) | (with_reducible replace hg := not_f hg) | skip); (first | (with_reducible replace hg := dec_t hg) | (with_reducible replace hg := dec_f hg) | skip); (first | (with_reducible exact absurd rfl hg) | skip); (repeat rw [List.length_map] at hg); try (exfalso; omega)))
    | (apply Wt.cond; exact rfl; all_goals (intro hg; (first | exact absurd hg (by decide) | skip); (first | (with_reducible replace hg := not_t hg) | (with_reducible replace hg := not_f hg) | skip); (first | (with_reducible replace hg := dec_t hg) | (with_reducible replace hg := dec_f hg) | skip); (first | (with_reducible exact absurd rfl hg) | skip); (repeat rw [List.length_map] at hg); try (exfalso; omega))))
    · exact absurd (by rw [hby]; simp) hg
    have hzl : zs.length = xs.length + ys.length := by rw [hby]; simp
    refine Wt.loop (fun k : Nat => ⟨[(4, .s (.v (.int .i64 (c : Int)))), (12, .s (.sl (some 55) (.front 3) 1 (xs.map ival))), (15, .s (.sl (some 68) (.front 3) 1 (ys.map ival))), (18, .s (.sl (some 79) (.front 3) 1 (zs.map ival))), (20, .s (.v (.int .i64 k)))], []⟩) (fun k => k ≤ ys.length) (fun k => ys.length - k) 0 (Nat.zero_le _) ?_ ?_
    · (refine Le.mk ?_ ?_; (repeat' (first | exact LeEnv.done | refine LeEnv.cons ?_ ?_ | exact PVLe.refl _ | exact PVLe.s (SVLe.nil _ _ _) | exact PVLe.s (SVLe.no _ _ _ _) | (refine PVLe.int ?_; first | rfl | omega | (simp; done) | (simp; omega)) | (refine PVLe.els ?_; first | rfl | assumption | (simp; done)) | (refine PVLe.bool ?_; first | rfl | assumption) | (refine PVLe.bsl ?_; first | rfl | assumption | (simp; done))));  (repeat' (first | exact LeBox.done | refine LeBox.cons ?_ ?_ | exact rfl)))
    · rintro k hk
      by_cases hlt : k < ys.length
      · obtain ⟨y, hyk⟩ := exists_at hlt
        have hy1 := get_map (f := ival) hyk
        have hzk : zs[xs.length + k]? = some (y + (c : Int)) := by rw [hby, List.getElem?_append_right (by omega), Nat.add_sub_cancel_left, List.getElem?_map, hyk]; rfl
        have hz1 := get_map (f := ival) hzk
        have hyb := hmem y (List.mem_of_getElem? hyk)
        have hjx : (((xs.map ival).length : Nat) : Int) + (k : Int) = ((xs.length + k : Nat) : Int) := by simp
        have hjb : xs.length + k < (zs.map ival).length := by simp; omega
        repeat' (first
    | (apply RunK.index; exact rfl; exact rfl; exact rfl; exact hjx; exact hjb)
    | refine Wt.seq ?_
    | (apply Wt.regionK; exact rfl)
    | (apply Wt.regionD; kernel_rfl; kernel_rfl; exact rfl; exact rfl)
    | refine Wt.block ?_
    | refine Wt.skip ?_
    | refine RunK.nil ?_
    | (apply RunK.moveV; exact rfl; exact rfl)
    | (apply RunK.index; exact rfl; exact rfl; exact rfl; (first | exact rfl | exact (rfl : (0 : Int) = ((0 : Nat) : Int)) | exact (rfl : (1 : Int) = ((1 : Nat) : Int)) | exact (rfl : (2 : Int) = ((2 : Nat) : Int)) | exact (rfl : (3 : Int) = ((3 : Nat) : Int)) | assumption); (first | omega | exact lt_of_get ‹_› | (rw [List.length_map]; omega) | (simp; omega)))
    | (apply RunK.loadE1; exact rfl; exact rfl; assumption; exact rfl)
    | (apply RunK.assignV; exact rfl; exact rfl)
    | (apply RunK.moveS; exact rfl; exact rfl)
    | (apply RunK.lss; exact rfl; exact rfl; exact rfl)
    | (apply RunK.neq; exact rfl; exact rfl; exact rfl)
    | (apply RunK.add; exact rfl; exact rfl; exact rfl; (first | omega | (simp only [List.length_map]; omega)))
    | (apply RunK.len; exact rfl; exact rfl)
    | (apply Wt.cond; exact rfl; all_goals (intro hg; (first | exact absurd hg (by decide) | skip); (first | (with_reducible replace hg := not_t hg) | (with_reducible replace hg := not_f hg) | skip); (first | (with_reducible replace hg := dec_t hg) | (with_reducible replace hg := dec_f hg) | skip); (first | (with_reducible exact absurd rfl hg) | skip); (repeat rw [List.length_map] at hg); try (exfalso; omega))))
        refine ⟨k + 1, hlt, by omega, ?_⟩
        (refine Le.mk ?_ ?_; (repeat' (first | exact LeEnv.done | refine LeEnv.cons ?_ ?_ | exact PVLe.refl _ | exact PVLe.s (SVLe.nil _ _ _) | exact PVLe.s (SVLe.no _ _ _ _) | (refine PVLe.int ?_; first | rfl | omega | (simp; done) | (simp; omega)) | (refine PVLe.els ?_; first | rfl | assumption | (simp; done)) | (refine PVLe.bool ?_; first | rfl | assumption) | (refine PVLe.bsl ?_; first | rfl | assumption | (simp; done))));  (repeat' (first | exact LeBox.done | refine LeBox.cons ?_ ?_ | exact rfl)))
      · repeat' (first
    | (apply RunK.callS; exact rfl; exact example21; (repeat (first | exact ArgsLe.nil | refine ArgsLe.cons ?_ ?_ | exact ArgLe.v _ | exact ArgLe.sl _ _ _ _ | exact ArgLe.nil _ | exact ArgLe.nil' | (apply ArgLe.bsl; exact rfl; (first | exact rfl | (rw [List.length_map]; done) | (simp only [List.length_map]; done) | (simp; done) | (simp; omega)); (first | assumption | exact map_len (fun _ => rfl))))); exact rfl)
    | refine Wt.seq ?_
    | (apply Wt.regionK; exact rfl)
    | refine Wt.ret ?_
    | refine Wt.exit ?_
    | refine RunK.nil ?_
    | (apply RunK.moveV; exact rfl; exact rfl)
    | (apply RunK.assignV; exact rfl; exact rfl)
    | (apply RunK.moveS; exact rfl; exact rfl)
    | (apply RunK.lss; exact rfl; exact rfl; exact rfl)
    | (apply RunK.len; exact rfl; exact rfl)
    | (apply Wt.cond; exact rfl; all_goals (intro hg; (first | exact absurd hg (by decide) | skip); (first | (with_reducible replace hg := not_t hg) | (with_reducible replace hg := not_f hg) | skip); (first | (with_reducible replace hg := dec_t hg) | (with_reducible replace hg := dec_f hg) | skip); (first | (with_reducible exact absurd rfl hg) | skip); (repeat rw [List.length_map] at hg); try (exfalso; omega))))
        apply ResOk.v1; exact rfl; exact rfl
end Go.Proofs.Ytfacimebfdeaeaa
