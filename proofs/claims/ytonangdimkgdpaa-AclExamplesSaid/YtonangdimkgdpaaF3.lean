/- The walks of the functions on sets of users and of the checks. -/
import Derived.Test.YtonangdimkgdpaaF2
import Derived.Test.YtonangdimkgdpaaAclMath
namespace Go.Proofs.Ytonangdimkgdpaa
open Pv Go.RowKit

set_option maxRecDepth 100000 in
theorem runBits {op : BinOp} {t : TypeId} {x y : Operand} {a b c : Int} (h : op = .and ∨ op = .or ∨ op = .xor ∨ op = .andNot) (e : bits op .u64 a b = c) : BinRun Try.prog op t x y (.int .u64 a) (.int .u64 b) (.int .u64 c) := by
  subst e
  have := BinRun.bits (P := Try.prog) (t := t) (x := x) (y := y) (k := .u64) (a := a) (b := b) h
  rcases h with rfl | rfl | rfl | rfl <;> exact this
set_option maxRecDepth 100000 in
theorem all_shl {n : Int} (h0 : 0 ≤ n) (h : n ≤ 64) : IntKind.u64.wrap (IntKind.u64.wrap (1 * 2 ^ (min n.toNat IntKind.u64.bits)) - 1) = (allN n : Int) := by
  rw [show min n.toNat IntKind.u64.bits = n.toNat from Nat.min_eq_left (by show n.toNat ≤ 64; omega)]
  unfold allN
  have hp : 1 ≤ 2 ^ n.toNat := Nat.one_le_two_pow
  have hle : 2 ^ n.toNat ≤ 2 ^ 64 := Nat.pow_le_pow_right (by omega) (by omega)
  rw [IntKind.wrap_u64, IntKind.wrap_u64]
  have hc : (1 : Int) * (2 : Int) ^ n.toNat = ((2 ^ n.toNat : Nat) : Int) := by simp
  rw [hc]
  generalize 2 ^ n.toNat = x at *
  omega
set_option maxRecDepth 100000 in
theorem bit (n : Int) (h0 : 0 ≤ n) (h : n < 64) : Pure Try.prog 41 [.v (.int .i64 n)] (.s (.v (.int .u64 ((2 ^ n.toNat : Nat) : Int)))) := by
  refine Pure.wrap ⟨_, Try.func41, by decide, rfl⟩ (vs := [.int .i64 n]) (argsOk_vs rfl) rfl fun w => ?_
  go_enter Try.func41, Try.ntmps41
  go_wp2
  refine bodyPost_ret (v := .int .u64 ((2 ^ n.toNat : Nat) : Int)) (by simp [results, Try.results41, go_sem]; simpa using wrap_u64_nat (two_pow_lt64 (u := n.toNat) (by omega))) rfl ⟨rfl, ?_⟩
  repeat' first | exact Below.refl _ _ | (refine Below.alloc ?_ (by first | (simp; done) | (simp; omega)) _) | apply Below.drew | (refine Below.setCell ?_ (by first | (simp; done) | (simp; omega)) _)
set_option maxRecDepth 100000 in
theorem groupAll (n : Int) (h : 0 ≤ n ∧ n ≤ 64) : Pure Try.prog 29 [.v (.int .i64 n)] (.tup [.v (.int .u64 (allN n)), .v (.int .i64 0)]) := by
  refine pure_of_wt Try.func29 rfl (by decide) _ Try.ntmps29 rfl Try.results29 fun w0 => ?_
  repeat' (first
    | (apply RunK.bin; exact rfl; exact rfl; exact rfl; exact BinRun.shl (by omega)) | (apply RunK.bin; exact rfl; exact rfl; exact rfl; exact BinRun.sub)
    | refine Wt.seq ?_
    | (apply Wt.regionK; exact rfl)
    | refine Wt.ret ?_
    | refine Wt.skip ?_
    | refine RunK.nil ?_
    | (apply RunK.moveV; exact rfl; exact rfl)
    | (apply RunK.assignV; exact rfl; exact rfl)
    | (apply RunK.pickF; exact rfl; exact rfl; exact rfl)
    | (apply RunK.lss; exact rfl; exact rfl; exact rfl)
    | (apply RunK.gtr; exact rfl; exact rfl; exact rfl)
    | (apply RunK.guard; exact rfl; exact rfl; exact rfl; all_goals (intro hg; (first | exact absurd hg (by decide) | skip); (first | (with_reducible replace hg := not_t hg) | (with_reducible replace hg := not_f hg) | skip); (first | (with_reducible replace hg := dec_t hg) | (with_reducible replace hg := dec_f hg) | skip); (first | (with_reducible exact absurd rfl hg) | skip); (repeat rw [List.length_map] at hg); try (exfalso; omega)))
    | (apply Wt.cond; exact rfl; all_goals (intro hg; (first | exact absurd hg (by decide) | skip); (first | (with_reducible replace hg := not_t hg) | (with_reducible replace hg := not_f hg) | skip); (first | (with_reducible replace hg := dec_t hg) | (with_reducible replace hg := dec_f hg) | skip); (first | (with_reducible exact absurd rfl hg) | skip); (repeat rw [List.length_map] at hg); try (exfalso; omega))))
  apply ResOk.vv; exact rfl; exact int_v (all_shl h.1 h.2); exact rfl; exact rfl
set_option maxRecDepth 100000 in
theorem groupAllX (n : Int) (h : ¬(0 ≤ n ∧ n ≤ 64)) : Pure Try.prog 29 [.v (.int .i64 n)] (.tup [.v (.int .u64 0), .v (.int .i64 3)]) := by
  refine pure_of_wt Try.func29 rfl (by decide) _ Try.ntmps29 rfl Try.results29 fun w0 => ?_
  repeat' (first
    | refine Wt.seq ?_
    | (apply Wt.regionK; exact rfl)
    | refine Wt.ret ?_
    | refine RunK.nil ?_
    | (apply RunK.moveV; exact rfl; exact rfl)
    | (apply RunK.assignV; exact rfl; exact rfl)
    | (apply RunK.pickT; exact rfl; exact rfl; exact rfl)
    | (apply RunK.pickF; exact rfl; exact rfl; exact rfl)
    | (apply RunK.lss; exact rfl; exact rfl; exact rfl)
    | (apply RunK.gtr; exact rfl; exact rfl; exact rfl)
    | (apply RunK.skip; exact rfl; exact rfl)
    | (apply RunK.guard; exact rfl; exact rfl; exact rfl; all_goals (intro hg; (first | exact absurd hg (by decide) | skip); (first | (with_reducible replace hg := not_t hg) | (with_reducible replace hg := not_f hg) | skip); (first | (with_reducible replace hg := dec_t hg) | (with_reducible replace hg := dec_f hg) | skip); (first | (with_reducible exact absurd rfl hg) | skip); (repeat rw [List.length_map] at hg); try (exfalso; omega)))
    | (apply Wt.cond; exact rfl; all_goals (intro hg; (first | exact absurd hg (by decide) | skip); (first | (with_reducible replace hg := not_t hg) | (with_reducible replace hg := not_f hg) | skip); (first | (with_reducible replace hg := dec_t hg) | (with_reducible replace hg := dec_f hg) | skip); (first | (with_reducible exact absurd rfl hg) | skip); (repeat rw [List.length_map] at hg); try (exfalso; omega))))
  all_goals (apply ResOk.vv; exact rfl; exact rfl; exact rfl; exact rfl)
set_option maxRecDepth 100000 in
theorem refAll (n : Int) (h : 0 ≤ n ∧ n ≤ 64) : Pure Try.prog 35 [.v (.int .i64 n)] (.tup [.v (.int .u64 (allN n)), .v (.int .i64 0)]) := by
  refine pure_of_wt Try.func35 rfl (by decide) _ Try.ntmps35 rfl Try.results35 fun w0 => ?_
  repeat' (first
    | refine Wt.seq ?_
    | (apply Wt.regionK; exact rfl)
    | refine Wt.block ?_
    | refine Wt.skip ?_
    | refine RunK.nil ?_
    | (apply RunK.moveV; exact rfl; exact rfl)
    | (apply RunK.assignV; exact rfl; exact rfl)
    | (apply RunK.pickF; exact rfl; exact rfl; exact rfl)
    | (apply RunK.lss; exact rfl; exact rfl; exact rfl)
    | (apply RunK.gtr; exact rfl; exact rfl; exact rfl)
    | (apply RunK.guard; exact rfl; exact rfl; exact rfl; all_goals (intro hg; (first | exact absurd hg (by decide) | skip); (first | (with_reducible replace hg := not_t hg) | (with_reducible replace hg := not_f hg) | skip); (first | (with_reducible replace hg := dec_t hg) | (with_reducible replace hg := dec_f hg) | skip); (first | (with_reducible exact absurd rfl hg) | skip); (repeat rw [List.length_map] at hg); try (exfalso; omega)))
    | (apply Wt.cond; exact rfl; all_goals (intro hg; (first | exact absurd hg (by decide) | skip); (first | (with_reducible replace hg := not_t hg) | (with_reducible replace hg := not_f hg) | skip); (first | (with_reducible replace hg := dec_t hg) | (with_reducible replace hg := dec_f hg) | skip); (first | (with_reducible exact absurd rfl hg) | skip); (repeat rw [List.length_map] at hg); try (exfalso; omega))))
  refine Wt.loop (fun k : Nat => ⟨[(0, .s (.v (.int .i64 n))), (4, .s (.v (.int .u64 (allN k)))), (5, .s (.v (.int .i64 k)))], []⟩) (fun k => (k : Int) ≤ n) (fun k => n.toNat - k) 0 h.1 ?_ ?_
  · (refine Le.mk ?_ ?_; (repeat' (first | exact LeEnv.done | refine LeEnv.cons ?_ ?_ | exact PVLe.refl _ | exact PVLe.s (SVLe.nil _ _ _) | exact PVLe.s (SVLe.no _ _ _ _) | (refine PVLe.int ?_; first | rfl | omega | (simp; done) | (simp; omega)) | (refine PVLe.els ?_; first | rfl | assumption | (simp; done)) | (refine PVLe.bool ?_; first | rfl | assumption) | (refine PVLe.bsl ?_; first | rfl | assumption | (simp; done))));  (repeat' (first | exact LeBox.done | refine LeBox.cons ?_ ?_ | exact rfl)))
  · rintro k hk
    by_cases hlt : (k : Int) < n
    · have step : bits .or .u64 (allN k) ((2 ^ (k : Int).toNat : Nat) : Int) = (allN ((k + 1 : Nat) : Int) : Int) := by
        rw [u64_or_nat _ _ (allN_lt (by omega)) (two_pow_lt64 (by omega))]
        have e1 : ((k + 1 : Nat) : Int).toNat = (k : Int).toNat + 1 := by omega
        unfold allN
        rw [e1, Nat.or_comm, nat_join (k : Int).toNat _ _ (Nat.mod_self _) (by have := Nat.one_le_two_pow (n := (k : Int).toNat); omega), Nat.pow_succ]
        have := Nat.one_le_two_pow (n := (k : Int).toNat)
        congr 1
        omega
      repeat' (first
    | (apply RunK.callS; exact rfl; exact rfl; exact (bit k (by omega) (by omega)); (repeat (first | exact ArgsLe.nil | refine ArgsLe.cons ?_ ?_ | exact ArgLe.v _ | exact ArgLe.sl _ _ _ _ | exact ArgLe.nil _ | exact ArgLe.nil' | exact ArgLe.nsl _ _ _ _ _ | exact ArgLe.nsn _ | (apply ArgLe.bsl; exact rfl; (first | exact rfl | (rw [List.length_map]; done) | (simp only [List.length_map]; done) | (simp; done) | (simp; omega)); (first | assumption | exact map_len (fun _ => rfl))))); exact rfl) | (apply RunK.bin; exact rfl; exact rfl; exact rfl; exact runBits (.inr (.inl rfl)) step)
    | refine Wt.seq ?_
    | (apply Wt.regionK; exact rfl)
    | refine Wt.block ?_
    | refine Wt.skip ?_
    | refine RunK.nil ?_
    | (apply RunK.moveV; exact rfl; exact rfl)
    | (apply RunK.assignV; exact rfl; exact rfl)
    | (apply RunK.lss; exact rfl; exact rfl; exact rfl)
    | (apply RunK.add; exact rfl; exact rfl; exact rfl; (first | omega | (simp only [List.length_map]; omega)))
    | (apply Wt.cond; exact rfl; all_goals (intro hg; (first | exact absurd hg (by decide) | skip); (first | (with_reducible replace hg := not_t hg) | (with_reducible replace hg := not_f hg) | skip); (first | (with_reducible replace hg := dec_t hg) | (with_reducible replace hg := dec_f hg) | skip); (first | (with_reducible exact absurd rfl hg) | skip); (repeat rw [List.length_map] at hg); try (exfalso; omega))))
      refine ⟨k + 1, by omega, by omega, ?_⟩
      (refine Le.mk ?_ ?_; (repeat' (first | exact LeEnv.done | refine LeEnv.cons ?_ ?_ | exact PVLe.refl _ | exact PVLe.s (SVLe.nil _ _ _) | exact PVLe.s (SVLe.no _ _ _ _) | (refine PVLe.int ?_; first | rfl | omega | (simp; done) | (simp; omega)) | (refine PVLe.els ?_; first | rfl | assumption | (simp; done)) | (refine PVLe.bool ?_; first | rfl | assumption) | (refine PVLe.bsl ?_; first | rfl | assumption | (simp; done))));  (repeat' (first | exact LeBox.done | refine LeBox.cons ?_ ?_ | exact rfl)))
    · have e : n = k := by omega
      subst e
      repeat' (first
    | refine Wt.seq ?_
    | (apply Wt.regionK; exact rfl)
    | refine Wt.ret ?_
    | refine Wt.exit ?_
    | refine RunK.nil ?_
    | (apply RunK.moveV; exact rfl; exact rfl)
    | (apply RunK.assignV; exact rfl; exact rfl)
    | (apply RunK.lss; exact rfl; exact rfl; exact rfl)
    | (apply Wt.cond; exact rfl; all_goals (intro hg; (first | exact absurd hg (by decide) | skip); (first | (with_reducible replace hg := not_t hg) | (with_reducible replace hg := not_f hg) | skip); (first | (with_reducible replace hg := dec_t hg) | (with_reducible replace hg := dec_f hg) | skip); (first | (with_reducible exact absurd rfl hg) | skip); (repeat rw [List.length_map] at hg); try (exfalso; omega))))
      apply ResOk.vv; exact rfl; exact rfl; exact rfl; exact rfl
set_option maxRecDepth 100000 in
theorem within (s : Nat) (hs : s < 18446744073709551616) (n : Int) (h : 0 ≤ n ∧ n ≤ 64) : Pure Try.prog 26 [.v (.int .u64 s), .v (.int .i64 n)] (.s (.v (.bool (withinB s n)))) := by
  refine pure_of_wt Try.func26 rfl (by decide) _ Try.ntmps26 rfl Try.results26 fun w0 => ?_
  repeat' (first
    | (apply RunK.callT; exact rfl; exact rfl; exact (refAll n h); (repeat (first | exact ArgsLe.nil | refine ArgsLe.cons ?_ ?_ | exact ArgLe.v _ | exact ArgLe.sl _ _ _ _ | exact ArgLe.nil _ | exact ArgLe.nil' | exact ArgLe.nsl _ _ _ _ _ | exact ArgLe.nsn _ | (apply ArgLe.bsl; exact rfl; (first | exact rfl | (rw [List.length_map]; done) | (simp only [List.length_map]; done) | (simp; done) | (simp; omega)); (first | assumption | exact map_len (fun _ => rfl))))); exact rfl) | (apply RunK.bin; exact rfl; exact rfl; exact rfl; exact runBits (.inr (.inr (.inr rfl))) rfl)
    | refine Wt.seq ?_
    | (apply Wt.regionK; exact rfl)
    | refine Wt.ret ?_
    | refine RunK.nil ?_
    | (apply RunK.moveV; exact rfl; exact rfl)
    | (apply RunK.assignV; exact rfl; exact rfl)
    | (apply RunK.moveT; exact rfl; exact rfl)
    | (apply RunK.eql; exact rfl; exact rfl; exact rfl)
    | (apply RunK.extract; exact rfl; exact rfl; exact rfl))
  apply ResOk.v1; exact rfl; refine bool_v ?_; rw [← andNot_zero hs h.2]; exact rfl
end Go.Proofs.Ytonangdimkgdpaa
