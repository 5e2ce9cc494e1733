/- The values of the law AuditExamples. -/
import Derived.Test.YtfacimebfdeaeaaH9
import Derived.Test.YtfacimebfdeaeaaH12
namespace Go.Proofs.Ytfacimebfdeaeaa
open Pv Go.RowKit
instance (r : Rect) : Decidable r.ok := decidable_of_iff (i64 r.c1 ∧ i64 r.r1 ∧ i64 r.c2 ∧ i64 r.r2) ⟨fun h => ⟨h.1, h.2.1, h.2.2.1, h.2.2.2⟩, fun h => ⟨h.1, h.2, h.3, h.4⟩⟩
instance (r : Ref) : Decidable r.ok := decidable_of_iff (i64 r.col ∧ i64 r.row) ⟨fun h => ⟨h.1, h.2⟩, fun h => ⟨h.1, h.2⟩⟩
instance (x : Event) : Decidable x.ok := decidable_of_iff (i64 x.step ∧ i64 x.user ∧ x.kind < 256 ∧ x.rect.ok ∧ x.to < 18446744073709551616) ⟨fun h => ⟨h.1, h.2.1, h.2.2.1, h.2.2.2.1, h.2.2.2.2⟩, fun h => ⟨h.1, h.2, h.3, h.4, h.5⟩⟩
instance (x : Grant) : Decidable x.ok := decidable_of_iff (x.rect.ok ∧ x.fns < 256 ∧ x.to < 18446744073709551616 ∧ i64 x.by_) ⟨fun h => ⟨h.1, h.2.1, h.2.2.1, h.2.2.2⟩, fun h => ⟨h.1, h.2, h.3, h.4⟩⟩
instance (x : Release) : Decidable x.ok := decidable_of_iff (i64 x.step ∧ x.at_.ok ∧ i64 x.node ∧ x.fn < 256 ∧ x.rect.ok ∧ i64 x.grant ∧ x.to < 18446744073709551616) ⟨fun h => ⟨h.1, h.2.1, h.2.2.1, h.2.2.2.1, h.2.2.2.2.1, h.2.2.2.2.2.1, h.2.2.2.2.2.2⟩, fun h => ⟨h.1, h.2, h.3, h.4, h.5, h.6, h.7⟩⟩
def area30 : Rect := ⟨2, 1, 2, 3⟩
def read30 : Opn := { set30 with kind := 5, input := ⟨#[]⟩ }
def stranger30 : Opn := { set30 with user := 64 }
def out30 : Opn := { set30 with rect := ⟨1025, 1, 1025, 1⟩ }
def revoke30 : Opn := zeroO 9 1 rect0
def grant0 : Grant := ⟨rect0, 0, 0, 0, false⟩
def grant30 : Grant := ⟨area30, 1, 0, 0, false⟩
def evY : Event := ⟨0, 1, 9, area30, true, 3⟩
def relR : Release := ⟨-1, ⟨1, 3⟩, 1, 46, area30, 0, 7⟩
def later30 : Release := { relR with step := 5 }
def bad30 : List Release := [{ relR with step := -2 }, { relR with at_ := ⟨0, 0⟩ }, { relR with node := 256 }, { relR with fn := 9 }, { relR with rect := rect0 }, { relR with grant := 64 }, { relR with to := 8 }]
def want30 : List Int := [12, 3, 2, 2, 3, 2, 2]
set_option maxRecDepth 100000 in
theorem L3 : goodL rules3 [] := ⟨by decide, by decide, rules3_ok, fun _ h => absurd h List.not_mem_nil⟩
set_option maxRecDepth 100000 in
theorem L0 : goodL [] [] := ⟨by decide, by decide, fun _ h => absurd h List.not_mem_nil, fun _ h => absurd h List.not_mem_nil⟩
set_option maxRecDepth 100000 in
theorem x_read : Pure Try.prog 35 (evArgs 4 read30 true [] []) (evR ev0 2) := ev_arg 4 read30 true [] [] (by decide) fun G => absurd G.mu (by decide)
set_option maxRecDepth 100000 in
theorem x_before : Pure Try.prog 35 (evArgs (-1) set30 true [] []) (evR ev0 2) := ev_arg (-1) set30 true [] [] (by decide) fun G => absurd G.step (by decide)
set_option maxRecDepth 100000 in
theorem x_stranger : Pure Try.prog 35 (evArgs 4 stranger30 true [] []) (evR ev0 2) := ev_arg 4 stranger30 true [] [] (by decide) fun G => absurd G.user (by decide)
set_option maxRecDepth 100000 in
theorem x_revoke : Pure Try.prog 35 (evArgs 4 revoke30 true rules3 []) (evR ev0 6) := ev_none 4 revoke30 true rules3 [] (by decide) ⟨by decide, by decide, by decide, by decide⟩ L3 rules3_chk (by decide) (by decide) (by decide)
set_option maxRecDepth 100000 in
theorem x_set : Pure Try.prog 35 (evArgs 4 set30 true [] []) (evR ev0 2) := ev_acl 4 set30 true [] [] (by decide) ⟨by decide, by decide, by decide, by decide⟩ L0 (by decide)
set_option maxRecDepth 100000 in
theorem x_out : Pure Try.prog 35 (evArgs 4 out30 true rules3 []) (evR ev0 3) := ev_range0 4 out30 true rules3 [] (by decide) ⟨by decide, by decide, by decide, by decide⟩ L3 rules3_chk (by decide) (by decide) (by decide)
set_option maxRecDepth 100000 in
theorem x_grant : Pure Try.prog 35 (evArgs 4 set30 true rules3 [grant0]) (evR ev0 3) := ev_grant 4 set30 true rules3 [grant0] (by decide) ⟨by decide, by decide, by decide, by decide⟩ ⟨by decide, by decide, rules3_ok, by decide⟩ rules3_chk (by decide)
set_option maxRecDepth 100000 in
theorem evY_eq : evE 0 revoke30 true rules3 area30 = evY := by
  unfold evE
  rw [overS_point3 (by decide) rules3_chk]
  decide +kernel
set_option maxRecDepth 100000 in
theorem x_y : Pure Try.prog 35 (evArgs 0 revoke30 true rules3 [grant30]) (evR evY 0) := by
  have := ev_ok9 0 revoke30 true rules3 [grant30] (by decide) ⟨by decide, by decide, by decide, by decide⟩ ⟨by decide, by decide, rules3_ok, by decide⟩ rules3_chk (by decide) (by decide) 0 rfl grant30 rfl (by decide)
  rwa [show grant30.rect = area30 from rfl, evY_eq] at this
set_option maxRecDepth 100000 in
theorem x_first : Pure Try.prog 35 (evArgs 4 set30 false rules3 []) (evR ev30 0) := by
  have := ev_ok0 4 set30 false rules3 [] (by decide) ⟨by decide, by decide, by decide, by decide⟩ L3 rules3_chk (by decide) (by decide) (by decide)
  rwa [ev30_eq] at this
set_option maxRecDepth 100000 in
theorem x_see0 : Pure Try.prog 41 [.v (.int .i64 0), events [ev30]] (.s (eventsR [ev30])) := auditEvents 0 [ev30] (by decide) (by decide)
set_option maxRecDepth 100000 in
theorem x_see2 : Pure Try.prog 41 [.v (.int .i64 2), events [ev30]] (.s (eventsR [])) := auditEvents 2 [ev30] (by decide) (by decide)
set_option maxRecDepth 100000 in
theorem x_see1 : Pure Try.prog 41 [.v (.int .i64 (-1)), events [ev30]] (.s (eventsR [])) := auditEvents (-1) [ev30] (by decide) (by decide)
set_option maxRecDepth 100000 in
theorem x_eq1 : Pure Try.prog 45 [events [ev30], events [ev30]] (.s (.v (.bool true))) := equalEvents [ev30] [ev30] (by decide) (by decide)
abbrev ChkSays (n : Int) (l : List Event) (r : List Release) (c : Int) : Prop := Pure Try.prog 50 [.v (.int .i64 n), events l, releases r] (.s (.v (.int .i64 c)))
set_option maxRecDepth 100000 in
theorem x_chk (n : Int) (l : List Event) (r : List Release) (c : Int) (hl : l.length < 1000000000000000) (hr : r.length < 1000000000000000) (hol : ∀ x ∈ l, x.ok) (hor : ∀ x ∈ r, x.ok) (h : chkA n l r = c) : ChkSays n l r c := h ▸ auditCheck n l r hl hr hol hor
set_option maxRecDepth 100000 in
theorem c1 : ChkSays 3 [ev30] [] 0 := x_chk 3 [ev30] [] 0 (by decide) (by decide) (by decide) (by decide) (by decide)
set_option maxRecDepth 100000 in
theorem c2 : ChkSays 1 [ev30] [] 2 := x_chk 1 [ev30] [] 2 (by decide) (by decide) (by decide) (by decide) (by decide)
set_option maxRecDepth 100000 in
theorem c3 : ChkSays 3 [ev30, ev30] [] 12 := x_chk 3 [ev30, ev30] [] 12 (by decide) (by decide) (by decide) (by decide) (by decide)
set_option maxRecDepth 100000 in
theorem c4 : ChkSays 0 [] [] 2 := x_chk 0 [] [] 2 (by decide) (by decide) (by decide) (by decide) (by decide)
set_option maxRecDepth 100000 in
theorem c5 : ChkSays 65 [] [] 2 := x_chk 65 [] [] 2 (by decide) (by decide) (by decide) (by decide) (by decide)
set_option maxRecDepth 100000 in
theorem c6 : ChkSays 3 [ev30] [relR, relR, later30] 0 := x_chk 3 [ev30] [relR, relR, later30] 0 (by decide) (by decide) (by decide) (by decide) (by decide)
set_option maxRecDepth 100000 in
theorem c7 : ChkSays 3 [] [later30, relR] 12 := x_chk 3 [] [later30, relR] 12 (by decide) (by decide) (by decide) (by decide) (by decide)
set_option maxRecDepth 100000 in
theorem c_bad {k : Nat} {x : Release} (h : bad30[k]? = some x) : ∃ c, want30[k]? = some c ∧ Pure Try.prog 50 [.v (.int .i64 3), events [], releases [x]] (.s (.v (.int .i64 c))) := by
  have hk := lt_of_get h
  have : ∀ j < 7, ∃ x, bad30[j]? = some x ∧ x.ok ∧ want30[j]? = some (chkA 3 [] [x]) := by
    intro j hj
    match j, hj with
    | 0, _ => exact ⟨_, rfl, by decide, by decide⟩
    | 1, _ => exact ⟨_, rfl, by decide, by decide⟩
    | 2, _ => exact ⟨_, rfl, by decide, by decide⟩
    | 3, _ => exact ⟨_, rfl, by decide, by decide⟩
    | 4, _ => exact ⟨_, rfl, by decide, by decide⟩
    | 5, _ => exact ⟨_, rfl, by decide, by decide⟩
    | 6, _ => exact ⟨_, rfl, by decide, by decide⟩
    | j + 7, h => omega
  obtain ⟨y, h1, h2, h3⟩ := this k hk
  rw [h] at h1
  injection h1 with h1
  subst h1
  exact ⟨_, h3, auditCheck 3 [] [x] (by decide) (by simp) (by decide) (fun z hz => by simp at hz; subst hz; exact h2)⟩
set_option maxRecDepth 100000 in
theorem x_rel3 : Pure Try.prog 44 [.v (.int .i64 3), releases [relR]] (.s (releasesR [])) := auditReleases 3 [relR] (by decide) (by decide)
set_option maxRecDepth 100000 in
theorem x_rel2 : Pure Try.prog 44 [.v (.int .i64 2), releases [relR, later30]] (.s (releasesR [relR, later30])) := auditReleases 2 [relR, later30] (by decide) (by decide)
set_option maxRecDepth 100000 in
theorem x_eq2 : Pure Try.prog 47 [releases [relR, later30], releases [relR, later30]] (.s (.v (.bool true))) := by
  have := equalReleases [relR, later30] [relR, later30] (by decide) (by decide)
  rwa [decide_eq_true rfl] at this
end Go.Proofs.Ytfacimebfdeaeaa
