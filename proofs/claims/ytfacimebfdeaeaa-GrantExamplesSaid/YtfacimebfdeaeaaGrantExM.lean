/- What the law GrantExamples looks at. No condition. -/
import Derived.Test.YtfacimebfdeaeaaF24
import Derived.Test.YtfacimebfdeaeaaPvO
namespace Go.Proofs.Ytfacimebfdeaeaa
open Pv Go.RowKit
/-- A mark at which a run stops. -/
structure StoppedQ (p : Prop) : Prop where
  mk' ::
  go : p
set_option maxRecDepth 100000 in
theorem stopQ {P : Program} {w0 : Base} {n : Nat} (r : Nat) {l : Array Oper} {b : Bool} {s : St} {N R : St → Prop} {X : Nat → St → Prop} (h : StoppedQ (Wt P w0 n (.region r l b) s N R X)) : Wt P w0 n (.region r l b) s N R X := h.go
set_option maxRecDepth 100000 in
theorem eqInB {P : Program} (w : World) (n : Nat) (t : TypeId) (a b : Bool) (hu : P.underlying t = some .bool) : (Op.equalIn (n + 1) t (.bool a) (.bool b)).run P w = .ok (a == b) w := by
  simp [Op.equalIn, run_underlying hu]
set_option maxRecDepth 100000 in
theorem eqB {P : Program} (w : World) (t : TypeId) (a b : Bool) (hu : P.underlying t = some .bool) : (Op.equal t (.bool a) (.bool b)).run P w = .ok (a == b) w := eqInB w 9999 t a b hu
set_option maxRecDepth 100000 in
theorem neqB {P : Program} {t : TypeId} {x y : Operand} {a b : Bool} (hu : P.underlying t = some .bool) : BinRun P .neq t x y (.bool a) (.bool b) (.bool (!(a == b))) := fun w => by
  have hb : binOp .neq t (.bool a) (.bool b) = (do pure (.bool (!(← Op.equal t (.bool a) (.bool b))))) := rfl
  have hg : (eqGuard .neq t x y (.bool a) (.bool b)).run P w = .ok () w := rfl
  rw [Sem.run_bind, hg, hb, Result.andThen_ok, Sem.run_bind, eqB w t a b hu, Result.andThen_ok, Sem.run_pure]
def i64B (n : Int) : Bool := decide (-9223372036854775808 ≤ n) && decide (n ≤ 9223372036854775807)
set_option maxRecDepth 100000 in
theorem i64B_ok {n : Int} (h : i64B n = true) : i64 n := by
  unfold i64B at h
  rw [Bool.and_eq_true] at h
  exact ⟨of_decide_eq_true h.1, of_decide_eq_true h.2⟩
def okG (g : Grant) : Bool := i64B g.rect.c1 && (i64B g.rect.r1 && (i64B g.rect.c2 && (i64B g.rect.r2 && (Nat.blt g.fns 256 && (Nat.blt g.to 18446744073709551616 && i64B g.by_)))))
set_option maxRecDepth 100000 in
theorem okG_ok {g : Grant} (h : okG g = true) : g.ok := by
  unfold okG at h
  simp only [Bool.and_eq_true] at h
  obtain ⟨h1, h2, h3, h4, h5, h6, h7⟩ := h
  exact ⟨⟨i64B_ok h1, i64B_ok h2, i64B_ok h3, i64B_ok h4⟩, Nat.blt_eq ▸ h5, Nat.blt_eq ▸ h6, i64B_ok h7⟩
set_option maxRecDepth 100000 in
theorem okGs {l : List Grant} (h : l.all okG = true) : ∀ g ∈ l, g.ok := fun g hg => okG_ok (List.all_eq_true.1 h g hg)
/-- A line of the table. -/
structure TabG where
  n : Int
  l : List Grant
  at_ : Int
  e : Int
def grant0 : Grant := ⟨⟨0, 0, 0, 0⟩, 0, 0, 0, false⟩
def tabG : List TabG := [⟨3, grants3, 0, 0⟩, ⟨1, grants3, 0, 2⟩, ⟨2, grants3, 1, 2⟩, ⟨0, [], 0, 2⟩, ⟨65, [], 0, 2⟩, ⟨64, [], 0, 0⟩,
  ⟨3, [⟨areaR, 1, 2, 0, false⟩, ⟨areaR, 32, 0, 0, false⟩], 1, 2⟩, ⟨3, [⟨areaR, 0, 0, 0, false⟩], 0, 2⟩, ⟨3, [⟨⟨0, 0, 0, 0⟩, 32, 0, 0, false⟩], 0, 3⟩,
  ⟨3, [⟨areaR, 1, 0, 3, false⟩], 0, 2⟩, ⟨3, [⟨areaR, 31, 0, -1, false⟩], 0, 2⟩, ⟨3, List.replicate 65 grant0, 64, 5⟩, ⟨3, List.replicate 64 grant0, 0, 3⟩]
def TabG.row (t : TabG) : List EV := [.v (.int .i64 t.n), .sl 8 (t.l.map Grant.vals), .v (.int .i64 t.at_), .v (.int .i64 t.e)]
def tabGB (t : TabG) : Bool := Nat.blt t.l.length 1000 && (t.l.all okG && decide (checkG t.n t.l = (t.at_, t.e)))
set_option maxRecDepth 100000 in
theorem tabG_ok : tabG.all tabGB = true := by decide +kernel
set_option maxRecDepth 100000 in
theorem tabG_check {t : TabG} (h : t ∈ tabG) : Pure Try.prog 16 [.v (.int .i64 t.n), grants t.l] (.tup [.v (.int .i64 t.at_), .v (.int .i64 t.e)]) := by
  have h1 := List.all_eq_true.1 tabG_ok t h
  unfold tabGB at h1
  simp only [Bool.and_eq_true] at h1
  obtain ⟨h2, h3, h4⟩ := h1
  have h2' : t.l.length < 1000 := Nat.blt_eq ▸ h2
  have := grantCheck t.n t.l (by omega) (okGs h3)
  rw [of_decide_eq_true h4] at this
  exact this
set_option maxRecDepth 100000 in
theorem live_all : ∀ i, i < 3 → ∃ g, grants3[i]? = some g ∧ g ∈ grants3 ∧ liveS g rules3 = (decide (((i : Nat) : Int) < 2), 0) := fun i hi => by
  have h : ∀ g ∈ grants3, liveS g rules3 = (decide (g.by_ = 0), 0) := fun g hg => by
    have hc : chkG [g] = 0 := by
      simp only [grants3, List.mem_cons, List.not_mem_nil, or_false] at hg
      rcases hg with rfl | rfl | rfl <;> decide +kernel
    unfold liveS
    rw [if_pos hc, if_pos rules3_chk, live3 g hg]
  rcases (by omega : i = 0 ∨ i = 1 ∨ i = 2) with rfl | rfl | rfl
  · exact ⟨_, rfl, by decide, h _ (by decide)⟩
  · exact ⟨_, rfl, by decide, h _ (by decide)⟩
  · exact ⟨_, rfl, by decide, h _ (by decide)⟩
set_option maxRecDepth 100000 in
theorem live_revoked : liveS ⟨areaR, 1, 2, 0, true⟩ rules3 = (false, 0) := by
  unfold liveS
  rw [if_pos (by decide +kernel), if_pos rules3_chk]
  unfold liveB
  rfl
set_option maxRecDepth 100000 in
theorem for47 : forS 47 areaR rules3 grants3 = (4, [1], 0) := by
  have hs : ∀ g ∈ grants3, selB 47 areaR rules3 g = decide (g.fns = 3) := fun g hg => by
    have := live3 g hg
    unfold selB
    rw [this]
    simp only [grants3, List.mem_cons, List.not_mem_nil, or_false] at hg
    rcases hg with rfl | rfl | rfl <;> decide +kernel
  rw [forS_ok (by decide) (by decide) rules3_chk (by decide)]
  have h0 := hs ⟨areaR, 1, 2, 0, false⟩ (by simp [grants3])
  have h1 := hs ⟨areaR, 3, 4, 0, false⟩ (by simp [grants3])
  have h2 := hs ⟨areaR, 1, 4, 1, false⟩ (by simp [grants3])
  rw [show grants3.length = 3 from rfl, toN_no (k := 2) (l := grants3) rfl h2, toN_yes (k := 1) (l := grants3) rfl h1, toN_no (k := 0) (l := grants3) rfl h0, byN_no (k := 2) (l := grants3) rfl h2, byN_yes (k := 1) (l := grants3) rfl h1, byN_no (k := 0) (l := grants3) rfl h0]
  rfl
set_option maxRecDepth 100000 in
theorem for46 : forS 46 ⟨2, 1, 2, 2⟩ rules3 grants3 = (0, [], 0) := by
  have hs : ∀ g ∈ grants3, selB 46 ⟨2, 1, 2, 2⟩ rules3 g = false := fun g hg => by
    unfold selB
    simp only [grants3, List.mem_cons, List.not_mem_nil, or_false] at hg
    rcases hg with rfl | rfl | rfl <;> rfl
  rw [forS_ok (by decide) (by decide) rules3_chk (by decide)]
  have h0 := hs ⟨areaR, 1, 2, 0, false⟩ (by simp [grants3])
  have h1 := hs ⟨areaR, 3, 4, 0, false⟩ (by simp [grants3])
  have h2 := hs ⟨areaR, 1, 4, 1, false⟩ (by simp [grants3])
  rw [show grants3.length = 3 from rfl, toN_no (k := 2) (l := grants3) rfl h2, toN_no (k := 1) (l := grants3) rfl h1, toN_no (k := 0) (l := grants3) rfl h0, byN_no (k := 2) (l := grants3) rfl h2, byN_no (k := 1) (l := grants3) rfl h1, byN_no (k := 0) (l := grants3) rfl h0]
  rfl
set_option maxRecDepth 100000 in
theorem for50 : forS 50 areaR [] grants3 = (0, [], 2) := by rw [forS_rules (by decide) (by decide) (by decide)]; rfl
set_option maxRecDepth 100000 in
theorem made65 : chop 8 65 (madeCells (Value.agg #[.int .i64 0, .int .i64 0, .int .i64 0, .int .i64 0, .int .u8 0, .int .u64 0, .int .i64 0, .bool false]).cells (65 * 8)).toList = (List.replicate 65 grant0).map Grant.vals := by kernel_rfl
set_option maxRecDepth 100000 in
theorem made64 : chop 8 64 (madeCells (Value.agg #[.int .i64 0, .int .i64 0, .int .i64 0, .int .i64 0, .int .u8 0, .int .u64 0, .int .i64 0, .bool false]).cells (64 * 8)).toList = (List.replicate 64 grant0).map Grant.vals := by kernel_rfl
end Go.Proofs.Ytfacimebfdeaeaa
