/- Parts of this proof, joined. No condition. -/
import Derived.Test.YtfokjpmcifkoeaaO0
import Derived.Test.YtfokjpmcifkoeaaPvN
import Derived.Test.YtfokjpmcifkoeaaPlain
namespace Go.Proofs.Ytfokjpmcifkoeaa
open Pv Go.RowKit Scc Heap
/-- The heap's variable and its row. -/
abbrev heapF (B : Nat) (r : NRow) : List PV := [.kept B (.cells #[r.hdr] 54 (0, 0)), .nest 1 1 [r]]
def RowL (r : NRow) (L : List Nat) : Prop := r.els = (intR L).map ival ∧ r.els.length ≤ r.cap
set_option maxRecDepth 100000 in
theorem RowL.len {r : NRow} {L : List Nat} (h : RowL r L) : r.els.length = L.length := by rw [h.1]; simp [intR]
set_option maxRecDepth 100000 in
theorem RowL.at_ {r : NRow} {L : List Nat} (h : RowL r L) {i : Nat} (hi : i < L.length) : r.els[i]? = some [.int .i64 ((at0 L i : Nat) : Int)] := by
  rw [h.1]; exact int_at hi
set_option maxRecDepth 100000 in
theorem nLen (r : NRow) (L : List Nat) (h : RowL r L) : Acts Try.prog 45 [.v r.hdr] [] [] (fun res fs => res = .s (.v (.int .i64 (L.length : Int))) ∧ fs = []) := by
  have hl := h.len
  refine acts_of_wt Try.func45 rfl (by decide) _ Try.ntmps45 rfl Try.results45 rfl (by simp [ownOf]) fun w0 W => ?_
  repeat' (first
    | (apply RunK.lenK; exact rfl; exact rfl) | (apply RunK.indexN; exact rfl; exact rfl; exact rfl; (first | exact rfl | exact (rfl : (0 : Int) = ((0 : Nat) : Int)) | exact (rfl : (1 : Int) = ((1 : Nat) : Int)) | exact (rfl : (2 : Int) = ((2 : Nat) : Int)) | exact (rfl : (3 : Int) = ((3 : Nat) : Int)) | assumption); (first | omega | exact lt_of_get ‹_› | (rw [List.length_map]; omega) | (simp; omega))) | (apply RunK.loadNS; exact rfl; exact rfl; assumption; exact rfl) | (apply RunK.lenNs; exact rfl; exact rfl) | (apply RunK.moveNs; exact rfl; exact rfl) | (apply RunK.assignNs; exact rfl; exact rfl)
    | refine Wt.seq ?_
    | (apply Wt.regionK; exact rfl)
    | refine Wt.ret ?_
    | refine RunK.nil ?_
    | (apply RunK.moveV; exact rfl; exact rfl)
    | (apply RunK.assignV; exact rfl; exact rfl))
  all_goals exact ActEnd.mk (.s (.v (.int .i64 (L.length : Int)))) [] ⟨rfl, rfl⟩ (by apply ResOk.v1; exact rfl; rw [hl]) rfl rfl .nil .nil
set_option maxRecDepth 100000 in
theorem nLess (r : NRow) (L : List Nat) (h : RowL r L) (i j : Nat) (hi : i < L.length) (hj : j < L.length) : Acts Try.prog 111 [.v r.hdr, .v (.int .i64 (i : Int)), .v (.int .i64 (j : Int))] [.nest 1 1 [r]] [] (fun res fs => res = .s (.v (.bool (decide (at0 L i < at0 L j)))) ∧ fs = [.nest 1 1 [r]]) := by
  have hi2 := h.at_ hi
  have hj2 := h.at_ hj
  have hm : r ∈ [r] := List.mem_singleton.2 rfl
  have hm2 : Try.prog.follows .mixedOrders = true := by kernel_rfl
  refine acts_of_wt Try.func111 rfl (by decide) _ Try.ntmps111 rfl Try.results111 rfl (by simp [ownOf]) fun w0 W => ?_
  repeat' (first
    | (apply Wt.regionQ; exact hm2; kernel_rfl; exact rfl; exact rfl; exact rfl) | (apply RunK.lenK; exact rfl; exact rfl) | (apply RunK.idxN 2000000; exact rfl; exact rfl; exact rfl; (first | exact rfl | exact (rfl : (0 : Int) = ((0 : Nat) : Int)) | exact (rfl : (1 : Int) = ((1 : Nat) : Int)) | exact (rfl : (2 : Int) = ((2 : Nat) : Int)) | exact (rfl : (3 : Int) = ((3 : Nat) : Int)) | assumption); exact rfl; exact rfl; assumption; assumption) | (apply RunK.loadRN 2000000; exact rfl; exact rfl; exact rfl; exact rfl; assumption; assumption) | (apply RunK.storeRN 2000000; exact rfl; exact rfl; exact rfl; exact rfl; assumption; assumption; exact rfl; exact rfl; exact rfl; exact rfl) | (apply RunK.indexN; exact rfl; exact rfl; exact rfl; (first | exact rfl | exact (rfl : (0 : Int) = ((0 : Nat) : Int)) | exact (rfl : (1 : Int) = ((1 : Nat) : Int)) | exact (rfl : (2 : Int) = ((2 : Nat) : Int)) | exact (rfl : (3 : Int) = ((3 : Nat) : Int)) | assumption); (first | omega | exact lt_of_get ‹_› | (rw [List.length_map]; omega) | (simp; omega))) | (apply RunK.loadNS; exact rfl; exact rfl; assumption; exact rfl) | (apply RunK.lenNs; exact rfl; exact rfl) | (apply RunK.moveNs; exact rfl; exact rfl) | (apply RunK.assignNs; exact rfl; exact rfl)
    | refine Wt.seq ?_
    | (apply Wt.regionK; exact rfl)
    | refine Wt.ret ?_
    | refine RunK.nil ?_
    | (apply RunK.moveV; exact rfl; exact rfl)
    | (apply RunK.assignV; exact rfl; exact rfl)
    | (apply RunK.lss; exact rfl; exact rfl; exact rfl))
  all_goals exact ActEnd.mk (.s (.v (.bool (decide (at0 L i < at0 L j))))) [.nest 1 1 [r]] ⟨rfl, rfl⟩ (by apply ResOk.v1; exact rfl; refine bool_v ?_; exact decide_eq_decide.2 Int.ofNat_lt) rfl rfl (.nest 2000000 rfl .nil) (.nest .nil)
set_option maxRecDepth 100000 in
/-- A nest's slice that has elements lies somewhere. -/
theorem rowSome {env : List (Nat × PV)} {bs : List (Nat × List Value)} (h : Nat) {g k : Nat} {rows : List NRow} (hk : Pv.look env h = PV.nest g k rows) : Turns ⟨env, bs⟩ (fun s1 => s1 = ⟨env, bs⟩ ∧ ∀ r ∈ rows, r.els ≠ [] → ∃ p, r.A = some p) := by
  rintro w0 n a w ⟨T, F, ρ, hr⟩
  refine ⟨_, ⟨rfl, fun r hm hne => ?_⟩, T, F, ρ, hr⟩
  have h1 := hr.env h
  rw [show (St.mk env bs).look h = Pv.look env h from rfl, hk] at h1
  obtain ⟨_, q2, _, q4⟩ := h1.2 r hm
  rcases q4 with ⟨_, hc⟩ | ⟨b, o, _, _, hA, _⟩
  · exact absurd (List.eq_nil_of_length_eq_zero (by omega)) hne
  · exact ⟨_, hA⟩
set_option maxRecDepth 100000 in
theorem idxH {P : Program} {dr : Bool} {ops : Array Oper} {rest : List Oper} {env : List (Nat × PV)} {bs : List (Nat × List Value)} {K : St → Prop} {d : Nat} {ty : TypeId} {pos : String} {aft : Array Edge} {gd : Option (Nat × Bool)} {t e by0 : Nat} [hT : TySl P t e 1 by0] {x y : Operand} {b o n c : Nat} {kd : IntKind} {i : Int} {j : Nat} (hw : wantedS ops ⟨env, bs⟩ ⟨some d, .indexAddr t x y, ty, pos, aft, gd⟩ = some true) (hx : (St.mk env bs).ev x = .s (.v (.slice (some ⟨b, o, none⟩) n c))) (hy : (St.mk env bs).ev y = .s (.v (.int kd i))) (hij : i = (j : Int)) (hj : j < n)
    (k : RunK dr P ops rest ⟨(d, .s (.v (.pointer (some ⟨b, o + j, none⟩)))) :: env, bs⟩ K) : RunK dr P ops (⟨some d, .indexAddr t x y, ty, pos, aft, gd⟩ :: rest) ⟨env, bs⟩ K :=
  RunK.idxP hw hx hy hij hj (by rw [Nat.mul_one]; exact k)
set_option maxRecDepth 100000 in
theorem nSwap (r : NRow) (L : List Nat) (h : RowL r L) (i j : Nat) (hi : i < L.length) (hj : j < L.length) : Acts Try.prog 114 [.v r.hdr, .v (.int .i64 (i : Int)), .v (.int .i64 (j : Int))] [.nest 1 1 [r]] [] (fun res fs => res = .tup [] ∧ ∃ r' : NRow, r'.hdr = r.hdr ∧ RowL r' (sw L i j) ∧ fs = [.nest 1 1 [r']]) := by
  have hm2 : Try.prog.follows .mixedOrders = true := by kernel_rfl
  have hi2 := h.at_ hi
  have hj2 := h.at_ hj
  have hl := h.len
  obtain ⟨A, cap, els⟩ := r
  obtain ⟨he, hcap⟩ := h
  dsimp only at he hcap hi2 hj2 hl
  refine acts_of_wt Try.func114 rfl (by decide) _ Try.ntmps114 rfl Try.results114 rfl (by simp [ownOf]) fun w0 W => ?_
  refine Wt.weakS (rowSome 2000000 rfl) ?_
  rintro s1 ⟨rfl, hA⟩
  obtain ⟨⟨b, o⟩, hA⟩ := hA _ (List.mem_singleton.2 rfl) (fun h => by have h : els = [] := h; rw [h] at hl; rw [← hl] at hi; exact absurd hi (Nat.not_lt_zero _))
  dsimp only at hA
  subst hA
  have hil : i < els.length := by omega
  have hjl : j < els.length := by omega
  obtain ⟨e0, he0⟩ := exists_at (l := els.set i [.int .i64 ((at0 L j : Nat) : Int)]) (k := j) (by rw [List.length_set]; exact hjl)
  refine Wt.regionS (i := 0) ⟨[(0, .s (.v (NRow.hdr ⟨some (b, o), cap, els⟩))), (1, .s (.v (.int .i64 (i : Int)))), (2, .s (.v (.int .i64 (j : Int))))], []⟩ [0, 1, 2, 3, 4, 5] [6, 7, 8, 9, 10, 11, 12, 13, 14, 15] hm2 rfl (by decide +kernel) (by kernel_rfl) (CalmLe.of rfl fun p hp => (by simp only [List.mem_cons, List.not_mem_nil, or_false] at hp; rcases hp with rfl | rfl | rfl <;> exact ⟨by dsimp only; omega, rfl, rfl⟩)) fun K hK hN => ?_
  (apply CalmRun.cons; (case hi => exact rfl); (case hp => (apply PStep.of_run; exact rfl; exact rfl; exact rfl; exact rfl; exact rfl; (first | (apply RunK.moveV; exact rfl; exact rfl)); (refine RunK.nil ?_); exact rfl)); (case hb => kernel_rfl))
  (apply CalmRun.cons; (case hi => exact rfl); (case hp => (apply PStep.of_run; exact rfl; exact rfl; exact rfl; exact rfl; exact rfl; (first | (apply RunK.moveV; exact rfl; exact rfl)); (refine RunK.nil ?_); exact rfl)); (case hb => kernel_rfl))
  (apply CalmRun.cons; (case hi => exact rfl); (case hp => (apply PStep.of_run; exact rfl; exact rfl; exact rfl; exact rfl; exact rfl; (first | (apply RunK.moveV; exact rfl; exact rfl)); (refine RunK.nil ?_); exact rfl)); (case hb => kernel_rfl))
  (apply CalmRun.cons; (case hi => exact rfl); (case hp => (apply PStep.of_run; exact rfl; exact rfl; exact rfl; exact rfl; exact rfl; (first | (apply RunK.moveV; exact rfl; exact rfl)); (refine RunK.nil ?_); exact rfl)); (case hb => kernel_rfl))
  (apply CalmRun.cons; (case hi => exact rfl); (case hp => (apply PStep.of_run; exact rfl; exact rfl; exact rfl; exact rfl; exact rfl; (first | (apply RunK.moveV; exact rfl; exact rfl)); (refine RunK.nil ?_); exact rfl)); (case hb => kernel_rfl))
  (apply CalmRun.cons; (case hi => exact rfl); (case hp => (apply PStep.of_run; exact rfl; exact rfl; exact rfl; exact rfl; exact rfl; (first | (apply RunK.moveV; exact rfl; exact rfl)); (refine RunK.nil ?_); exact rfl)); (case hb => kernel_rfl))
  dsimp only [St.put]
  refine CalmRun.rest [6, 7, 8, 9, 10, 11, 12, 13, 14, 15] (by decide +kernel) hK rfl rfl (by kernel_rfl) (by kernel_rfl) ?_
  repeat' (first
    | (apply idxH; exact rfl; exact rfl; exact rfl; (first | exact rfl | exact (rfl : (0 : Int) = ((0 : Nat) : Int)) | exact (rfl : (1 : Int) = ((1 : Nat) : Int)) | exact (rfl : (2 : Int) = ((2 : Nat) : Int)) | exact (rfl : (3 : Int) = ((3 : Nat) : Int)) | assumption); assumption) | (apply RunK.loadRN 2000000 (r := ⟨some (b, o), cap, els⟩); exact rfl; exact rfl; exact rfl; exact rfl; exact List.mem_singleton.2 rfl; assumption) | (apply RunK.storeRN 2000000 (i := 0) (j := i) (r := ⟨some (b, o), cap, els⟩); (case hw => exact rfl); (case hx => exact rfl); (case hy => exact rfl); (case hk => exact rfl); (case hi => exact rfl); (case hj => exact hi2); (case hc => exact rfl); (case ho => exact rfl); (case hn => exact rfl); (case hh => exact rfl)) | (apply RunK.storeRN 2000000 (i := 0) (j := j) (r := (⟨some (b, o), cap, els⟩ : NRow).put i (.int .i64 ((at0 L j : Nat) : Int))); (case hw => exact rfl); (case hx => exact rfl); (case hy => exact rfl); (case hk => exact rfl); (case hi => exact rfl); (case hj => exact he0); (case hc => exact rfl); (case ho => exact rfl); (case hn => exact rfl); (case hh => exact rfl)) | (refine hN _ ?_)
    | refine RunK.nil ?_
    | (apply RunK.moveV; exact rfl; exact rfl))
  refine ActEnd.mk (.tup []) _ ⟨rfl, ((⟨some (b, o), cap, els⟩ : NRow).put i (.int .i64 ((at0 L j : Nat) : Int))).put j (.int .i64 ((at0 L i : Nat) : Int)), (hdr_put ..).trans (hdr_put ..), ⟨?_, ?_⟩, rfl⟩ .zero rfl rfl (.nest 2000000 rfl .nil) (.nest .nil)
  · show (els.set i _).set j _ = _
    rw [he]
    simp [sw, intR, ival, List.map_set]
  · show ((els.set i _).set j _).length ≤ cap
    rw [List.length_set, List.length_set]; exact hcap
set_option maxRecDepth 100000 in
theorem nPush (B : Nat) (r : NRow) (L : List Nat) (h : RowL r L) (hL : L.length < 1000000) (x : Nat) : Acts Try.prog 113 [.v (.pointer (some ⟨B, 0, none⟩)), .v (.iface 3 (.int .i64 (x : Int)))] (heapF B r) [B] (fun res fs => res = .tup [] ∧ ∃ r' : NRow, RowL r' (L ++ [x]) ∧ fs = heapF B r') := by
  have hm2 : Try.prog.follows .mixedOrders = true := by kernel_rfl
  have hl := h.len
  refine acts_of_wt Try.func113 rfl (by decide) _ Try.ntmps113 rfl Try.results113 rfl (by simp [ownOf]) fun w0 W => ?_
  refine Wt.regionS (i := 0) ⟨[(0, .s (.v (.pointer (some ⟨B, 0, none⟩))))], []⟩ [0] [1, 2, 3, 4, 5, 6, 7, 8, 9] hm2 rfl (by decide +kernel) (by kernel_rfl) (CalmLe.of rfl fun p hp => (by rw [List.mem_singleton.1 hp]; exact ⟨by dsimp only; omega, rfl, rfl⟩)) fun K hK hN => ?_
  (apply CalmRun.cons; (case hi => exact rfl); (case hp => (apply PStep.of_run; exact rfl; exact rfl; exact rfl; exact rfl; exact rfl; (first | (apply RunK.moveV; exact rfl; exact rfl)); (refine RunK.nil ?_); exact rfl)); (case hb => kernel_rfl))
  dsimp only [St.put]
  refine CalmRun.rest [1, 2, 3, 4, 5, 6, 7, 8, 9] (by decide +kernel) hK rfl rfl (by kernel_rfl) (by kernel_rfl) ?_
  repeat' (first
    | (apply RunK.nilCheckP; exact rfl; exact rfl) | (apply RunK.loadP 2000000; exact rfl; exact rfl; exact rfl; exact rfl; exact rfl) | (apply RunK.assertK; exact rfl; exact rfl; kernel_rfl) | (apply RunK.appendRN 2000001 900001 (i := 0); (case hw => exact rfl); (case he => (first | exact (fun _ => rfl) | exact (fun h => nomatch h))); (case hx => exact rfl); (case htx => exact rfl); (case hk => exact rfl); (case hi => exact rfl); (case hh => exact rfl); (case hn => exact rfl); (case hnt => exact rfl); (case hd0 => exact rfl); (case hdx => exact rfl); (case hy => (first | exact ReadLe.sl _ _ _ _ | exact ReadLe.nil _)); (case hone => exact one_rows rfl); (case hb => (simp only [List.length_cons, List.length_nil]; omega)); intro r1 hr1 hrc) | (apply RunK.storePD 2000000; (case hw => exact rfl); (case hx => exact rfl); (case hy => exact rfl); (case hk => exact rfl); (case hh => exact rfl); (case hj => exact Nat.zero_lt_one); (case hc => exact rfl); (case ho => exact NRow.hdr_one _); (case hap => (repeat' (first | exact trivial | refine And.intro ?_ ?_)))) | (refine hN _ ?_)
    | refine RunK.nil ?_
    | (apply RunK.moveV; exact rfl; exact rfl)
    | (apply RunK.rows; exact rfl; exact rfl; (repeat (first | exact PartsOk.nil | (apply PartsOk.cons; exact rfl) | (apply PartsOk.consN; exact rfl))); (repeat (first | exact Rows.nil _ | (apply Rows.cons; (first | exact Cells.agg _ | exact Cells.int _ _ | exact Cells.bool _ | exact Cells.one _ rfl); exact rfl))); exact rfl; exact rfl))
  refine ActEnd.mk (.tup []) _ ⟨rfl, r1, ⟨?_, hrc⟩, rfl⟩ .zero rfl rfl (.kept 2000000 rfl (.nest 2000001 rfl .nil)) (.turn 2000000 rfl (List.mem_singleton.2 rfl) (.nest .nil))
  rw [hr1, h.1]
  simp [intR, ival]
set_option maxRecDepth 100000 in
theorem nPop (B : Nat) (r : NRow) (L : List Nat) (x : Nat) (h : RowL r (L ++ [x])) (hL : L.length < 1000000) : Acts Try.prog 112 [.v (.pointer (some ⟨B, 0, none⟩))] (heapF B r) [B] (fun res fs => res = .s (.v (.iface 3 (.int .i64 (x : Int)))) ∧ ∃ r' : NRow, RowL r' L ∧ fs = heapF B r') := by
  have hl := h.len
  rw [List.length_append, List.length_singleton] at hl
  have hx := h.at_ (i := L.length) (by simp)
  rw [show at0 (L ++ [x]) L.length = x by simp [at0]] at hx
  have hm : r ∈ [r] := List.mem_singleton.2 rfl
  have e1 : (r.els.length : Int) - 1 = (L.length : Int) := by omega
  have hle : L.length ≤ r.els.length := by omega
  have hcap := h.2
  refine acts_of_wt Try.func112 rfl (by decide) _ Try.ntmps112 rfl Try.results112 rfl (by simp [ownOf]) fun w0 W => ?_
  repeat' (first
    | (refine stopQ 4 ?_) | (apply RunK.nilCheckP; exact rfl; exact rfl) | (apply RunK.loadP 2000000; exact rfl; exact rfl; exact rfl; exact rfl; exact rfl) | (apply RunK.lenK; exact rfl; exact rfl) | (apply RunK.idxN 2000001; exact rfl; exact rfl; exact rfl; exact e1; exact rfl; exact rfl; exact hm; exact hx) | (apply RunK.loadRN 2000001; exact rfl; exact rfl; exact rfl; exact rfl; exact hm; exact hx) | (apply RunK.sliceToN (r := r) (l := L.length); exact rfl; exact rfl; exact rfl; exact e1; exact hle; exact hcap) | (apply RunK.storePD 2000000; (case hw => exact rfl); (case hx => exact rfl); (case hy => exact rfl); (case hk => exact rfl); (case hh => exact rfl); (case hj => exact Nat.zero_lt_one); (case hc => exact rfl); (case ho => exact NRow.hdr_one _); (case hap => (repeat' (first | exact trivial | refine And.intro ?_ ?_))))
    | refine Wt.seq ?_
    | (apply Wt.regionK; exact rfl)
    | refine RunK.nil ?_
    | (apply RunK.moveV; exact rfl; exact rfl)
    | (apply RunK.assignV; exact rfl; exact rfl)
    | (apply RunK.sub; exact rfl; exact rfl; exact rfl; (first | omega | (simp only [List.length_map]; omega))))
  refine StoppedQ.mk' ?_
  refine Wt.weak (Turns.reN 2000001 0 (r.cut L.length) rfl rfl rfl (fun T w h => h.cut _)) ?_
  repeat' (first
    | (apply RunK.mkIface; exact rfl; exact rfl; kernel_rfl)
    | (apply Wt.regionK; exact rfl)
    | refine Wt.ret ?_
    | refine RunK.nil ?_
    | (apply RunK.moveV; exact rfl; exact rfl)
    | (apply RunK.assignV; exact rfl; exact rfl))
  all_goals refine ActEnd.mk (.s (.v (.iface 3 (.int .i64 (x : Int))))) _ ⟨rfl, r.cut L.length, ⟨?_, ?_⟩, rfl⟩ (by apply ResOk.v1; exact rfl; exact rfl) rfl rfl (.kept 2000000 rfl (.nest 2000001 rfl .nil)) (.turn 2000000 rfl (List.mem_singleton.2 rfl) (.nest .nil))
  · show r.els.take L.length = _
    rw [h.1]
    simp [intR]
  · show (r.els.take L.length).length ≤ r.cap
    rw [List.length_take]; omega
set_option maxRecDepth 100000 in
/-- The numbers that are missing: one less. -/
theorem nDone (r : NRow) (M : List Nat) (h : RowL r M) (i v : Nat) (hi : i < M.length) (hv : at0 M i = v + 1) (hb : v < 1000000) : Acts Try.prog 44 [.v r.hdr, .v (.int .i64 (i : Int))] [.nest 2 1 [r]] [] (fun res fs => res = .s (.v (.bool (decide (v = 0)))) ∧ ∃ r' : NRow, r'.hdr = r.hdr ∧ RowL r' (M.set i v) ∧ fs = [.nest 2 1 [r']]) := by
  have hi2 := h.at_ hi
  rw [hv] at hi2
  have hm : r ∈ [r] := List.mem_singleton.2 rfl
  have hl := h.len
  have e1 : (((v + 1 : Nat) : Int)) - 1 = (v : Int) := by omega
  have hp : (r.put i (.int .i64 (((v + 1 : Nat) : Int) - 1))).els[i]? = some [.int .i64 (((v + 1 : Nat) : Int) - 1)] := by show (r.els.set i _)[i]? = _; rw [List.getElem?_set_self (by omega)]
  have hh := hdr_put r i (.int .i64 (((v + 1 : Nat) : Int) - 1))
  have hm2 : r.put i (.int .i64 (((v + 1 : Nat) : Int) - 1)) ∈ [r.put i (.int .i64 (((v + 1 : Nat) : Int) - 1))] := List.mem_singleton.2 rfl
  refine acts_of_wt Try.func44 rfl (by decide) _ Try.ntmps44 rfl Try.results44 rfl (by simp [ownOf]) fun w0 W => ?_
  repeat' (first
    | (refine stopQ 2 ?_) | (apply RunK.idxN 2000000; exact rfl; exact rfl; exact rfl; exact rfl; exact rfl; exact rfl; exact hm; exact hi2) | (apply RunK.loadRN 2000000; exact rfl; exact rfl; exact rfl; exact rfl; exact hm; exact hi2) | (apply RunK.storeRN 2000000 (i := 0) (j := i) (r := r); (case hw => exact rfl); (case hx => exact rfl); (case hy => exact rfl); (case hk => exact rfl); (case hi => exact rfl); (case hj => exact hi2); (case hc => exact rfl); (case ho => exact rfl); (case hn => exact rfl); (case hh => exact rfl))
    | refine Wt.seq ?_
    | (apply Wt.regionK; exact rfl)
    | refine RunK.nil ?_
    | (apply RunK.moveV; exact rfl; exact rfl)
    | (apply RunK.assignV; exact rfl; exact rfl)
    | (apply RunK.sub; exact rfl; exact rfl; exact rfl; (first | omega | (simp only [List.length_map]; omega))))
  refine StoppedQ.mk' ?_
  refine Wt.le ⟨[(0, .s (.v r.hdr)), (1, .s (.v (.int .i64 (i : Int)))), (2000000, .nest 2 1 [r.put i (.int .i64 (((v + 1 : Nat) : Int) - 1))]), (2999999, .old W (keptOf [.nest 2 1 [r]]))], []⟩ (by (refine Le.mk ?_ ?_; (repeat' (first | exact LeEnv.done | refine LeEnv.cons ?_ ?_ | exact PVLe.refl _ | exact PVLe.s (SVLe.nil _ _ _) | exact PVLe.s (SVLe.no _ _ _ _) | (refine PVLe.int ?_; first | rfl | omega | (simp; done) | (simp; omega)) | (refine PVLe.els ?_; first | rfl | assumption | (simp; done)) | (refine PVLe.bool ?_; first | rfl | assumption) | (refine PVLe.bsl ?_; first | rfl | assumption | (simp; done))));  (repeat' (first | exact LeBox.done | refine LeBox.cons ?_ ?_ | exact rfl)))) ?_
  rw [← hh]
  repeat' (first
    | (apply RunK.idxN 2000000; exact rfl; exact rfl; exact rfl; exact rfl; exact rfl; exact rfl; exact hm2; exact hp) | (apply RunK.loadRN 2000000; exact rfl; exact rfl; exact rfl; exact rfl; exact hm2; exact hp)
    | (apply Wt.regionK; exact rfl)
    | refine Wt.ret ?_
    | refine RunK.nil ?_
    | (apply RunK.moveV; exact rfl; exact rfl)
    | (apply RunK.assignV; exact rfl; exact rfl)
    | (apply RunK.eql; exact rfl; exact rfl; exact rfl))
  all_goals refine ActEnd.mk (.s (.v (.bool (decide (v = 0))))) _ ⟨rfl, _, rfl, ⟨?_, ?_⟩, rfl⟩ (by apply ResOk.v1; exact rfl; refine bool_v ?_; exact decide_eq_decide.2 (by omega)) rfl rfl (.nest 2000000 rfl .nil) (.nest .nil)
  · show r.els.set i _ = _
    rw [h.1, e1]
    simp [intR, ival, List.map_set]
  · show (r.els.set i _).length ≤ r.cap
    rw [List.length_set]; exact h.2
end Go.Proofs.Ytfokjpmcifkoeaa
namespace Go.Proofs.Ytfokjpmcifkoeaa
open Pv Go.RowKit Scc Heap
set_option maxRecDepth 100000 in
theorem mLen : MethodAt Try.prog 53 54 "Len" 45 false := .of (by kernel_rfl) Try.underlying53
set_option maxRecDepth 100000 in
theorem mLess : MethodAt Try.prog 53 54 "Less" 111 false := .of (by kernel_rfl) Try.underlying53
set_option maxRecDepth 100000 in
theorem mSwap : MethodAt Try.prog 53 54 "Swap" 114 false := .of (by kernel_rfl) Try.underlying53
set_option maxRecDepth 100000 in
theorem mPush : MethodAt Try.prog 53 54 "Push" 113 true := .of (by kernel_rfl) Try.underlying53
set_option maxRecDepth 100000 in
theorem mPop : MethodAt Try.prog 53 54 "Pop" 112 true := .of (by kernel_rfl) Try.underlying53
/-- The heap as container/heap holds it. -/
abbrev hI (B : Nat) : Value := .iface 53 (.pointer (some ⟨B, 0, none⟩))
set_option maxRecDepth 100000 in
theorem quo2 {P : Program} {t : TypeId} {x y : Operand} {a c : Int} (h : a.tdiv 2 = c) (hb : -1000000000 ≤ c ∧ c ≤ 1000000000) : BinRun P .quo t x y (.int .i64 a) (.int .i64 2) (.int .i64 c) := by
  have := BinRun.quo (P := P) (t := t) (x := x) (y := y) (k := .i64) (a := a) (b := 2) (by decide)
  rwa [wrap_i64 (by omega), h] at this
set_option maxRecDepth 100000 in
theorem par (j : Nat) : ((j : Int) - 1).tdiv 2 = (((j - 1) / 2 : Nat) : Int) := by
  cases j with
  | zero => rfl
  | succ j =>
    rw [show ((j + 1 : Nat) : Int) - 1 = ((j : Nat) : Int) by omega, Nat.add_sub_cancel]
    rfl
set_option maxRecDepth 100000 in
theorem hUp (B : Nat) (r : NRow) (L : List Nat) (j : Nat) (h : RowL r L) (hL : L.length < 1000000) (hj : j < L.length) (hU : Up L j) : Acts Try.prog 60 [.v (hI B), .v (.int .i64 (j : Int))] (heapF B r) [] (fun res fs => res = .tup [] ∧ ∃ (r' : NRow) (L' : List Nat), r'.hdr = r.hdr ∧ RowL r' L' ∧ L'.Perm L ∧ Hp L' L'.length ∧ fs = [.nest 1 1 [r']]) := by
  refine acts_of_wt Try.func60 rfl (by decide) _ Try.ntmps60 rfl Try.results60 rfl (by simp [ownOf]) fun w0 W => ?_
  repeat' (first
    | (apply RunK.indexN; exact rfl; exact rfl; exact rfl; (first | exact rfl | exact (rfl : (0 : Int) = ((0 : Nat) : Int)) | exact (rfl : (1 : Int) = ((1 : Nat) : Int)) | exact (rfl : (2 : Int) = ((2 : Nat) : Int)) | exact (rfl : (3 : Int) = ((3 : Nat) : Int)) | assumption); (first | omega | exact lt_of_get ‹_› | (rw [List.length_map]; omega) | (simp; omega))) | (apply RunK.loadNS; exact rfl; exact rfl; assumption; exact rfl) | (apply RunK.lenNs; exact rfl; exact rfl) | (apply RunK.moveNs; exact rfl; exact rfl) | (apply RunK.assignNs; exact rfl; exact rfl)
    | refine Wt.block ?_)
  refine Wt.loop (fun s : Nat × NRow × List Nat => ⟨[(0, .s (.v (hI B))), (1, .s (.v (.int .i64 s.1))), (2000000, .kept B (.cells #[r.hdr] 54 (0, 0))), (2000001, .nest 1 1 [s.2.1]), (2999999, .old W (keptOf (heapF B r)))], []⟩) (fun s => RowL s.2.1 s.2.2 ∧ s.2.1.hdr = r.hdr ∧ s.1 < s.2.2.length ∧ Up s.2.2 s.1 ∧ s.2.2.Perm L) (fun s => s.1) (j, r, L) ⟨h, rfl, hj, hU, .refl _⟩ ?_ ?_
  · (refine Le.mk ?_ ?_; (repeat' (first | exact LeEnv.done | refine LeEnv.cons ?_ ?_ | exact PVLe.refl _ | exact PVLe.s (SVLe.nil _ _ _) | exact PVLe.s (SVLe.no _ _ _ _) | (refine PVLe.int ?_; first | rfl | omega | (simp; done) | (simp; omega)) | (refine PVLe.els ?_; first | rfl | assumption | (simp; done)) | (refine PVLe.bool ?_; first | rfl | assumption) | (refine PVLe.bsl ?_; first | rfl | assumption | (simp; done))));  (repeat' (first | exact LeBox.done | refine LeBox.cons ?_ ?_ | exact rfl)))
  · clear h hj hU
    rintro ⟨j, q, M⟩ ⟨h1, h2, h3, h4, h5⟩
    dsimp only at h1 h2 h3 h4 h5 ⊢
    have hml := h5.length_eq
    have hpar := par j
    have hi : (j - 1) / 2 < M.length := by omega
    have c1 := nLess q M h1 j ((j - 1) / 2) h3 hi
    have c2 := nSwap q M h1 ((j - 1) / 2) j hi h3
    rw [h2] at c1 c2
    have hend : ∀ s : St, s.look 2000000 = .kept B (.cells #[r.hdr] 54 (0, 0)) → True := fun _ _ => trivial
    clear hend
    by_cases h0 : j = 0
    · subst h0
      repeat' (first
    | (apply RunK.bin; exact rfl; exact rfl; exact rfl; exact quo2 hpar ⟨by omega, by omega⟩)
    | refine Wt.seq ?_
    | (apply Wt.regionK; exact rfl)
    | refine Wt.block ?_
    | refine Wt.exit ?_
    | refine RunK.nil ?_
    | (apply RunK.moveV; exact rfl; exact rfl)
    | (apply RunK.assignV; exact rfl; exact rfl)
    | (apply RunK.pickT; exact rfl; exact rfl; exact rfl)
    | (apply RunK.eql; exact rfl; exact rfl; exact rfl)
    | (apply RunK.sub; exact rfl; exact rfl; exact rfl; (first | omega | (simp only [List.length_map]; omega)))
    | (apply RunK.skip; exact rfl; exact rfl)
    | (apply Wt.cond; exact rfl; all_goals (intro hg; (first | exact absurd hg (by decide) | skip); (first | (with_reducible replace hg := not_t hg) | (with_reducible replace hg := not_f hg) | skip); (first | (with_reducible replace hg := dec_t hg) | (with_reducible replace hg := dec_f hg) | skip); (first | (with_reducible exact absurd rfl hg) | skip); (repeat rw [List.length_map] at hg); try (exfalso; omega))))
      all_goals first
        | (exfalso; omega)
        | exact ActEnd.mk (.tup []) _ ⟨rfl, q, M, h2, h1, h5, up_end h4 (.inl rfl), rfl⟩ .zero rfl rfl (.nest 2000001 rfl .nil) (.same 2000000 rfl (.nest .nil))
    · by_cases hl : at0 M j < at0 M ((j - 1) / 2)
      · rw [decide_eq_true hl] at c1
        have hs := up_step h4 h3 (by omega) hl
        have hp := (sw_perm hi h3).trans h5
        repeat' (first
    | (apply RunK.bin; exact rfl; exact rfl; exact rfl; exact quo2 hpar ⟨by omega, by omega⟩) | (apply RunK.invokeV 2000000 [2000001] 900001 mLess; (case hw => exact rfl); (case hp => exact c1); (case hx => exact rfl); (case hk => exact rfl); (case hu => exact rfl); (case ha => (repeat (first | exact ArgsLe.nil | refine ArgsLe.cons ?_ ?_ | exact ArgLe.v _ | exact ArgLe.sl _ _ _ _ | exact ArgLe.nil _ | exact ArgLe.nil' | exact ArgLe.nsl _ _ _ _ _ | exact ArgLe.nsn _ | (apply ArgLe.bsl; exact rfl; (first | exact rfl | (rw [List.length_map]; done) | (simp only [List.length_map]; done) | (simp; done) | (simp; omega)); (first | assumption | exact map_len (fun _ => rfl)))))); (case hf => exact .nest 2000001 rfl rfl rfl .nil); (case hap => exact ApartE.nil _); (case hng => exact rfl); intro res fs' hres _; obtain ⟨rfl, rfl⟩ := hres) | (apply RunK.invokeV 2000000 [2000001] 900001 mSwap; (case hw => exact rfl); (case hp => exact c2); (case hx => exact rfl); (case hk => exact rfl); (case hu => exact rfl); (case ha => (repeat (first | exact ArgsLe.nil | refine ArgsLe.cons ?_ ?_ | exact ArgLe.v _ | exact ArgLe.sl _ _ _ _ | exact ArgLe.nil _ | exact ArgLe.nil' | exact ArgLe.nsl _ _ _ _ _ | exact ArgLe.nsn _ | (apply ArgLe.bsl; exact rfl; (first | exact rfl | (rw [List.length_map]; done) | (simp only [List.length_map]; done) | (simp; done) | (simp; omega)); (first | assumption | exact map_len (fun _ => rfl)))))); (case hf => exact .nest 2000001 rfl rfl rfl .nil); (case hap => exact ApartE.nil _); (case hng => exact rfl); intro res fs' hres _; obtain ⟨rfl, q', hq1, hq2, rfl⟩ := hres)
    | refine Wt.seq ?_
    | (apply Wt.regionK; exact rfl)
    | refine Wt.block ?_
    | refine Wt.skip ?_
    | refine RunK.nil ?_
    | (apply RunK.moveV; exact rfl; exact rfl)
    | (apply RunK.assignV; exact rfl; exact rfl)
    | (apply RunK.pickF; exact rfl; exact rfl; exact rfl)
    | (apply RunK.eql; exact rfl; exact rfl; exact rfl)
    | (apply RunK.sub; exact rfl; exact rfl; exact rfl; (first | omega | (simp only [List.length_map]; omega)))
    | (apply RunK.not; exact rfl; exact rfl)
    | (apply RunK.guard; exact rfl; exact rfl; exact rfl; all_goals (intro hg; (first | exact absurd hg (by decide) | skip); (first | (with_reducible replace hg := not_t hg) | (with_reducible replace hg := not_f hg) | skip); (first | (with_reducible replace hg := dec_t hg) | (with_reducible replace hg := dec_f hg) | skip); (first | (with_reducible exact absurd rfl hg) | skip); (repeat rw [List.length_map] at hg); try (exfalso; omega)))
    | (apply Wt.cond; exact rfl; all_goals (intro hg; (first | exact absurd hg (by decide) | skip); (first | (with_reducible replace hg := not_t hg) | (with_reducible replace hg := not_f hg) | skip); (first | (with_reducible replace hg := dec_t hg) | (with_reducible replace hg := dec_f hg) | skip); (first | (with_reducible exact absurd rfl hg) | skip); (repeat rw [List.length_map] at hg); try (exfalso; omega))))
        all_goals first
          | (exfalso; omega)
          | (refine ⟨((j - 1) / 2, q', sw M ((j - 1) / 2) j), ⟨hq2, hq1, (by dsimp only; rw [sw_len]; exact hi), hs, hp⟩, by dsimp only; omega, ?_⟩; dsimp only; (refine Le.mk ?_ ?_; (repeat' (first | exact LeEnv.done | refine LeEnv.cons ?_ ?_ | exact PVLe.refl _ | exact PVLe.s (SVLe.nil _ _ _) | exact PVLe.s (SVLe.no _ _ _ _) | (refine PVLe.int ?_; first | rfl | omega | (simp; done) | (simp; omega)) | (refine PVLe.els ?_; first | rfl | assumption | (simp; done)) | (refine PVLe.bool ?_; first | rfl | assumption) | (refine PVLe.bsl ?_; first | rfl | assumption | (simp; done))));  (repeat' (first | exact LeBox.done | refine LeBox.cons ?_ ?_ | exact rfl))))
      · rw [decide_eq_false hl] at c1
        repeat' (first
    | (apply RunK.bin; exact rfl; exact rfl; exact rfl; exact quo2 hpar ⟨by omega, by omega⟩) | (apply RunK.invokeV 2000000 [2000001] 900001 mLess; (case hw => exact rfl); (case hp => exact c1); (case hx => exact rfl); (case hk => exact rfl); (case hu => exact rfl); (case ha => (repeat (first | exact ArgsLe.nil | refine ArgsLe.cons ?_ ?_ | exact ArgLe.v _ | exact ArgLe.sl _ _ _ _ | exact ArgLe.nil _ | exact ArgLe.nil' | exact ArgLe.nsl _ _ _ _ _ | exact ArgLe.nsn _ | (apply ArgLe.bsl; exact rfl; (first | exact rfl | (rw [List.length_map]; done) | (simp only [List.length_map]; done) | (simp; done) | (simp; omega)); (first | assumption | exact map_len (fun _ => rfl)))))); (case hf => exact .nest 2000001 rfl rfl rfl .nil); (case hap => exact ApartE.nil _); (case hng => exact rfl); intro res fs' hres _; obtain ⟨rfl, rfl⟩ := hres)
    | refine Wt.seq ?_
    | (apply Wt.regionK; exact rfl)
    | refine Wt.block ?_
    | refine Wt.exit ?_
    | refine RunK.nil ?_
    | (apply RunK.moveV; exact rfl; exact rfl)
    | (apply RunK.assignV; exact rfl; exact rfl)
    | (apply RunK.pickF; exact rfl; exact rfl; exact rfl)
    | (apply RunK.eql; exact rfl; exact rfl; exact rfl)
    | (apply RunK.sub; exact rfl; exact rfl; exact rfl; (first | omega | (simp only [List.length_map]; omega)))
    | (apply RunK.not; exact rfl; exact rfl)
    | (apply RunK.guard; exact rfl; exact rfl; exact rfl; all_goals (intro hg; (first | exact absurd hg (by decide) | skip); (first | (with_reducible replace hg := not_t hg) | (with_reducible replace hg := not_f hg) | skip); (first | (with_reducible replace hg := dec_t hg) | (with_reducible replace hg := dec_f hg) | skip); (first | (with_reducible exact absurd rfl hg) | skip); (repeat rw [List.length_map] at hg); try (exfalso; omega)))
    | (apply Wt.cond; exact rfl; all_goals (intro hg; (first | exact absurd hg (by decide) | skip); (first | (with_reducible replace hg := not_t hg) | (with_reducible replace hg := not_f hg) | skip); (first | (with_reducible replace hg := dec_t hg) | (with_reducible replace hg := dec_f hg) | skip); (first | (with_reducible exact absurd rfl hg) | skip); (repeat rw [List.length_map] at hg); try (exfalso; omega))))
        all_goals first
          | (exfalso; omega)
          | exact ActEnd.mk (.tup []) _ ⟨rfl, q, M, h2, h1, h5, up_end h4 (.inr hl), rfl⟩ .zero rfl rfl (.nest 2000001 rfl .nil) (.same 2000000 rfl (.nest .nil))
end Go.Proofs.Ytfokjpmcifkoeaa
