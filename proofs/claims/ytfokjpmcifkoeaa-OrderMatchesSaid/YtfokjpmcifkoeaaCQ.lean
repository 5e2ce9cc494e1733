/- Loops and Condense at graphs that are none. No condition. -/
import Derived.Test.YtfokjpmcifkoeaaCO
namespace Go.Proofs.Ytfokjpmcifkoeaa
open Pv Go.RowKit Scc
set_option maxRecDepth 100000 in
theorem sccCompsE (g : List (List Int)) (hg1 : g.length < 1000000000) (hg2 : ∀ r ∈ g, r.length < 10000000000) (hv : validG g = false) : Pure Try.prog 19 [graph g] (.tup [graphR [], .v (.int .i64 3)]) := by
  have h := sccValid g hg1 hg2
  rw [hv] at h
  refine pure_of_wt Try.func19 rfl (by decide) _ Try.ntmps19 rfl Try.results19 fun w0 => ?_
  refine Wt.weakS (Turns.asHd 0 2000011 rfl) fun s1 hs1 => ?_
  obtain ⟨hn, rfl⟩ := hs1
  refine Wt.weakS (hdCells 2000011 rfl) fun s1 hs1 => ?_
  obtain ⟨hnc, hno, rfl⟩ := hs1
  repeat' (first
    | (apply RunK.boxK 2000005; exact rfl; exact rfl; intro b6 _; rw [hnc]) | (refine stopAt 3 ?_) | (apply RunK.loadP 2000005; exact rfl; exact rfl; exact rfl; exact rfl; first | exact rfl | assumption) | (apply RunK.callS; exact rfl; exact rfl; exact h; (exact .hdn 2000011 rfl rfl rfl .nil); exact rfl)
    | refine Wt.seq ?_
    | (apply Wt.regionK; exact rfl)
    | refine Wt.ret ?_
    | refine RunK.nil ?_
    | (apply RunK.assignV; exact rfl; exact rfl)
    | (apply RunK.assignN; exact rfl; exact rfl)
    | (apply RunK.not; exact rfl; exact rfl)
    | (apply Wt.cond; exact rfl; all_goals (intro hg; (first | exact absurd hg (by decide) | skip); (first | (with_reducible replace hg := not_t hg) | (with_reducible replace hg := not_f hg) | skip); (first | (with_reducible replace hg := dec_t hg) | (with_reducible replace hg := dec_f hg) | skip); (first | (with_reducible exact absurd rfl hg) | skip); (repeat rw [List.length_map] at hg); try (exfalso; omega))))
  all_goals (apply ResOk.gn; exact rfl; exact rfl; exact rfl; exact rfl)
set_option maxRecDepth 100000 in
theorem sccLoopsE (g : List (List Int)) (hg1 : g.length < 1000000000) (hg2 : ∀ r ∈ g, r.length < 10000000000) (hv : validG g = false) : Pure Try.prog 20 [graph g] (.tup [intsR [], .v (.int .i64 3)]) := by
  have h := sccCompsE g hg1 hg2 hv
  refine pure_of_wt Try.func20 rfl (by decide) _ Try.ntmps20 rfl Try.results20 fun w0 => ?_
  repeat' (first
    | (apply RunK.indexN; exact rfl; exact rfl; exact rfl; (first | exact rfl | exact (rfl : (0 : Int) = ((0 : Nat) : Int)) | exact (rfl : (1 : Int) = ((1 : Nat) : Int)) | exact (rfl : (2 : Int) = ((2 : Nat) : Int)) | exact (rfl : (3 : Int) = ((3 : Nat) : Int)) | assumption); (first | omega | exact lt_of_get ‹_› | (rw [List.length_map]; omega) | (simp; omega))) | (apply RunK.loadNS; exact rfl; exact rfl; assumption; exact rfl) | (apply RunK.lenNs; exact rfl; exact rfl) | (apply RunK.moveNs; exact rfl; exact rfl) | (apply RunK.assignNs; exact rfl; exact rfl) | (apply RunK.callT; exact rfl; exact rfl; exact h; (repeat (first | exact ArgsLe.nil | refine ArgsLe.cons ?_ ?_ | exact ArgLe.v _ | exact ArgLe.sl _ _ _ _ | exact ArgLe.nil _ | exact ArgLe.nil' | exact ArgLe.nsl _ _ _ _ _ | exact ArgLe.nsn _ | (apply ArgLe.bsl; exact rfl; (first | exact rfl | (rw [List.length_map]; done) | (simp only [List.length_map]; done) | (simp; done) | (simp; omega)); (first | assumption | exact map_len (fun _ => rfl))))); exact rfl)
    | refine Wt.seq ?_
    | (apply Wt.regionK; exact rfl)
    | refine Wt.ret ?_
    | refine RunK.nil ?_
    | (apply RunK.moveV; exact rfl; exact rfl)
    | (apply RunK.assignV; exact rfl; exact rfl)
    | (apply RunK.moveT; exact rfl; exact rfl)
    | (apply RunK.assignN; exact rfl; exact rfl)
    | (apply RunK.neq; exact rfl; exact rfl; exact rfl)
    | (apply RunK.extract; exact rfl; exact rfl; exact rfl)
    | (apply Wt.cond; exact rfl; all_goals (intro hg; (first | exact absurd hg (by decide) | skip); (first | (with_reducible replace hg := not_t hg) | (with_reducible replace hg := not_f hg) | skip); (first | (with_reducible replace hg := dec_t hg) | (with_reducible replace hg := dec_f hg) | skip); (first | (with_reducible exact absurd rfl hg) | skip); (repeat rw [List.length_map] at hg); try (exfalso; omega))))
  all_goals (apply ResOk.nv; exact rfl; exact rfl; exact rfl; exact rfl)
end Go.Proofs.Ytfokjpmcifkoeaa
