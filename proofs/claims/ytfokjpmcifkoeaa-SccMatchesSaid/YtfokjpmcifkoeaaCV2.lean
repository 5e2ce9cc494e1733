/- What both sides give at any small graph. No condition. -/
import Derived.Test.YtfokjpmcifkoeaaCV
import Derived.Test.YtfokjpmcifkoeaaMatch
namespace Go.Proofs.Ytfokjpmcifkoeaa
open Pv Go.RowKit Scc
set_option maxRecDepth 100000 in
theorem both (l : List (List Int)) (h : SmallG l) : Both l := by
  have h1 := h.len
  have h2 := h.row
  cases hv : validG l with
  | false =>
    have q1 : l.length < 1000000000 := by omega
    have q2 : ∀ r ∈ l, r.length < 10000000000 := fun r hr => by have := h2 r hr; omega
    exact ⟨[], [], [], 3, sccCompsE l q1 q2 hv, refCompsE l q1 q2 hv, sccLoopsE l q1 q2 hv, refLoopsE l q1 q2 hv, sccCondE l q1 q2 hv, refCondE l q1 q2 hv, ⟨Nat.zero_le _, by simp⟩, ⟨Nat.zero_le _, by simp⟩, Nat.zero_le _⟩
  | true =>
    obtain ⟨N, hN, rfl⟩ := valid_nat hv
    have hl : N.length ≤ 24 := by rwa [List.length_map] at h1
    have hr : ∀ r ∈ N, r.length ≤ 30 := fun r hr => by have := h2 (intR r) (List.mem_map_of_mem hr); rwa [intR, List.length_map] at this
    have q1 : N.length ≤ 1000000 := by omega
    have q2 : ∀ r ∈ N, r.length < 10000000000 := fun r h => by have := hr r h; omega
    have z1 := int_small (comps_small (N := N))
    have z2 := int_small (cond_small (N := N))
    have z3 := loops_small (N := N)
    exact ⟨intG (comps N), intG (condN N), intR (loopsN N), 0, sccComps N hN q1 q2, refComps N hN q1 q2, sccLoops N hN q1 q2, refLoops N hN q1 q2, sccCond N hN (by omega) (fun r h => by have := hr r h; omega), refCond N hN q1 q2, ⟨by omega, fun r h => by have := z1.2 r h; omega⟩, ⟨by omega, fun r h => by have := z2.2 r h; omega⟩, by rw [intR, List.length_map]; omega⟩
set_option maxRecDepth 100000 in
theorem matchesG {H : List Value} {m : List (Value × List (List Value))} {g : List (List Int)} (hr : RawG H m g) : Acts Try.prog 6 [.sl none .no 1 (hd1 H)] [.hds none 1 m] [] (fun r _ => r = .s (.v (.bool true))) := matches0 hr both awake
end Go.Proofs.Ytfokjpmcifkoeaa
