/- What Down gives. No condition. -/
import Derived.Test.YtfokjpmcifkoeaaOJ
import Derived.Test.YtfokjpmcifkoeaaO0
namespace Go.Proofs.Ytfokjpmcifkoeaa
open Pv Go.RowKit Scc
set_option maxRecDepth 100000 in
/-- Down gives a small graph in which no node reaches itself. -/
theorem downG {H : List Value} {m : List (Value × List (List Value))} {g : List (List Int)} (hr : RawG H m g) (rank : List Int) (hrk : rank.length < 1000000000000000) : ∃ N : G, GOk N ∧ loopsN N = [] ∧ N.length ≤ 24 ∧ (∀ r ∈ N, r.length ≤ 30) ∧ Acts Try.prog 13 [.sl none .no 1 (hd1 H), ints rank] [.hds none 1 m] [] (fun r _ => r = .s (graphR (intG N))) := by
  obtain ⟨N, hN, e, hn, hr30⟩ := fit_valid g
  have hrow : ∀ j, (N.getD j []).length ≤ 30 := fun j => by
    rw [List.getD_eq_getElem?_getD]
    cases hx : N[j]? with
    | none => exact Nat.zero_le _
    | some r => exact hr30 r (List.mem_of_getElem? hx)
  exact ⟨downN N (placeF rank), down_ok hN, down_loops hN, by rw [down_len]; exact hn, down_rows hrow, downR hr N hN e hn hr30 rank hrk⟩
end Go.Proofs.Ytfokjpmcifkoeaa
