/- Small graphs. No condition. -/
import Derived.Test.YtfokjpmcifkoeaaCA
namespace Go.Proofs.Ytfokjpmcifkoeaa
open Pv Go.RowKit
structure SmallG (l : List (List Int)) : Prop where
  len : l.length ≤ 24
  row : ∀ r ∈ l, r.length ≤ 30
set_option maxRecDepth 100000 in
theorem SmallG.same {l : List (List Int)} (h : SmallG l) : Pure Try.prog 30 [graph l, graph l] (.s (.v (.bool true))) := by
  have := equalInts2 l l (by have := h.len; omega) (by have := h.len; omega) (fun r hr => by have := h.row r hr; omega) (fun r hr => by have := h.row r hr; omega)
  rwa [decide_eq_true rfl] at this
end Go.Proofs.Ytfokjpmcifkoeaa
