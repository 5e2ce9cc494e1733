/- The law's helper says: what a graph's components, loops and condensed graph are, from what scc's functions give. No condition. -/
import Derived.Test.YtfokjpmcifkoeaaCE0
namespace Go.Proofs.Ytfokjpmcifkoeaa
open Pv Go.RowKit Scc
structure StoppedQ (p : Prop) : Prop where
  mk' ::
  go : p
set_option maxRecDepth 100000 in
theorem stopQ {P : Program} {w0 : Base} {n : Nat} (r : Nat) {l : Array Oper} {b : Bool} {s : St} {N R : St → Prop} {X : Nat → St → Prop} (h : StoppedQ (Wt P w0 n (.region r l b) s N R X)) : Wt P w0 n (.region r l b) s N R X := h.go
end Go.Proofs.Ytfokjpmcifkoeaa
