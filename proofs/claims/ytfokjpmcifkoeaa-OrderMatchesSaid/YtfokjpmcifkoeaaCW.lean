/- The law's helpers over and from: lists written over, and the nodes that a node reaches. No condition. -/
import Derived.Test.YtfokjpmcifkoeaaCE0
import Derived.Test.YtfokjpmcifkoeaaPlain
namespace Go.Proofs.Ytfokjpmcifkoeaa
open Pv Go.RowKit Scc
set_option maxRecDepth 100000 in
theorem hds_at {rows : List NRow} {i : Nat} {q : NRow} (h : rows[i]? = some q) : (hds rows)[i]? = some [q.hdr] := by unfold hds; rw [List.getElem?_map, h]; rfl
end Go.Proofs.Ytfokjpmcifkoeaa
