/- The library's Sort and Compact at integers, by the shelf's contracts. -/
import Derived.Test.YtfacimebfdeaeaaPv
import Derived.Test.YtfacimebfdeaeaaProg
import Derived.Test.YtfacimebfdeaeaaLays
namespace Go.Proofs.Ytfacimebfdeaeaa
open Go.Shelf Pv
set_option maxRecDepth 100000 in
theorem sortsInt : Sorts Try.prog 102 := fun blk off cap zs w hH hb hs => Any.slices_Sort_int Try.lays189 blk off cap zs w hH hb hs
set_option maxRecDepth 100000 in
theorem compactsInt : Compacts Try.prog 103 := fun blk off cap zs w hH hs hc => Any.slices_Compact_int Try.lays20 blk off cap zs w hH hs hc
set_option maxRecDepth 100000 in
theorem sortCall : Callable Try.prog 102 := ⟨_, Try.func102, by decide, rfl⟩
set_option maxRecDepth 100000 in
theorem compactCall : Callable Try.prog 103 := ⟨_, Try.func103, by decide, rfl⟩
end Go.Proofs.Ytfacimebfdeaeaa
