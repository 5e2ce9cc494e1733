/- The library's Sort and Compact at integers, by the shelf's contracts. -/
import Derived.Test.YtfokjpmcifkoeaaPv
import Derived.Test.YtfokjpmcifkoeaaProg
import Derived.Test.YtfokjpmcifkoeaaLT
namespace Go.Proofs.Ytfokjpmcifkoeaa
open Go.Shelf Pv
set_option maxRecDepth 100000 in
theorem sortsInt : Sorts Try.prog 51 := fun blk off cap zs w hH hb hs => Any.slices_Sort_int Try.lays189 blk off cap zs w hH hb hs
set_option maxRecDepth 100000 in
theorem sortCall : Callable Try.prog 51 := ⟨_, Try.func51, by decide, rfl⟩
end Go.Proofs.Ytfokjpmcifkoeaa
