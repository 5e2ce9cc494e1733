/- The library's Sort and Compact at integers, by the shelf's contracts. -/
import Derived.Test.YtgljklggeopolaaPv
import Derived.Test.YtgljklggeopolaaProg
import Derived.Test.YtgljklggeopolaaLays
namespace Go.Proofs.Ytgljklggeopolaa
open Go.Shelf Pv
theorem sortsInt : Sorts Try.prog 65 := fun blk off cap zs w hH hb hs => Any.slices_Sort_int Try.lays189 blk off cap zs w hH hb hs
theorem compactsInt : Compacts Try.prog 66 := fun blk off cap zs w hH hs hc => Any.slices_Compact_int Try.lays20 blk off cap zs w hH hs hc
theorem sortCall : Callable Try.prog 65 := ⟨_, Try.func65, by decide, rfl⟩
theorem compactCall : Callable Try.prog 66 := ⟨_, Try.func66, by decide, rfl⟩
end Go.Proofs.Ytgljklggeopolaa
