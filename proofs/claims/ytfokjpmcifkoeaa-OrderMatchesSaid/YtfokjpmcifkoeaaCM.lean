/- The sort of a graph's components, by the library's contract. No condition. -/
import Derived.Test.YtfokjpmcifkoeaaCL
import Derived.Test.YtfokjpmcifkoeaaPvK
import Derived.Test.YtfokjpmcifkoeaaLT
import Derived.Deep.QuietTactic
import Derived.BigQuiet
namespace Go.Proofs.Ytfokjpmcifkoeaa
open Pv Go.RowKit Scc
set_option maxRecDepth 100000 in
theorem cmpH (b1 o1 n1 c1 b2 o2 n2 c2 : Nat) (z1 z2 : Int) (W : World) (h1 : 0 < n1) (h2 : 0 < n2) (e1 : W.cell? ⟨b1, o1, none⟩ = some (.int .i64 z1)) (e2 : W.cell? ⟨b2, o2, none⟩ = some (.int .i64 z2)) (l1 : 0 ≤ z1) (u1 : z1 < 4611686018427387904) (l2 : 0 ≤ z2) (u2 : z2 < 4611686018427387904) :
    Calls Try.prog 53 #[.slice (some ⟨b1, o1, none⟩) n1 c1, .slice (some ⟨b2, o2, none⟩) n2 c2] W fun e w' => e = .returned (.int .i64 (z1 - z2)) ∧ ∃ q os', w' = Go.Sort.grow (W.drewN q) os' := by
  have a1 : (0 : Int) < (n1 : Int) := by omega
  have a2 : (0 : Int) < (n2 : Int) := by omega
  have b1 : -9223372036854775808 ≤ z1 - z2 := by omega
  have b2 : z1 - z2 < 9223372036854775808 := by omega
  go_enter Try.func53, Try.ntmps53
  go_wp2
  go_quiet (fail)
  go_wp2
  go_ret
  exact ⟨rfl, nq, #[], by simp [Go.Sort.grow, World.drewN]⟩
set_option maxRecDepth 100000 in
theorem sortsH : SortsH Try.prog 52 (.func (.func 53) #[] #[]) :=
  SortsH.mk Try.laySort 53 (enters_of Try.func53 (by kernel_rfl) rfl) cmpH
set_option maxRecDepth 100000 in
theorem sortHCall : Callable Try.prog 52 := ⟨_, Try.func52, by decide, rfl⟩
end Go.Proofs.Ytfokjpmcifkoeaa
