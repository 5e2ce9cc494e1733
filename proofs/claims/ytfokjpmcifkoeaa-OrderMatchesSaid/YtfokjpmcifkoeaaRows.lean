/-
  No cell of these rows narrows 'for every input' (looked for: loops, veiled, ifaces, maps, wideKeys, modest, calm, conditions, laid).
  DERIVED. THE GIVEN ROWS OF THIS SEAT. 10 by the template 'for every input the law returns true; each argument reads behind the call as it read before'; 0 by the template 'total and deterministic' (their statements: YtfokjpmcifkoeaaTotals.lean).
  GIVEN WITH THE SEED: the statements are not yours to turn. If you find one false, say at which input.
  Laid BY PROGRAM, IN A SANDBOX (cutbox-rows.mjs): the forced cells as the released guide's own fill.sh prints them over the translation 11e374b10a063346… (all of the seat's roots in one cut). By AI agents, Wed Nov 11 2026. No macro, syntax, notation, axiom, sorry.
-/
import Derived.Test.YtfokjpmcifkoeaaChecked
import GoSem.Claim
import GoSem.ClaimJoined
import GoSem.ClaimMapViews
import Derived.JoinedTies
import Derived.KernelRfl
namespace Go.Proofs.Ytfokjpmcifkoeaa
/- THE CELL 'sum', in the pinned program and in every row, IS THE sha256 OF THE DUMP (.gsa) THAT YtfokjpmcifkoeaaProg.lean LOADS. Nothing in Lean hashes anything: it is a label: what it is worth is what the hold of that sum in a sandbox is worth. -/
noncomputable def Try.pinned : Pinned := { name := "ytfokjpmcifkoeaa", sum := "11e374b10a06334612f3f93315a3ff60b0c0088600de997199337b86160a0b23", checked := Try.checked }
namespace Rows
def none {H : Type} : Left H := { results := [], args := [] }

/-- 'louvrelaw25.OrderLevels': WHATEVER THE INPUT: true; the input reads as it did. -/
def orderLevelsSpec : ChangeSpec := { name := "orderLevels", fn := fun _ => fun
  | [d1, d2] => { results := [.lit (.bool true)], args := [d1, d2] }
  | _ => none }
def orderLevelsRow : OpenClaim := { program := "ytfokjpmcifkoeaa", sum := "11e374b10a06334612f3f93315a3ff60b0c0088600de997199337b86160a0b23", func := "louvre/louvrelaw25.OrderLevels", spec := "orderLevels", unfollowed := true, recurses := true, apart := false }
def OrderLevelsSaid : Prop := orderLevelsRow.holds Try.pinned (OpenSpec.ofChange orderLevelsSpec)

/-- ITS FALSE NEIGHBOUR: 'it returns false'. Refute it at one input. -/
def orderLevelsWrong : ChangeSpec := { name := "orderLevels", fn := fun _ => fun
  | [d1, d2] => { results := [.lit (.bool false)], args := [d1, d2] }
  | _ => none }
def OrderLevelsWrongFalsely : Prop := orderLevelsRow.holds Try.pinned (OpenSpec.ofChange orderLevelsWrong)

/-- 'louvrelaw25.OrderMore': WHATEVER THE INPUT: true; the input reads as it did. -/
def orderMoreSpec : ChangeSpec := { name := "orderMore", fn := fun _ => fun
  | [d1, d2, d3] => { results := [.lit (.bool true)], args := [d1, d2, d3] }
  | _ => none }
def orderMoreRow : OpenClaim := { program := "ytfokjpmcifkoeaa", sum := "11e374b10a06334612f3f93315a3ff60b0c0088600de997199337b86160a0b23", func := "louvre/louvrelaw25.OrderMore", spec := "orderMore", unfollowed := true, recurses := true, apart := false }
def OrderMoreSaid : Prop := orderMoreRow.holds Try.pinned (OpenSpec.ofChange orderMoreSpec)

/-- ITS FALSE NEIGHBOUR: 'it returns false'. Refute it at one input. -/
def orderMoreWrong : ChangeSpec := { name := "orderMore", fn := fun _ => fun
  | [d1, d2, d3] => { results := [.lit (.bool false)], args := [d1, d2, d3] }
  | _ => none }
def OrderMoreWrongFalsely : Prop := orderMoreRow.holds Try.pinned (OpenSpec.ofChange orderMoreWrong)

/-- 'louvrelaw24.SccNames': WHATEVER THE INPUT: true; the input reads as it did. -/
def sccNamesSpec : ChangeSpec := { name := "sccNames", fn := fun _ => fun
  | [] => { results := [.lit (.bool true)], args := [] }
  | _ => none }
def sccNamesRow : OpenClaim := { program := "ytfokjpmcifkoeaa", sum := "11e374b10a06334612f3f93315a3ff60b0c0088600de997199337b86160a0b23", func := "louvre/louvrelaw24.SccNames", spec := "sccNames", unfollowed := true, recurses := true, apart := false }
def SccNamesSaid : Prop := sccNamesRow.holds Try.pinned (OpenSpec.ofChange sccNamesSpec)

/-- ITS FALSE NEIGHBOUR: 'it returns false'. Refute it at one input. -/
def sccNamesWrong : ChangeSpec := { name := "sccNames", fn := fun _ => fun
  | [] => { results := [.lit (.bool false)], args := [] }
  | _ => none }
def SccNamesWrongFalsely : Prop := sccNamesRow.holds Try.pinned (OpenSpec.ofChange sccNamesWrong)

/-- 'louvrelaw24.SccMatches': WHATEVER THE INPUT: true; the input reads as it did. -/
def sccMatchesSpec : ChangeSpec := { name := "sccMatches", fn := fun _ => fun
  | [d] => { results := [.lit (.bool true)], args := [d] }
  | _ => none }
def sccMatchesRow : OpenClaim := { program := "ytfokjpmcifkoeaa", sum := "11e374b10a06334612f3f93315a3ff60b0c0088600de997199337b86160a0b23", func := "louvre/louvrelaw24.SccMatches", spec := "sccMatches", unfollowed := true, recurses := true, apart := false }
def SccMatchesSaid : Prop := sccMatchesRow.holds Try.pinned (OpenSpec.ofChange sccMatchesSpec)

/-- ITS FALSE NEIGHBOUR: 'it returns false'. Refute it at one input. -/
def sccMatchesWrong : ChangeSpec := { name := "sccMatches", fn := fun _ => fun
  | [d] => { results := [.lit (.bool false)], args := [d] }
  | _ => none }
def SccMatchesWrongFalsely : Prop := sccMatchesRow.holds Try.pinned (OpenSpec.ofChange sccMatchesWrong)

/-- 'louvrelaw24.SccParts': WHATEVER THE INPUT: true; the input reads as it did. -/
def sccPartsSpec : ChangeSpec := { name := "sccParts", fn := fun _ => fun
  | [d] => { results := [.lit (.bool true)], args := [d] }
  | _ => none }
def sccPartsRow : OpenClaim := { program := "ytfokjpmcifkoeaa", sum := "11e374b10a06334612f3f93315a3ff60b0c0088600de997199337b86160a0b23", func := "louvre/louvrelaw24.SccParts", spec := "sccParts", unfollowed := true, recurses := true, apart := false }
def SccPartsSaid : Prop := sccPartsRow.holds Try.pinned (OpenSpec.ofChange sccPartsSpec)

/-- ITS FALSE NEIGHBOUR: 'it returns false'. Refute it at one input. -/
def sccPartsWrong : ChangeSpec := { name := "sccParts", fn := fun _ => fun
  | [d] => { results := [.lit (.bool false)], args := [d] }
  | _ => none }
def SccPartsWrongFalsely : Prop := sccPartsRow.holds Try.pinned (OpenSpec.ofChange sccPartsWrong)

/-- 'louvrelaw24.SccCondensed': WHATEVER THE INPUT: true; the input reads as it did. -/
def sccCondensedSpec : ChangeSpec := { name := "sccCondensed", fn := fun _ => fun
  | [d] => { results := [.lit (.bool true)], args := [d] }
  | _ => none }
def sccCondensedRow : OpenClaim := { program := "ytfokjpmcifkoeaa", sum := "11e374b10a06334612f3f93315a3ff60b0c0088600de997199337b86160a0b23", func := "louvre/louvrelaw24.SccCondensed", spec := "sccCondensed", unfollowed := true, recurses := true, apart := false }
def SccCondensedSaid : Prop := sccCondensedRow.holds Try.pinned (OpenSpec.ofChange sccCondensedSpec)

/-- ITS FALSE NEIGHBOUR: 'it returns false'. Refute it at one input. -/
def sccCondensedWrong : ChangeSpec := { name := "sccCondensed", fn := fun _ => fun
  | [d] => { results := [.lit (.bool false)], args := [d] }
  | _ => none }
def SccCondensedWrongFalsely : Prop := sccCondensedRow.holds Try.pinned (OpenSpec.ofChange sccCondensedWrong)

/-- 'louvrelaw24.SccReversed': WHATEVER THE INPUT: true; the input reads as it did. -/
def sccReversedSpec : ChangeSpec := { name := "sccReversed", fn := fun _ => fun
  | [d1, d2] => { results := [.lit (.bool true)], args := [d1, d2] }
  | _ => none }
def sccReversedRow : OpenClaim := { program := "ytfokjpmcifkoeaa", sum := "11e374b10a06334612f3f93315a3ff60b0c0088600de997199337b86160a0b23", func := "louvre/louvrelaw24.SccReversed", spec := "sccReversed", unfollowed := true, recurses := true, apart := false }
def SccReversedSaid : Prop := sccReversedRow.holds Try.pinned (OpenSpec.ofChange sccReversedSpec)

/-- ITS FALSE NEIGHBOUR: 'it returns false'. Refute it at one input. -/
def sccReversedWrong : ChangeSpec := { name := "sccReversed", fn := fun _ => fun
  | [d1, d2] => { results := [.lit (.bool false)], args := [d1, d2] }
  | _ => none }
def SccReversedWrongFalsely : Prop := sccReversedRow.holds Try.pinned (OpenSpec.ofChange sccReversedWrong)

/-- 'louvrelaw25.OrderNames': WHATEVER THE INPUT: true; the input reads as it did. -/
def orderNamesSpec : ChangeSpec := { name := "orderNames", fn := fun _ => fun
  | [] => { results := [.lit (.bool true)], args := [] }
  | _ => none }
def orderNamesRow : OpenClaim := { program := "ytfokjpmcifkoeaa", sum := "11e374b10a06334612f3f93315a3ff60b0c0088600de997199337b86160a0b23", func := "louvre/louvrelaw25.OrderNames", spec := "orderNames", unfollowed := true, recurses := true, apart := false }
def OrderNamesSaid : Prop := orderNamesRow.holds Try.pinned (OpenSpec.ofChange orderNamesSpec)

/-- ITS FALSE NEIGHBOUR: 'it returns false'. Refute it at one input. -/
def orderNamesWrong : ChangeSpec := { name := "orderNames", fn := fun _ => fun
  | [] => { results := [.lit (.bool false)], args := [] }
  | _ => none }
def OrderNamesWrongFalsely : Prop := orderNamesRow.holds Try.pinned (OpenSpec.ofChange orderNamesWrong)

/-- 'louvrelaw25.OrderMatches': WHATEVER THE INPUT: true; the input reads as it did. -/
def orderMatchesSpec : ChangeSpec := { name := "orderMatches", fn := fun _ => fun
  | [d1, d2, d3] => { results := [.lit (.bool true)], args := [d1, d2, d3] }
  | _ => none }
def orderMatchesRow : OpenClaim := { program := "ytfokjpmcifkoeaa", sum := "11e374b10a06334612f3f93315a3ff60b0c0088600de997199337b86160a0b23", func := "louvre/louvrelaw25.OrderMatches", spec := "orderMatches", unfollowed := true, recurses := true, apart := false }
def OrderMatchesSaid : Prop := orderMatchesRow.holds Try.pinned (OpenSpec.ofChange orderMatchesSpec)

/-- ITS FALSE NEIGHBOUR: 'it returns false'. Refute it at one input. -/
def orderMatchesWrong : ChangeSpec := { name := "orderMatches", fn := fun _ => fun
  | [d1, d2, d3] => { results := [.lit (.bool false)], args := [d1, d2, d3] }
  | _ => none }
def OrderMatchesWrongFalsely : Prop := orderMatchesRow.holds Try.pinned (OpenSpec.ofChange orderMatchesWrong)

/-- 'louvrelaw25.OrderLeast': WHATEVER THE INPUT: true; the input reads as it did. -/
def orderLeastSpec : ChangeSpec := { name := "orderLeast", fn := fun _ => fun
  | [d1, d2, d3] => { results := [.lit (.bool true)], args := [d1, d2, d3] }
  | _ => none }
def orderLeastRow : OpenClaim := { program := "ytfokjpmcifkoeaa", sum := "11e374b10a06334612f3f93315a3ff60b0c0088600de997199337b86160a0b23", func := "louvre/louvrelaw25.OrderLeast", spec := "orderLeast", unfollowed := true, recurses := true, apart := false }
def OrderLeastSaid : Prop := orderLeastRow.holds Try.pinned (OpenSpec.ofChange orderLeastSpec)

/-- ITS FALSE NEIGHBOUR: 'it returns false'. Refute it at one input. -/
def orderLeastWrong : ChangeSpec := { name := "orderLeast", fn := fun _ => fun
  | [d1, d2, d3] => { results := [.lit (.bool false)], args := [d1, d2, d3] }
  | _ => none }
def OrderLeastWrongFalsely : Prop := orderLeastRow.holds Try.pinned (OpenSpec.ofChange orderLeastWrong)

/- THE SECOND FORM. 'bulk': how many values and letters a reading holds, each counted each time it is reached (what is shared counts as often as it is met; a slice's spare places count too). A statement '..UptoSaid' is the law's where the arguments, and the package variables that the reading takes, are together of bulk at most 1048576: NARROWER than '..Said'. Prove '..Said' where nothing that the law and all that it calls make is longer than what came in: it says more and counts as full. Else prove '..UptoSaid'. A law counts once. -/
mutual
def uptoBulk {H : Type} : DataW H → Nat
  | .lit (.string bytes) => bytes.length + 1
  | .lit _ => 1
  | .nil => 1
  | .ptr d => uptoBulk d + 1
  | .slice elems spare => uptoBulkAll elems + uptoBulkAll spare + 1
  | .agg parts => uptoBulkAll parts + 1
  | .iface _ d => uptoBulk d + 1
  | .map entries => uptoBulkEntries entries + 1
  | .held _ => 1
def uptoBulkAll {H : Type} : List (DataW H) → Nat
  | [] => 0
  | d :: r => uptoBulk d + uptoBulkAll r
def uptoBulkEntries {H : Type} : List (Lit × DataW H) → Nat
  | [] => 0
  | x :: r => uptoBulkEntry x + uptoBulkEntries r
def uptoBulkEntry {H : Type} : Lit × DataW H → Nat
  | (.string bytes, d) => bytes.length + uptoBulk d + 1
  | (_, d) => uptoBulk d + 1
 end
def uptoSmall : (H : Type) → List (DataW H) → Bool := fun _ ds => decide (uptoBulkAll ds ≤ 1048576)
def OpenSpec.upto (s : _root_.Go.ChangeSpec) : _root_.Go.OpenSpec := { _root_.Go.OpenSpec.ofChange s with cond := some uptoSmall }

/-- 'louvrelaw25.OrderLevels', WHERE WHAT IT READS IS OF BULK AT MOST 1048576: true; the input reads as it did. -/
def orderLevelsUptoRow : OpenClaim := { program := "ytfokjpmcifkoeaa", sum := "11e374b10a06334612f3f93315a3ff60b0c0088600de997199337b86160a0b23", func := "louvre/louvrelaw25.OrderLevels", spec := "orderLevels", unfollowed := true, recurses := true, apart := false, narrowed := true }
def OrderLevelsUptoSaid : Prop := orderLevelsUptoRow.holds Try.pinned (OpenSpec.upto orderLevelsSpec)

/-- 'louvrelaw25.OrderMore', WHERE WHAT IT READS IS OF BULK AT MOST 1048576: true; the input reads as it did. -/
def orderMoreUptoRow : OpenClaim := { program := "ytfokjpmcifkoeaa", sum := "11e374b10a06334612f3f93315a3ff60b0c0088600de997199337b86160a0b23", func := "louvre/louvrelaw25.OrderMore", spec := "orderMore", unfollowed := true, recurses := true, apart := false, narrowed := true }
def OrderMoreUptoSaid : Prop := orderMoreUptoRow.holds Try.pinned (OpenSpec.upto orderMoreSpec)

/-- 'louvrelaw24.SccNames', WHERE WHAT IT READS IS OF BULK AT MOST 1048576: true; the input reads as it did. -/
def sccNamesUptoRow : OpenClaim := { program := "ytfokjpmcifkoeaa", sum := "11e374b10a06334612f3f93315a3ff60b0c0088600de997199337b86160a0b23", func := "louvre/louvrelaw24.SccNames", spec := "sccNames", unfollowed := true, recurses := true, apart := false, narrowed := true }
def SccNamesUptoSaid : Prop := sccNamesUptoRow.holds Try.pinned (OpenSpec.upto sccNamesSpec)

/-- 'louvrelaw24.SccMatches', WHERE WHAT IT READS IS OF BULK AT MOST 1048576: true; the input reads as it did. -/
def sccMatchesUptoRow : OpenClaim := { program := "ytfokjpmcifkoeaa", sum := "11e374b10a06334612f3f93315a3ff60b0c0088600de997199337b86160a0b23", func := "louvre/louvrelaw24.SccMatches", spec := "sccMatches", unfollowed := true, recurses := true, apart := false, narrowed := true }
def SccMatchesUptoSaid : Prop := sccMatchesUptoRow.holds Try.pinned (OpenSpec.upto sccMatchesSpec)

/-- 'louvrelaw24.SccParts', WHERE WHAT IT READS IS OF BULK AT MOST 1048576: true; the input reads as it did. -/
def sccPartsUptoRow : OpenClaim := { program := "ytfokjpmcifkoeaa", sum := "11e374b10a06334612f3f93315a3ff60b0c0088600de997199337b86160a0b23", func := "louvre/louvrelaw24.SccParts", spec := "sccParts", unfollowed := true, recurses := true, apart := false, narrowed := true }
def SccPartsUptoSaid : Prop := sccPartsUptoRow.holds Try.pinned (OpenSpec.upto sccPartsSpec)

/-- 'louvrelaw24.SccCondensed', WHERE WHAT IT READS IS OF BULK AT MOST 1048576: true; the input reads as it did. -/
def sccCondensedUptoRow : OpenClaim := { program := "ytfokjpmcifkoeaa", sum := "11e374b10a06334612f3f93315a3ff60b0c0088600de997199337b86160a0b23", func := "louvre/louvrelaw24.SccCondensed", spec := "sccCondensed", unfollowed := true, recurses := true, apart := false, narrowed := true }
def SccCondensedUptoSaid : Prop := sccCondensedUptoRow.holds Try.pinned (OpenSpec.upto sccCondensedSpec)

/-- 'louvrelaw24.SccReversed', WHERE WHAT IT READS IS OF BULK AT MOST 1048576: true; the input reads as it did. -/
def sccReversedUptoRow : OpenClaim := { program := "ytfokjpmcifkoeaa", sum := "11e374b10a06334612f3f93315a3ff60b0c0088600de997199337b86160a0b23", func := "louvre/louvrelaw24.SccReversed", spec := "sccReversed", unfollowed := true, recurses := true, apart := false, narrowed := true }
def SccReversedUptoSaid : Prop := sccReversedUptoRow.holds Try.pinned (OpenSpec.upto sccReversedSpec)

/-- 'louvrelaw25.OrderNames', WHERE WHAT IT READS IS OF BULK AT MOST 1048576: true; the input reads as it did. -/
def orderNamesUptoRow : OpenClaim := { program := "ytfokjpmcifkoeaa", sum := "11e374b10a06334612f3f93315a3ff60b0c0088600de997199337b86160a0b23", func := "louvre/louvrelaw25.OrderNames", spec := "orderNames", unfollowed := true, recurses := true, apart := false, narrowed := true }
def OrderNamesUptoSaid : Prop := orderNamesUptoRow.holds Try.pinned (OpenSpec.upto orderNamesSpec)

/-- 'louvrelaw25.OrderMatches', WHERE WHAT IT READS IS OF BULK AT MOST 1048576: true; the input reads as it did. -/
def orderMatchesUptoRow : OpenClaim := { program := "ytfokjpmcifkoeaa", sum := "11e374b10a06334612f3f93315a3ff60b0c0088600de997199337b86160a0b23", func := "louvre/louvrelaw25.OrderMatches", spec := "orderMatches", unfollowed := true, recurses := true, apart := false, narrowed := true }
def OrderMatchesUptoSaid : Prop := orderMatchesUptoRow.holds Try.pinned (OpenSpec.upto orderMatchesSpec)

/-- 'louvrelaw25.OrderLeast', WHERE WHAT IT READS IS OF BULK AT MOST 1048576: true; the input reads as it did. -/
def orderLeastUptoRow : OpenClaim := { program := "ytfokjpmcifkoeaa", sum := "11e374b10a06334612f3f93315a3ff60b0c0088600de997199337b86160a0b23", func := "louvre/louvrelaw25.OrderLeast", spec := "orderLeast", unfollowed := true, recurses := true, apart := false, narrowed := true }
def OrderLeastUptoSaid : Prop := orderLeastUptoRow.holds Try.pinned (OpenSpec.upto orderLeastSpec)

end Rows
end Go.Proofs.Ytfokjpmcifkoeaa
