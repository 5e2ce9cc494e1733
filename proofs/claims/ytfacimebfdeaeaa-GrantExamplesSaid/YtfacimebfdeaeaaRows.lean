/-
  No cell of these rows narrows 'for every input' (looked for: loops, veiled, ifaces, maps, wideKeys, modest, calm, conditions, laid).
  DERIVED. THE GIVEN ROWS OF THIS SEAT. 12 by the template 'for every input the law returns true; each argument reads behind the call as it read before'; 0 by the template 'total and deterministic' (their statements: YtfacimebfdeaeaaTotals.lean).
  GIVEN WITH THE SEED: the statements are not yours to turn. If you find one false, say at which input.
  Laid BY PROGRAM, IN A SANDBOX (cutbox-rows.mjs): the forced cells as the released guide's own fill.sh prints them over the translation e05bb3d8f4a5bce8… (all of the seat's roots in one cut). By AI agents, Wed Nov 11 2026. No macro, syntax, notation, axiom, sorry.
-/
import Derived.Test.YtfacimebfdeaeaaChecked
import GoSem.Claim
import GoSem.ClaimJoined
import GoSem.ClaimMapViews
import Derived.JoinedTies
import Derived.KernelRfl
namespace Go.Proofs.Ytfacimebfdeaeaa
/- THE CELL 'sum', in the pinned program and in every row, IS THE sha256 OF THE DUMP (.gsa) THAT YtfacimebfdeaeaaProg.lean LOADS. Nothing in Lean hashes anything: it is a label: what it is worth is what the hold of that sum in a sandbox is worth. -/
noncomputable def Try.pinned : Pinned := { name := "ytfacimebfdeaeaa", sum := "e05bb3d8f4a5bce82fedf54bb5e968571c77fbd850092bd2f3137d72086eda12", checked := Try.checked }
namespace Rows
def none {H : Type} : Left H := { results := [], args := [] }

/-- 'louvrelaw21.GrantMatches': WHATEVER THE INPUT: true; the input reads as it did. -/
def grantMatchesSpec : ChangeSpec := { name := "grantMatches", fn := fun _ => fun
  | [d1, d2, d3, d4] => { results := [.lit (.bool true)], args := [d1, d2, d3, d4] }
  | _ => none }
def grantMatchesRow : OpenClaim := { program := "ytfacimebfdeaeaa", sum := "e05bb3d8f4a5bce82fedf54bb5e968571c77fbd850092bd2f3137d72086eda12", func := "louvre/louvrelaw21.GrantMatches", spec := "grantMatches", unfollowed := true, recurses := true, apart := false }
def GrantMatchesSaid : Prop := grantMatchesRow.holds Try.pinned (OpenSpec.ofChange grantMatchesSpec)

/-- ITS FALSE NEIGHBOUR: 'it returns false'. Refute it at one input. -/
def grantMatchesWrong : ChangeSpec := { name := "grantMatches", fn := fun _ => fun
  | [d1, d2, d3, d4] => { results := [.lit (.bool false)], args := [d1, d2, d3, d4] }
  | _ => none }
def GrantMatchesWrongFalsely : Prop := grantMatchesRow.holds Try.pinned (OpenSpec.ofChange grantMatchesWrong)

/-- 'louvrelaw21.GrantOwned': WHATEVER THE INPUT: true; the input reads as it did. -/
def grantOwnedSpec : ChangeSpec := { name := "grantOwned", fn := fun _ => fun
  | [d1, d2, d3, d4, d5] => { results := [.lit (.bool true)], args := [d1, d2, d3, d4, d5] }
  | _ => none }
def grantOwnedRow : OpenClaim := { program := "ytfacimebfdeaeaa", sum := "e05bb3d8f4a5bce82fedf54bb5e968571c77fbd850092bd2f3137d72086eda12", func := "louvre/louvrelaw21.GrantOwned", spec := "grantOwned", unfollowed := true, recurses := true, apart := false }
def GrantOwnedSaid : Prop := grantOwnedRow.holds Try.pinned (OpenSpec.ofChange grantOwnedSpec)

/-- ITS FALSE NEIGHBOUR: 'it returns false'. Refute it at one input. -/
def grantOwnedWrong : ChangeSpec := { name := "grantOwned", fn := fun _ => fun
  | [d1, d2, d3, d4, d5] => { results := [.lit (.bool false)], args := [d1, d2, d3, d4, d5] }
  | _ => none }
def GrantOwnedWrongFalsely : Prop := grantOwnedRow.holds Try.pinned (OpenSpec.ofChange grantOwnedWrong)

/-- 'louvrelaw21.GrantUnites': WHATEVER THE INPUT: true; the input reads as it did. -/
def grantUnitesSpec : ChangeSpec := { name := "grantUnites", fn := fun _ => fun
  | [d1, d2, d3, d4, d5] => { results := [.lit (.bool true)], args := [d1, d2, d3, d4, d5] }
  | _ => none }
def grantUnitesRow : OpenClaim := { program := "ytfacimebfdeaeaa", sum := "e05bb3d8f4a5bce82fedf54bb5e968571c77fbd850092bd2f3137d72086eda12", func := "louvre/louvrelaw21.GrantUnites", spec := "grantUnites", unfollowed := true, recurses := true, apart := false }
def GrantUnitesSaid : Prop := grantUnitesRow.holds Try.pinned (OpenSpec.ofChange grantUnitesSpec)

/-- ITS FALSE NEIGHBOUR: 'it returns false'. Refute it at one input. -/
def grantUnitesWrong : ChangeSpec := { name := "grantUnites", fn := fun _ => fun
  | [d1, d2, d3, d4, d5] => { results := [.lit (.bool false)], args := [d1, d2, d3, d4, d5] }
  | _ => none }
def GrantUnitesWrongFalsely : Prop := grantUnitesRow.holds Try.pinned (OpenSpec.ofChange grantUnitesWrong)

/-- 'louvrelaw21.GrantLives': WHATEVER THE INPUT: true; the input reads as it did. -/
def grantLivesSpec : ChangeSpec := { name := "grantLives", fn := fun _ => fun
  | [d1, d2, d3, d4] => { results := [.lit (.bool true)], args := [d1, d2, d3, d4] }
  | _ => none }
def grantLivesRow : OpenClaim := { program := "ytfacimebfdeaeaa", sum := "e05bb3d8f4a5bce82fedf54bb5e968571c77fbd850092bd2f3137d72086eda12", func := "louvre/louvrelaw21.GrantLives", spec := "grantLives", unfollowed := true, recurses := true, apart := false }
def GrantLivesSaid : Prop := grantLivesRow.holds Try.pinned (OpenSpec.ofChange grantLivesSpec)

/-- ITS FALSE NEIGHBOUR: 'it returns false'. Refute it at one input. -/
def grantLivesWrong : ChangeSpec := { name := "grantLives", fn := fun _ => fun
  | [d1, d2, d3, d4] => { results := [.lit (.bool false)], args := [d1, d2, d3, d4] }
  | _ => none }
def GrantLivesWrongFalsely : Prop := grantLivesRow.holds Try.pinned (OpenSpec.ofChange grantLivesWrong)

/-- 'louvrelaw21.GrantExamples': WHATEVER THE INPUT: true; the input reads as it did. -/
def grantExamplesSpec : ChangeSpec := { name := "grantExamples", fn := fun _ => fun
  | [] => { results := [.lit (.bool true)], args := [] }
  | _ => none }
def grantExamplesRow : OpenClaim := { program := "ytfacimebfdeaeaa", sum := "e05bb3d8f4a5bce82fedf54bb5e968571c77fbd850092bd2f3137d72086eda12", func := "louvre/louvrelaw21.GrantExamples", spec := "grantExamples", unfollowed := true, recurses := true, apart := false }
def GrantExamplesSaid : Prop := grantExamplesRow.holds Try.pinned (OpenSpec.ofChange grantExamplesSpec)

/-- ITS FALSE NEIGHBOUR: 'it returns false'. Refute it at one input. -/
def grantExamplesWrong : ChangeSpec := { name := "grantExamples", fn := fun _ => fun
  | [] => { results := [.lit (.bool false)], args := [] }
  | _ => none }
def GrantExamplesWrongFalsely : Prop := grantExamplesRow.holds Try.pinned (OpenSpec.ofChange grantExamplesWrong)

/-- 'louvrelaw21.GrantApart': WHATEVER THE INPUT: true; the input reads as it did. -/
def grantApartSpec : ChangeSpec := { name := "grantApart", fn := fun _ => fun
  | [d1, d2, d3] => { results := [.lit (.bool true)], args := [d1, d2, d3] }
  | _ => none }
def grantApartRow : OpenClaim := { program := "ytfacimebfdeaeaa", sum := "e05bb3d8f4a5bce82fedf54bb5e968571c77fbd850092bd2f3137d72086eda12", func := "louvre/louvrelaw21.GrantApart", spec := "grantApart", unfollowed := true, recurses := true, apart := false }
def GrantApartSaid : Prop := grantApartRow.holds Try.pinned (OpenSpec.ofChange grantApartSpec)

/-- ITS FALSE NEIGHBOUR: 'it returns false'. Refute it at one input. -/
def grantApartWrong : ChangeSpec := { name := "grantApart", fn := fun _ => fun
  | [d1, d2, d3] => { results := [.lit (.bool false)], args := [d1, d2, d3] }
  | _ => none }
def GrantApartWrongFalsely : Prop := grantApartRow.holds Try.pinned (OpenSpec.ofChange grantApartWrong)

/-- 'louvrelaw30.AuditEvents': WHATEVER THE INPUT: true; the input reads as it did. -/
def auditEventsSpec : ChangeSpec := { name := "auditEvents", fn := fun _ => fun
  | [d1, d2, d3, d4, d5] => { results := [.lit (.bool true)], args := [d1, d2, d3, d4, d5] }
  | _ => none }
def auditEventsRow : OpenClaim := { program := "ytfacimebfdeaeaa", sum := "e05bb3d8f4a5bce82fedf54bb5e968571c77fbd850092bd2f3137d72086eda12", func := "louvre/louvrelaw30.AuditEvents", spec := "auditEvents", unfollowed := true, recurses := true, apart := false }
def AuditEventsSaid : Prop := auditEventsRow.holds Try.pinned (OpenSpec.ofChange auditEventsSpec)

/-- ITS FALSE NEIGHBOUR: 'it returns false'. Refute it at one input. -/
def auditEventsWrong : ChangeSpec := { name := "auditEvents", fn := fun _ => fun
  | [d1, d2, d3, d4, d5] => { results := [.lit (.bool false)], args := [d1, d2, d3, d4, d5] }
  | _ => none }
def AuditEventsWrongFalsely : Prop := auditEventsRow.holds Try.pinned (OpenSpec.ofChange auditEventsWrong)

/-- 'louvrelaw30.AuditOwners': WHATEVER THE INPUT: true; the input reads as it did. -/
def auditOwnersSpec : ChangeSpec := { name := "auditOwners", fn := fun _ => fun
  | [d1, d2, d3, d4, d5] => { results := [.lit (.bool true)], args := [d1, d2, d3, d4, d5] }
  | _ => none }
def auditOwnersRow : OpenClaim := { program := "ytfacimebfdeaeaa", sum := "e05bb3d8f4a5bce82fedf54bb5e968571c77fbd850092bd2f3137d72086eda12", func := "louvre/louvrelaw30.AuditOwners", spec := "auditOwners", unfollowed := true, recurses := true, apart := false }
def AuditOwnersSaid : Prop := auditOwnersRow.holds Try.pinned (OpenSpec.ofChange auditOwnersSpec)

/-- ITS FALSE NEIGHBOUR: 'it returns false'. Refute it at one input. -/
def auditOwnersWrong : ChangeSpec := { name := "auditOwners", fn := fun _ => fun
  | [d1, d2, d3, d4, d5] => { results := [.lit (.bool false)], args := [d1, d2, d3, d4, d5] }
  | _ => none }
def AuditOwnersWrongFalsely : Prop := auditOwnersRow.holds Try.pinned (OpenSpec.ofChange auditOwnersWrong)

/-- 'louvrelaw30.AuditPrefix': WHATEVER THE INPUT: true; the input reads as it did. -/
def auditPrefixSpec : ChangeSpec := { name := "auditPrefix", fn := fun _ => fun
  | [d1, d2, d3] => { results := [.lit (.bool true)], args := [d1, d2, d3] }
  | _ => none }
def auditPrefixRow : OpenClaim := { program := "ytfacimebfdeaeaa", sum := "e05bb3d8f4a5bce82fedf54bb5e968571c77fbd850092bd2f3137d72086eda12", func := "louvre/louvrelaw30.AuditPrefix", spec := "auditPrefix", unfollowed := true, recurses := true, apart := false }
def AuditPrefixSaid : Prop := auditPrefixRow.holds Try.pinned (OpenSpec.ofChange auditPrefixSpec)

/-- ITS FALSE NEIGHBOUR: 'it returns false'. Refute it at one input. -/
def auditPrefixWrong : ChangeSpec := { name := "auditPrefix", fn := fun _ => fun
  | [d1, d2, d3] => { results := [.lit (.bool false)], args := [d1, d2, d3] }
  | _ => none }
def AuditPrefixWrongFalsely : Prop := auditPrefixRow.holds Try.pinned (OpenSpec.ofChange auditPrefixWrong)

/-- 'louvrelaw30.AuditShows': WHATEVER THE INPUT: true; the input reads as it did. -/
def auditShowsSpec : ChangeSpec := { name := "auditShows", fn := fun _ => fun
  | [d1, d2, d3, d4] => { results := [.lit (.bool true)], args := [d1, d2, d3, d4] }
  | _ => none }
def auditShowsRow : OpenClaim := { program := "ytfacimebfdeaeaa", sum := "e05bb3d8f4a5bce82fedf54bb5e968571c77fbd850092bd2f3137d72086eda12", func := "louvre/louvrelaw30.AuditShows", spec := "auditShows", unfollowed := true, recurses := true, apart := false }
def AuditShowsSaid : Prop := auditShowsRow.holds Try.pinned (OpenSpec.ofChange auditShowsSpec)

/-- ITS FALSE NEIGHBOUR: 'it returns false'. Refute it at one input. -/
def auditShowsWrong : ChangeSpec := { name := "auditShows", fn := fun _ => fun
  | [d1, d2, d3, d4] => { results := [.lit (.bool false)], args := [d1, d2, d3, d4] }
  | _ => none }
def AuditShowsWrongFalsely : Prop := auditShowsRow.holds Try.pinned (OpenSpec.ofChange auditShowsWrong)

/-- 'louvrelaw30.AuditChecks': WHATEVER THE INPUT: true; the input reads as it did. -/
def auditChecksSpec : ChangeSpec := { name := "auditChecks", fn := fun _ => fun
  | [d1, d2, d3] => { results := [.lit (.bool true)], args := [d1, d2, d3] }
  | _ => none }
def auditChecksRow : OpenClaim := { program := "ytfacimebfdeaeaa", sum := "e05bb3d8f4a5bce82fedf54bb5e968571c77fbd850092bd2f3137d72086eda12", func := "louvre/louvrelaw30.AuditChecks", spec := "auditChecks", unfollowed := true, recurses := true, apart := false }
def AuditChecksSaid : Prop := auditChecksRow.holds Try.pinned (OpenSpec.ofChange auditChecksSpec)

/-- ITS FALSE NEIGHBOUR: 'it returns false'. Refute it at one input. -/
def auditChecksWrong : ChangeSpec := { name := "auditChecks", fn := fun _ => fun
  | [d1, d2, d3] => { results := [.lit (.bool false)], args := [d1, d2, d3] }
  | _ => none }
def AuditChecksWrongFalsely : Prop := auditChecksRow.holds Try.pinned (OpenSpec.ofChange auditChecksWrong)

/-- 'louvrelaw30.AuditExamples': WHATEVER THE INPUT: true; the input reads as it did. -/
def auditExamplesSpec : ChangeSpec := { name := "auditExamples", fn := fun _ => fun
  | [] => { results := [.lit (.bool true)], args := [] }
  | _ => none }
def auditExamplesRow : OpenClaim := { program := "ytfacimebfdeaeaa", sum := "e05bb3d8f4a5bce82fedf54bb5e968571c77fbd850092bd2f3137d72086eda12", func := "louvre/louvrelaw30.AuditExamples", spec := "auditExamples", unfollowed := true, recurses := true, apart := false }
def AuditExamplesSaid : Prop := auditExamplesRow.holds Try.pinned (OpenSpec.ofChange auditExamplesSpec)

/-- ITS FALSE NEIGHBOUR: 'it returns false'. Refute it at one input. -/
def auditExamplesWrong : ChangeSpec := { name := "auditExamples", fn := fun _ => fun
  | [] => { results := [.lit (.bool false)], args := [] }
  | _ => none }
def AuditExamplesWrongFalsely : Prop := auditExamplesRow.holds Try.pinned (OpenSpec.ofChange auditExamplesWrong)

/- THE SECOND FORM. 'bulk': how many values and letters a reading holds, each counted each time it is reached (what is shared counts as often as it is met; a slice's spare places count too). A statement '..UptoSaid' is the law's where the arguments, and the package variables that the reading takes, are together of bulk at most 1048576: NARROWER than '..Said'. Prove '..Said' where nothing that the law and all that it calls make is longer than what came in: it says more and counts as full. Else prove '..UptoSaid'. A law counts once. -/
mutual
def uptoBulk {H : Type} : DataW H → Nat
  | .lit (.string bytes) => bytes.length + 1
  | .lit _ => 1
  | .nil => 1
  | .ptr d => uptoBulk d + 1
  | .slice elems spare => uptoBulkAll elems + uptoBulkAll spare + 1
  | .agg parts => uptoBulkAll parts + 1
  | .iface _ d => uptoBulk d + 1
  | .map entries => uptoBulkEntries entries + 1
  | .held _ => 1
def uptoBulkAll {H : Type} : List (DataW H) → Nat
  | [] => 0
  | d :: r => uptoBulk d + uptoBulkAll r
def uptoBulkEntries {H : Type} : List (Lit × DataW H) → Nat
  | [] => 0
  | x :: r => uptoBulkEntry x + uptoBulkEntries r
def uptoBulkEntry {H : Type} : Lit × DataW H → Nat
  | (.string bytes, d) => bytes.length + uptoBulk d + 1
  | (_, d) => uptoBulk d + 1
 end
def uptoSmall : (H : Type) → List (DataW H) → Bool := fun _ ds => decide (uptoBulkAll ds ≤ 1048576)
def OpenSpec.upto (s : _root_.Go.ChangeSpec) : _root_.Go.OpenSpec := { _root_.Go.OpenSpec.ofChange s with cond := some uptoSmall }

/-- 'louvrelaw21.GrantMatches', WHERE WHAT IT READS IS OF BULK AT MOST 1048576: true; the input reads as it did. -/
def grantMatchesUptoRow : OpenClaim := { program := "ytfacimebfdeaeaa", sum := "e05bb3d8f4a5bce82fedf54bb5e968571c77fbd850092bd2f3137d72086eda12", func := "louvre/louvrelaw21.GrantMatches", spec := "grantMatches", unfollowed := true, recurses := true, apart := false, narrowed := true }
def GrantMatchesUptoSaid : Prop := grantMatchesUptoRow.holds Try.pinned (OpenSpec.upto grantMatchesSpec)

/-- 'louvrelaw21.GrantOwned', WHERE WHAT IT READS IS OF BULK AT MOST 1048576: true; the input reads as it did. -/
def grantOwnedUptoRow : OpenClaim := { program := "ytfacimebfdeaeaa", sum := "e05bb3d8f4a5bce82fedf54bb5e968571c77fbd850092bd2f3137d72086eda12", func := "louvre/louvrelaw21.GrantOwned", spec := "grantOwned", unfollowed := true, recurses := true, apart := false, narrowed := true }
def GrantOwnedUptoSaid : Prop := grantOwnedUptoRow.holds Try.pinned (OpenSpec.upto grantOwnedSpec)

/-- 'louvrelaw21.GrantUnites', WHERE WHAT IT READS IS OF BULK AT MOST 1048576: true; the input reads as it did. -/
def grantUnitesUptoRow : OpenClaim := { program := "ytfacimebfdeaeaa", sum := "e05bb3d8f4a5bce82fedf54bb5e968571c77fbd850092bd2f3137d72086eda12", func := "louvre/louvrelaw21.GrantUnites", spec := "grantUnites", unfollowed := true, recurses := true, apart := false, narrowed := true }
def GrantUnitesUptoSaid : Prop := grantUnitesUptoRow.holds Try.pinned (OpenSpec.upto grantUnitesSpec)

/-- 'louvrelaw21.GrantLives', WHERE WHAT IT READS IS OF BULK AT MOST 1048576: true; the input reads as it did. -/
def grantLivesUptoRow : OpenClaim := { program := "ytfacimebfdeaeaa", sum := "e05bb3d8f4a5bce82fedf54bb5e968571c77fbd850092bd2f3137d72086eda12", func := "louvre/louvrelaw21.GrantLives", spec := "grantLives", unfollowed := true, recurses := true, apart := false, narrowed := true }
def GrantLivesUptoSaid : Prop := grantLivesUptoRow.holds Try.pinned (OpenSpec.upto grantLivesSpec)

/-- 'louvrelaw21.GrantExamples', WHERE WHAT IT READS IS OF BULK AT MOST 1048576: true; the input reads as it did. -/
def grantExamplesUptoRow : OpenClaim := { program := "ytfacimebfdeaeaa", sum := "e05bb3d8f4a5bce82fedf54bb5e968571c77fbd850092bd2f3137d72086eda12", func := "louvre/louvrelaw21.GrantExamples", spec := "grantExamples", unfollowed := true, recurses := true, apart := false, narrowed := true }
def GrantExamplesUptoSaid : Prop := grantExamplesUptoRow.holds Try.pinned (OpenSpec.upto grantExamplesSpec)

/-- 'louvrelaw21.GrantApart', WHERE WHAT IT READS IS OF BULK AT MOST 1048576: true; the input reads as it did. -/
def grantApartUptoRow : OpenClaim := { program := "ytfacimebfdeaeaa", sum := "e05bb3d8f4a5bce82fedf54bb5e968571c77fbd850092bd2f3137d72086eda12", func := "louvre/louvrelaw21.GrantApart", spec := "grantApart", unfollowed := true, recurses := true, apart := false, narrowed := true }
def GrantApartUptoSaid : Prop := grantApartUptoRow.holds Try.pinned (OpenSpec.upto grantApartSpec)

/-- 'louvrelaw30.AuditEvents', WHERE WHAT IT READS IS OF BULK AT MOST 1048576: true; the input reads as it did. -/
def auditEventsUptoRow : OpenClaim := { program := "ytfacimebfdeaeaa", sum := "e05bb3d8f4a5bce82fedf54bb5e968571c77fbd850092bd2f3137d72086eda12", func := "louvre/louvrelaw30.AuditEvents", spec := "auditEvents", unfollowed := true, recurses := true, apart := false, narrowed := true }
def AuditEventsUptoSaid : Prop := auditEventsUptoRow.holds Try.pinned (OpenSpec.upto auditEventsSpec)

/-- 'louvrelaw30.AuditOwners', WHERE WHAT IT READS IS OF BULK AT MOST 1048576: true; the input reads as it did. -/
def auditOwnersUptoRow : OpenClaim := { program := "ytfacimebfdeaeaa", sum := "e05bb3d8f4a5bce82fedf54bb5e968571c77fbd850092bd2f3137d72086eda12", func := "louvre/louvrelaw30.AuditOwners", spec := "auditOwners", unfollowed := true, recurses := true, apart := false, narrowed := true }
def AuditOwnersUptoSaid : Prop := auditOwnersUptoRow.holds Try.pinned (OpenSpec.upto auditOwnersSpec)

/-- 'louvrelaw30.AuditPrefix', WHERE WHAT IT READS IS OF BULK AT MOST 1048576: true; the input reads as it did. -/
def auditPrefixUptoRow : OpenClaim := { program := "ytfacimebfdeaeaa", sum := "e05bb3d8f4a5bce82fedf54bb5e968571c77fbd850092bd2f3137d72086eda12", func := "louvre/louvrelaw30.AuditPrefix", spec := "auditPrefix", unfollowed := true, recurses := true, apart := false, narrowed := true }
def AuditPrefixUptoSaid : Prop := auditPrefixUptoRow.holds Try.pinned (OpenSpec.upto auditPrefixSpec)

/-- 'louvrelaw30.AuditShows', WHERE WHAT IT READS IS OF BULK AT MOST 1048576: true; the input reads as it did. -/
def auditShowsUptoRow : OpenClaim := { program := "ytfacimebfdeaeaa", sum := "e05bb3d8f4a5bce82fedf54bb5e968571c77fbd850092bd2f3137d72086eda12", func := "louvre/louvrelaw30.AuditShows", spec := "auditShows", unfollowed := true, recurses := true, apart := false, narrowed := true }
def AuditShowsUptoSaid : Prop := auditShowsUptoRow.holds Try.pinned (OpenSpec.upto auditShowsSpec)

/-- 'louvrelaw30.AuditChecks', WHERE WHAT IT READS IS OF BULK AT MOST 1048576: true; the input reads as it did. -/
def auditChecksUptoRow : OpenClaim := { program := "ytfacimebfdeaeaa", sum := "e05bb3d8f4a5bce82fedf54bb5e968571c77fbd850092bd2f3137d72086eda12", func := "louvre/louvrelaw30.AuditChecks", spec := "auditChecks", unfollowed := true, recurses := true, apart := false, narrowed := true }
def AuditChecksUptoSaid : Prop := auditChecksUptoRow.holds Try.pinned (OpenSpec.upto auditChecksSpec)

/-- 'louvrelaw30.AuditExamples', WHERE WHAT IT READS IS OF BULK AT MOST 1048576: true; the input reads as it did. -/
def auditExamplesUptoRow : OpenClaim := { program := "ytfacimebfdeaeaa", sum := "e05bb3d8f4a5bce82fedf54bb5e968571c77fbd850092bd2f3137d72086eda12", func := "louvre/louvrelaw30.AuditExamples", spec := "auditExamples", unfollowed := true, recurses := true, apart := false, narrowed := true }
def AuditExamplesUptoSaid : Prop := auditExamplesUptoRow.holds Try.pinned (OpenSpec.upto auditExamplesSpec)

end Rows
end Go.Proofs.Ytfacimebfdeaeaa
