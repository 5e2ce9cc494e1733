/-
  No cell of these rows narrows 'for every input' (looked for: loops, veiled, ifaces, maps, wideKeys, modest, calm, conditions, laid).
  DERIVED. THE GIVEN ROWS OF THIS SEAT. 7 by the template 'for every input the law returns true; each argument reads behind the call as it read before'; 0 by the template 'total and deterministic' (their statements: YtgljklggeopolaaTotals.lean).
  GIVEN WITH THE SEED: the statements are not yours to turn. If you find one false, say at which input.
  Laid BY PROGRAM, IN A SANDBOX (cutbox-rows.mjs): the forced cells as the released guide's own fill.sh prints them over the translation 6048bf30b195e91a… (all of the seat's roots in one cut). By AI agents, Wed Nov 11 2026. No macro, syntax, notation, axiom, sorry.
-/
import Derived.Test.YtgljklggeopolaaChecked
import GoSem.Claim
import GoSem.ClaimJoined
import GoSem.ClaimMapViews
import Derived.JoinedTies
import Derived.KernelRfl
namespace Go.Proofs.Ytgljklggeopolaa
/- THE CELL 'sum', in the pinned program and in every row, IS THE sha256 OF THE DUMP (.gsa) THAT YtgljklggeopolaaProg.lean LOADS. Nothing in Lean hashes anything: it is a label: what it is worth is what the hold of that sum in a sandbox is worth. -/
noncomputable def Try.pinned : Pinned := { name := "ytgljklggeopolaa", sum := "6048bf30b195e91a229ccf8959eaade6c128a99c46bc8f71fd6878c42afb1348", checked := Try.checked }
namespace Rows
def none {H : Type} : Left H := { results := [], args := [] }

/-- 'louvrelaw20.RegionSplits': WHATEVER THE INPUT: true; the input reads as it did. -/
def regionSplitsSpec : ChangeSpec := { name := "regionSplits", fn := fun _ => fun
  | [d1, d2, d3, d4] => { results := [.lit (.bool true)], args := [d1, d2, d3, d4] }
  | _ => none }
def regionSplitsRow : OpenClaim := { program := "ytgljklggeopolaa", sum := "6048bf30b195e91a229ccf8959eaade6c128a99c46bc8f71fd6878c42afb1348", func := "louvre/louvrelaw20.RegionSplits", spec := "regionSplits", unfollowed := true, recurses := true, apart := false }
def RegionSplitsSaid : Prop := regionSplitsRow.holds Try.pinned (OpenSpec.ofChange regionSplitsSpec)

/-- ITS FALSE NEIGHBOUR: 'it returns false'. Refute it at one input. -/
def regionSplitsWrong : ChangeSpec := { name := "regionSplits", fn := fun _ => fun
  | [d1, d2, d3, d4] => { results := [.lit (.bool false)], args := [d1, d2, d3, d4] }
  | _ => none }
def RegionSplitsWrongFalsely : Prop := regionSplitsRow.holds Try.pinned (OpenSpec.ofChange regionSplitsWrong)

/-- 'louvrelaw20.RegionApart': WHATEVER THE INPUT: true; the input reads as it did. -/
def regionApartSpec : ChangeSpec := { name := "regionApart", fn := fun _ => fun
  | [d1, d2, d3] => { results := [.lit (.bool true)], args := [d1, d2, d3] }
  | _ => none }
def regionApartRow : OpenClaim := { program := "ytgljklggeopolaa", sum := "6048bf30b195e91a229ccf8959eaade6c128a99c46bc8f71fd6878c42afb1348", func := "louvre/louvrelaw20.RegionApart", spec := "regionApart", unfollowed := true, recurses := true, apart := false }
def RegionApartSaid : Prop := regionApartRow.holds Try.pinned (OpenSpec.ofChange regionApartSpec)

/-- ITS FALSE NEIGHBOUR: 'it returns false'. Refute it at one input. -/
def regionApartWrong : ChangeSpec := { name := "regionApart", fn := fun _ => fun
  | [d1, d2, d3] => { results := [.lit (.bool false)], args := [d1, d2, d3] }
  | _ => none }
def RegionApartWrongFalsely : Prop := regionApartRow.holds Try.pinned (OpenSpec.ofChange regionApartWrong)

/-- 'louvrelaw20.RegionParts': WHATEVER THE INPUT: true; the input reads as it did. -/
def regionPartsSpec : ChangeSpec := { name := "regionParts", fn := fun _ => fun
  | [d1, d2] => { results := [.lit (.bool true)], args := [d1, d2] }
  | _ => none }
def regionPartsRow : OpenClaim := { program := "ytgljklggeopolaa", sum := "6048bf30b195e91a229ccf8959eaade6c128a99c46bc8f71fd6878c42afb1348", func := "louvre/louvrelaw20.RegionParts", spec := "regionParts", unfollowed := true, recurses := true, apart := false }
def RegionPartsSaid : Prop := regionPartsRow.holds Try.pinned (OpenSpec.ofChange regionPartsSpec)

/-- ITS FALSE NEIGHBOUR: 'it returns false'. Refute it at one input. -/
def regionPartsWrong : ChangeSpec := { name := "regionParts", fn := fun _ => fun
  | [d1, d2] => { results := [.lit (.bool false)], args := [d1, d2] }
  | _ => none }
def RegionPartsWrongFalsely : Prop := regionPartsRow.holds Try.pinned (OpenSpec.ofChange regionPartsWrong)

/-- 'louvrelaw20.RegionOver': WHATEVER THE INPUT: true; the input reads as it did. -/
def regionOverSpec : ChangeSpec := { name := "regionOver", fn := fun _ => fun
  | [d1, d2, d3] => { results := [.lit (.bool true)], args := [d1, d2, d3] }
  | _ => none }
def regionOverRow : OpenClaim := { program := "ytgljklggeopolaa", sum := "6048bf30b195e91a229ccf8959eaade6c128a99c46bc8f71fd6878c42afb1348", func := "louvre/louvrelaw20.RegionOver", spec := "regionOver", unfollowed := true, recurses := true, apart := false }
def RegionOverSaid : Prop := regionOverRow.holds Try.pinned (OpenSpec.ofChange regionOverSpec)

/-- ITS FALSE NEIGHBOUR: 'it returns false'. Refute it at one input. -/
def regionOverWrong : ChangeSpec := { name := "regionOver", fn := fun _ => fun
  | [d1, d2, d3] => { results := [.lit (.bool false)], args := [d1, d2, d3] }
  | _ => none }
def RegionOverWrongFalsely : Prop := regionOverRow.holds Try.pinned (OpenSpec.ofChange regionOverWrong)

/-- 'louvrelaw20.RegionDiffers': WHATEVER THE INPUT: true; the input reads as it did. -/
def regionDiffersSpec : ChangeSpec := { name := "regionDiffers", fn := fun _ => fun
  | [d1, d2, d3] => { results := [.lit (.bool true)], args := [d1, d2, d3] }
  | _ => none }
def regionDiffersRow : OpenClaim := { program := "ytgljklggeopolaa", sum := "6048bf30b195e91a229ccf8959eaade6c128a99c46bc8f71fd6878c42afb1348", func := "louvre/louvrelaw20.RegionDiffers", spec := "regionDiffers", unfollowed := true, recurses := true, apart := false }
def RegionDiffersSaid : Prop := regionDiffersRow.holds Try.pinned (OpenSpec.ofChange regionDiffersSpec)

/-- ITS FALSE NEIGHBOUR: 'it returns false'. Refute it at one input. -/
def regionDiffersWrong : ChangeSpec := { name := "regionDiffers", fn := fun _ => fun
  | [d1, d2, d3] => { results := [.lit (.bool false)], args := [d1, d2, d3] }
  | _ => none }
def RegionDiffersWrongFalsely : Prop := regionDiffersRow.holds Try.pinned (OpenSpec.ofChange regionDiffersWrong)

/-- 'louvrelaw20.RegionEvery': WHATEVER THE INPUT: true; the input reads as it did. -/
def regionEverySpec : ChangeSpec := { name := "regionEvery", fn := fun _ => fun
  | [d1, d2] => { results := [.lit (.bool true)], args := [d1, d2] }
  | _ => none }
def regionEveryRow : OpenClaim := { program := "ytgljklggeopolaa", sum := "6048bf30b195e91a229ccf8959eaade6c128a99c46bc8f71fd6878c42afb1348", func := "louvre/louvrelaw20.RegionEvery", spec := "regionEvery", unfollowed := true, recurses := true, apart := false }
def RegionEverySaid : Prop := regionEveryRow.holds Try.pinned (OpenSpec.ofChange regionEverySpec)

/-- ITS FALSE NEIGHBOUR: 'it returns false'. Refute it at one input. -/
def regionEveryWrong : ChangeSpec := { name := "regionEvery", fn := fun _ => fun
  | [d1, d2] => { results := [.lit (.bool false)], args := [d1, d2] }
  | _ => none }
def RegionEveryWrongFalsely : Prop := regionEveryRow.holds Try.pinned (OpenSpec.ofChange regionEveryWrong)

/-- 'louvrelaw20.RegionExamples': WHATEVER THE INPUT: true; the input reads as it did. -/
def regionExamplesSpec : ChangeSpec := { name := "regionExamples", fn := fun _ => fun
  | [] => { results := [.lit (.bool true)], args := [] }
  | _ => none }
def regionExamplesRow : OpenClaim := { program := "ytgljklggeopolaa", sum := "6048bf30b195e91a229ccf8959eaade6c128a99c46bc8f71fd6878c42afb1348", func := "louvre/louvrelaw20.RegionExamples", spec := "regionExamples", unfollowed := true, recurses := true, apart := false }
def RegionExamplesSaid : Prop := regionExamplesRow.holds Try.pinned (OpenSpec.ofChange regionExamplesSpec)

/-- ITS FALSE NEIGHBOUR: 'it returns false'. Refute it at one input. -/
def regionExamplesWrong : ChangeSpec := { name := "regionExamples", fn := fun _ => fun
  | [] => { results := [.lit (.bool false)], args := [] }
  | _ => none }
def RegionExamplesWrongFalsely : Prop := regionExamplesRow.holds Try.pinned (OpenSpec.ofChange regionExamplesWrong)

/- THE SECOND FORM. 'bulk': how many values and letters a reading holds, each counted each time it is reached (what is shared counts as often as it is met; a slice's spare places count too). A statement '..UptoSaid' is the law's where the arguments, and the package variables that the reading takes, are together of bulk at most 1048576: NARROWER than '..Said'. Prove '..Said' where nothing that the law and all that it calls make is longer than what came in: it says more and counts as full. Else prove '..UptoSaid'. A law counts once. -/
mutual
def uptoBulk {H : Type} : DataW H → Nat
  | .lit (.string bytes) => bytes.length + 1
  | .lit _ => 1
  | .nil => 1
  | .ptr d => uptoBulk d + 1
  | .slice elems spare => uptoBulkAll elems + uptoBulkAll spare + 1
  | .agg parts => uptoBulkAll parts + 1
  | .iface _ d => uptoBulk d + 1
  | .map entries => uptoBulkEntries entries + 1
  | .held _ => 1
def uptoBulkAll {H : Type} : List (DataW H) → Nat
  | [] => 0
  | d :: r => uptoBulk d + uptoBulkAll r
def uptoBulkEntries {H : Type} : List (Lit × DataW H) → Nat
  | [] => 0
  | x :: r => uptoBulkEntry x + uptoBulkEntries r
def uptoBulkEntry {H : Type} : Lit × DataW H → Nat
  | (.string bytes, d) => bytes.length + uptoBulk d + 1
  | (_, d) => uptoBulk d + 1
 end
def uptoSmall : (H : Type) → List (DataW H) → Bool := fun _ ds => decide (uptoBulkAll ds ≤ 1048576)
def OpenSpec.upto (s : _root_.Go.ChangeSpec) : _root_.Go.OpenSpec := { _root_.Go.OpenSpec.ofChange s with cond := some uptoSmall }

/-- 'louvrelaw20.RegionSplits', WHERE WHAT IT READS IS OF BULK AT MOST 1048576: true; the input reads as it did. -/
def regionSplitsUptoRow : OpenClaim := { program := "ytgljklggeopolaa", sum := "6048bf30b195e91a229ccf8959eaade6c128a99c46bc8f71fd6878c42afb1348", func := "louvre/louvrelaw20.RegionSplits", spec := "regionSplits", unfollowed := true, recurses := true, apart := false, narrowed := true }
def RegionSplitsUptoSaid : Prop := regionSplitsUptoRow.holds Try.pinned (OpenSpec.upto regionSplitsSpec)

/-- 'louvrelaw20.RegionApart', WHERE WHAT IT READS IS OF BULK AT MOST 1048576: true; the input reads as it did. -/
def regionApartUptoRow : OpenClaim := { program := "ytgljklggeopolaa", sum := "6048bf30b195e91a229ccf8959eaade6c128a99c46bc8f71fd6878c42afb1348", func := "louvre/louvrelaw20.RegionApart", spec := "regionApart", unfollowed := true, recurses := true, apart := false, narrowed := true }
def RegionApartUptoSaid : Prop := regionApartUptoRow.holds Try.pinned (OpenSpec.upto regionApartSpec)

/-- 'louvrelaw20.RegionParts', WHERE WHAT IT READS IS OF BULK AT MOST 1048576: true; the input reads as it did. -/
def regionPartsUptoRow : OpenClaim := { program := "ytgljklggeopolaa", sum := "6048bf30b195e91a229ccf8959eaade6c128a99c46bc8f71fd6878c42afb1348", func := "louvre/louvrelaw20.RegionParts", spec := "regionParts", unfollowed := true, recurses := true, apart := false, narrowed := true }
def RegionPartsUptoSaid : Prop := regionPartsUptoRow.holds Try.pinned (OpenSpec.upto regionPartsSpec)

/-- 'louvrelaw20.RegionOver', WHERE WHAT IT READS IS OF BULK AT MOST 1048576: true; the input reads as it did. -/
def regionOverUptoRow : OpenClaim := { program := "ytgljklggeopolaa", sum := "6048bf30b195e91a229ccf8959eaade6c128a99c46bc8f71fd6878c42afb1348", func := "louvre/louvrelaw20.RegionOver", spec := "regionOver", unfollowed := true, recurses := true, apart := false, narrowed := true }
def RegionOverUptoSaid : Prop := regionOverUptoRow.holds Try.pinned (OpenSpec.upto regionOverSpec)

/-- 'louvrelaw20.RegionDiffers', WHERE WHAT IT READS IS OF BULK AT MOST 1048576: true; the input reads as it did. -/
def regionDiffersUptoRow : OpenClaim := { program := "ytgljklggeopolaa", sum := "6048bf30b195e91a229ccf8959eaade6c128a99c46bc8f71fd6878c42afb1348", func := "louvre/louvrelaw20.RegionDiffers", spec := "regionDiffers", unfollowed := true, recurses := true, apart := false, narrowed := true }
def RegionDiffersUptoSaid : Prop := regionDiffersUptoRow.holds Try.pinned (OpenSpec.upto regionDiffersSpec)

/-- 'louvrelaw20.RegionEvery', WHERE WHAT IT READS IS OF BULK AT MOST 1048576: true; the input reads as it did. -/
def regionEveryUptoRow : OpenClaim := { program := "ytgljklggeopolaa", sum := "6048bf30b195e91a229ccf8959eaade6c128a99c46bc8f71fd6878c42afb1348", func := "louvre/louvrelaw20.RegionEvery", spec := "regionEvery", unfollowed := true, recurses := true, apart := false, narrowed := true }
def RegionEveryUptoSaid : Prop := regionEveryUptoRow.holds Try.pinned (OpenSpec.upto regionEverySpec)

/-- 'louvrelaw20.RegionExamples', WHERE WHAT IT READS IS OF BULK AT MOST 1048576: true; the input reads as it did. -/
def regionExamplesUptoRow : OpenClaim := { program := "ytgljklggeopolaa", sum := "6048bf30b195e91a229ccf8959eaade6c128a99c46bc8f71fd6878c42afb1348", func := "louvre/louvrelaw20.RegionExamples", spec := "regionExamples", unfollowed := true, recurses := true, apart := false, narrowed := true }
def RegionExamplesUptoSaid : Prop := regionExamplesUptoRow.holds Try.pinned (OpenSpec.upto regionExamplesSpec)

end Rows
end Go.Proofs.Ytgljklggeopolaa
