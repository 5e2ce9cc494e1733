/-
  No cell of these rows narrows 'for every input' (looked for: loops, veiled, ifaces, maps, wideKeys, modest, calm, conditions, laid).
  DERIVED. THE GIVEN ROWS OF THIS SEAT. 6 by the template 'for every input the law returns true; each argument reads behind the call as it read before'; 0 by the template 'total and deterministic' (their statements: YtnpbnlmhmjejhaaTotals.lean).
  GIVEN WITH THE SEED: the statements are not yours to turn. If you find one false, say at which input.
  Laid BY PROGRAM, IN A SANDBOX (cutbox-rows.mjs): the forced cells as the released guide's own fill.sh prints them over the translation 78b40171cd99af6f… (all of the seat's roots in one cut). By AI agents, Wed Nov 11 2026. No macro, syntax, notation, axiom, sorry.
-/
import Derived.Test.YtnpbnlmhmjejhaaChecked
import GoSem.Claim
import GoSem.ClaimJoined
import GoSem.ClaimMapViews
import Derived.JoinedTies
import Derived.KernelRfl
namespace Go.Proofs.Ytnpbnlmhmjejhaa
/- THE CELL 'sum', in the pinned program and in every row, IS THE sha256 OF THE DUMP (.gsa) THAT YtnpbnlmhmjejhaaProg.lean LOADS. Nothing in Lean hashes anything: it is a label: what it is worth is what the hold of that sum in a sandbox is worth. -/
noncomputable def Try.pinned : Pinned := { name := "ytnpbnlmhmjejhaa", sum := "78b40171cd99af6fe7f37feb18e12a7b41758cba971f4fbef00dcc3c6dbeed10", checked := Try.checked }
namespace Rows
def none {H : Type} : Left H := { results := [], args := [] }

/-- 'louvrelaw06.SheetNew': WHATEVER THE INPUT: true; the input reads as it did. -/
def sheetNewSpec : ChangeSpec := { name := "sheetNew", fn := fun _ => fun
  | [d] => { results := [.lit (.bool true)], args := [d] }
  | _ => none }
def sheetNewRow : OpenClaim := { program := "ytnpbnlmhmjejhaa", sum := "78b40171cd99af6fe7f37feb18e12a7b41758cba971f4fbef00dcc3c6dbeed10", func := "louvre/louvrelaw06.SheetNew", spec := "sheetNew", unfollowed := true, recurses := true, plainKeys := false, apart := false }
def SheetNewSaid : Prop := sheetNewRow.holds Try.pinned (OpenSpec.ofChange sheetNewSpec)

/-- ITS FALSE NEIGHBOUR: 'it returns false'. Refute it at one input. -/
def sheetNewWrong : ChangeSpec := { name := "sheetNew", fn := fun _ => fun
  | [d] => { results := [.lit (.bool false)], args := [d] }
  | _ => none }
def SheetNewWrongFalsely : Prop := sheetNewRow.holds Try.pinned (OpenSpec.ofChange sheetNewWrong)

/-- 'louvrelaw06.SheetKeeps': WHATEVER THE INPUT: true; the input reads as it did. -/
def sheetKeepsSpec : ChangeSpec := { name := "sheetKeeps", fn := fun _ => fun
  | [d] => { results := [.lit (.bool true)], args := [d] }
  | _ => none }
def sheetKeepsRow : OpenClaim := { program := "ytnpbnlmhmjejhaa", sum := "78b40171cd99af6fe7f37feb18e12a7b41758cba971f4fbef00dcc3c6dbeed10", func := "louvre/louvrelaw06.SheetKeeps", spec := "sheetKeeps", unfollowed := true, recurses := true, plainKeys := false, apart := false }
def SheetKeepsSaid : Prop := sheetKeepsRow.holds Try.pinned (OpenSpec.ofChange sheetKeepsSpec)

/-- ITS FALSE NEIGHBOUR: 'it returns false'. Refute it at one input. -/
def sheetKeepsWrong : ChangeSpec := { name := "sheetKeeps", fn := fun _ => fun
  | [d] => { results := [.lit (.bool false)], args := [d] }
  | _ => none }
def SheetKeepsWrongFalsely : Prop := sheetKeepsRow.holds Try.pinned (OpenSpec.ofChange sheetKeepsWrong)

/-- 'louvrelaw06.SheetDoes': WHATEVER THE INPUT: true; the input reads as it did. -/
def sheetDoesSpec : ChangeSpec := { name := "sheetDoes", fn := fun _ => fun
  | [d1, d2] => { results := [.lit (.bool true)], args := [d1, d2] }
  | _ => none }
def sheetDoesRow : OpenClaim := { program := "ytnpbnlmhmjejhaa", sum := "78b40171cd99af6fe7f37feb18e12a7b41758cba971f4fbef00dcc3c6dbeed10", func := "louvre/louvrelaw06.SheetDoes", spec := "sheetDoes", unfollowed := true, recurses := true, plainKeys := false, apart := false }
def SheetDoesSaid : Prop := sheetDoesRow.holds Try.pinned (OpenSpec.ofChange sheetDoesSpec)

/-- ITS FALSE NEIGHBOUR: 'it returns false'. Refute it at one input. -/
def sheetDoesWrong : ChangeSpec := { name := "sheetDoes", fn := fun _ => fun
  | [d1, d2] => { results := [.lit (.bool false)], args := [d1, d2] }
  | _ => none }
def SheetDoesWrongFalsely : Prop := sheetDoesRow.holds Try.pinned (OpenSpec.ofChange sheetDoesWrong)

/-- 'louvrelaw06.SheetParts': WHATEVER THE INPUT: true; the input reads as it did. -/
def sheetPartsSpec : ChangeSpec := { name := "sheetParts", fn := fun _ => fun
  | [d1, d2] => { results := [.lit (.bool true)], args := [d1, d2] }
  | _ => none }
def sheetPartsRow : OpenClaim := { program := "ytnpbnlmhmjejhaa", sum := "78b40171cd99af6fe7f37feb18e12a7b41758cba971f4fbef00dcc3c6dbeed10", func := "louvre/louvrelaw06.SheetParts", spec := "sheetParts", unfollowed := true, recurses := true, plainKeys := false, apart := false }
def SheetPartsSaid : Prop := sheetPartsRow.holds Try.pinned (OpenSpec.ofChange sheetPartsSpec)

/-- ITS FALSE NEIGHBOUR: 'it returns false'. Refute it at one input. -/
def sheetPartsWrong : ChangeSpec := { name := "sheetParts", fn := fun _ => fun
  | [d1, d2] => { results := [.lit (.bool false)], args := [d1, d2] }
  | _ => none }
def SheetPartsWrongFalsely : Prop := sheetPartsRow.holds Try.pinned (OpenSpec.ofChange sheetPartsWrong)

/-- 'louvrelaw06.SheetSame': WHATEVER THE INPUT: true; the input reads as it did. -/
def sheetSameSpec : ChangeSpec := { name := "sheetSame", fn := fun _ => fun
  | [d1, d2, d3] => { results := [.lit (.bool true)], args := [d1, d2, d3] }
  | _ => none }
def sheetSameRow : OpenClaim := { program := "ytnpbnlmhmjejhaa", sum := "78b40171cd99af6fe7f37feb18e12a7b41758cba971f4fbef00dcc3c6dbeed10", func := "louvre/louvrelaw06.SheetSame", spec := "sheetSame", inPlace := ["maps.clone"], unfollowed := true, recurses := true, plainKeys := false, apart := false }
def SheetSameSaid : Prop := sheetSameRow.holds Try.pinned (OpenSpec.ofChange sheetSameSpec)

/-- ITS FALSE NEIGHBOUR: 'it returns false'. Refute it at one input. -/
def sheetSameWrong : ChangeSpec := { name := "sheetSame", fn := fun _ => fun
  | [d1, d2, d3] => { results := [.lit (.bool false)], args := [d1, d2, d3] }
  | _ => none }
def SheetSameWrongFalsely : Prop := sheetSameRow.holds Try.pinned (OpenSpec.ofChange sheetSameWrong)

/-- 'louvrelaw06.SheetExamples': WHATEVER THE INPUT: true; the input reads as it did. -/
def sheetExamplesSpec : ChangeSpec := { name := "sheetExamples", fn := fun _ => fun
  | [] => { results := [.lit (.bool true)], args := [] }
  | _ => none }
def sheetExamplesRow : OpenClaim := { program := "ytnpbnlmhmjejhaa", sum := "78b40171cd99af6fe7f37feb18e12a7b41758cba971f4fbef00dcc3c6dbeed10", func := "louvre/louvrelaw06.SheetExamples", spec := "sheetExamples", inPlace := ["maps.clone"], unfollowed := true, recurses := true, plainKeys := false, apart := false }
def SheetExamplesSaid : Prop := sheetExamplesRow.holds Try.pinned (OpenSpec.ofChange sheetExamplesSpec)

/-- ITS FALSE NEIGHBOUR: 'it returns false'. Refute it at one input. -/
def sheetExamplesWrong : ChangeSpec := { name := "sheetExamples", fn := fun _ => fun
  | [] => { results := [.lit (.bool false)], args := [] }
  | _ => none }
def SheetExamplesWrongFalsely : Prop := sheetExamplesRow.holds Try.pinned (OpenSpec.ofChange sheetExamplesWrong)

/- THE SECOND FORM. 'bulk': how many values and letters a reading holds, each counted each time it is reached (what is shared counts as often as it is met; a slice's spare places count too). A statement '..UptoSaid' is the law's where the arguments, and the package variables that the reading takes, are together of bulk at most 1048576: NARROWER than '..Said'. Prove '..Said' where nothing that the law and all that it calls make is longer than what came in: it says more and counts as full. Else prove '..UptoSaid'. A law counts once. -/
mutual
def uptoBulk {H : Type} : DataW H → Nat
  | .lit (.string bytes) => bytes.length + 1
  | .lit _ => 1
  | .nil => 1
  | .ptr d => uptoBulk d + 1
  | .slice elems spare => uptoBulkAll elems + uptoBulkAll spare + 1
  | .agg parts => uptoBulkAll parts + 1
  | .iface _ d => uptoBulk d + 1
  | .map entries => uptoBulkEntries entries + 1
  | .held _ => 1
def uptoBulkAll {H : Type} : List (DataW H) → Nat
  | [] => 0
  | d :: r => uptoBulk d + uptoBulkAll r
def uptoBulkEntries {H : Type} : List (Lit × DataW H) → Nat
  | [] => 0
  | x :: r => uptoBulkEntry x + uptoBulkEntries r
def uptoBulkEntry {H : Type} : Lit × DataW H → Nat
  | (.string bytes, d) => bytes.length + uptoBulk d + 1
  | (_, d) => uptoBulk d + 1
 end
def uptoSmall : (H : Type) → List (DataW H) → Bool := fun _ ds => decide (uptoBulkAll ds ≤ 1048576)
def OpenSpec.upto (s : _root_.Go.ChangeSpec) : _root_.Go.OpenSpec := { _root_.Go.OpenSpec.ofChange s with cond := some uptoSmall }

/-- 'louvrelaw06.SheetNew', WHERE WHAT IT READS IS OF BULK AT MOST 1048576: true; the input reads as it did. -/
def sheetNewUptoRow : OpenClaim := { program := "ytnpbnlmhmjejhaa", sum := "78b40171cd99af6fe7f37feb18e12a7b41758cba971f4fbef00dcc3c6dbeed10", func := "louvre/louvrelaw06.SheetNew", spec := "sheetNew", unfollowed := true, recurses := true, plainKeys := false, apart := false, narrowed := true }
def SheetNewUptoSaid : Prop := sheetNewUptoRow.holds Try.pinned (OpenSpec.upto sheetNewSpec)

/-- 'louvrelaw06.SheetKeeps', WHERE WHAT IT READS IS OF BULK AT MOST 1048576: true; the input reads as it did. -/
def sheetKeepsUptoRow : OpenClaim := { program := "ytnpbnlmhmjejhaa", sum := "78b40171cd99af6fe7f37feb18e12a7b41758cba971f4fbef00dcc3c6dbeed10", func := "louvre/louvrelaw06.SheetKeeps", spec := "sheetKeeps", unfollowed := true, recurses := true, plainKeys := false, apart := false, narrowed := true }
def SheetKeepsUptoSaid : Prop := sheetKeepsUptoRow.holds Try.pinned (OpenSpec.upto sheetKeepsSpec)

/-- 'louvrelaw06.SheetDoes', WHERE WHAT IT READS IS OF BULK AT MOST 1048576: true; the input reads as it did. -/
def sheetDoesUptoRow : OpenClaim := { program := "ytnpbnlmhmjejhaa", sum := "78b40171cd99af6fe7f37feb18e12a7b41758cba971f4fbef00dcc3c6dbeed10", func := "louvre/louvrelaw06.SheetDoes", spec := "sheetDoes", unfollowed := true, recurses := true, plainKeys := false, apart := false, narrowed := true }
def SheetDoesUptoSaid : Prop := sheetDoesUptoRow.holds Try.pinned (OpenSpec.upto sheetDoesSpec)

/-- 'louvrelaw06.SheetParts', WHERE WHAT IT READS IS OF BULK AT MOST 1048576: true; the input reads as it did. -/
def sheetPartsUptoRow : OpenClaim := { program := "ytnpbnlmhmjejhaa", sum := "78b40171cd99af6fe7f37feb18e12a7b41758cba971f4fbef00dcc3c6dbeed10", func := "louvre/louvrelaw06.SheetParts", spec := "sheetParts", unfollowed := true, recurses := true, plainKeys := false, apart := false, narrowed := true }
def SheetPartsUptoSaid : Prop := sheetPartsUptoRow.holds Try.pinned (OpenSpec.upto sheetPartsSpec)

/-- 'louvrelaw06.SheetSame', WHERE WHAT IT READS IS OF BULK AT MOST 1048576: true; the input reads as it did. -/
def sheetSameUptoRow : OpenClaim := { program := "ytnpbnlmhmjejhaa", sum := "78b40171cd99af6fe7f37feb18e12a7b41758cba971f4fbef00dcc3c6dbeed10", func := "louvre/louvrelaw06.SheetSame", spec := "sheetSame", inPlace := ["maps.clone"], unfollowed := true, recurses := true, plainKeys := false, apart := false, narrowed := true }
def SheetSameUptoSaid : Prop := sheetSameUptoRow.holds Try.pinned (OpenSpec.upto sheetSameSpec)

/-- 'louvrelaw06.SheetExamples', WHERE WHAT IT READS IS OF BULK AT MOST 1048576: true; the input reads as it did. -/
def sheetExamplesUptoRow : OpenClaim := { program := "ytnpbnlmhmjejhaa", sum := "78b40171cd99af6fe7f37feb18e12a7b41758cba971f4fbef00dcc3c6dbeed10", func := "louvre/louvrelaw06.SheetExamples", spec := "sheetExamples", inPlace := ["maps.clone"], unfollowed := true, recurses := true, plainKeys := false, apart := false, narrowed := true }
def SheetExamplesUptoSaid : Prop := sheetExamplesUptoRow.holds Try.pinned (OpenSpec.upto sheetExamplesSpec)

end Rows
end Go.Proofs.Ytnpbnlmhmjejhaa
