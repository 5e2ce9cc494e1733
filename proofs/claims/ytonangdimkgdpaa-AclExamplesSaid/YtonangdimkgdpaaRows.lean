/-
  No cell of these rows narrows 'for every input' (looked for: loops, veiled, ifaces, maps, wideKeys, modest, calm, conditions, laid).
  DERIVED. THE GIVEN ROWS OF THIS SEAT. 6 by the template 'for every input the law returns true; each argument reads behind the call as it read before'; 0 by the template 'total and deterministic' (their statements: YtonangdimkgdpaaTotals.lean).
  GIVEN WITH THE SEED: the statements are not yours to turn. If you find one false, say at which input.
  Laid BY PROGRAM, IN A SANDBOX (cutbox-rows.mjs): the forced cells as the released guide's own fill.sh prints them over the translation a47fa60a18a007b0… (all of the seat's roots in one cut). By AI agents, Wed Nov 11 2026. No macro, syntax, notation, axiom, sorry.
-/
import Derived.Test.YtonangdimkgdpaaChecked
import GoSem.Claim
import GoSem.ClaimJoined
import GoSem.ClaimMapViews
import Derived.JoinedTies
import Derived.KernelRfl
namespace Go.Proofs.Ytonangdimkgdpaa
/- THE CELL 'sum', in the pinned program and in every row, IS THE sha256 OF THE DUMP (.gsa) THAT YtonangdimkgdpaaProg.lean LOADS. Nothing in Lean hashes anything: it is a label: what it is worth is what the hold of that sum in a sandbox is worth. -/
noncomputable def Try.pinned : Pinned := { name := "ytonangdimkgdpaa", sum := "a47fa60a18a007b079d5cf62e8763119f60170d7cb02cd086314db7f19464119", checked := Try.checked }
namespace Rows
def none {H : Type} : Left H := { results := [], args := [] }

/-- 'louvrelaw19.AclWhich': WHATEVER THE INPUT: true; the input reads as it did. -/
def aclWhichSpec : ChangeSpec := { name := "aclWhich", fn := fun _ => fun
  | [d1, d2, d3] => { results := [.lit (.bool true)], args := [d1, d2, d3] }
  | _ => none }
def aclWhichRow : OpenClaim := { program := "ytonangdimkgdpaa", sum := "a47fa60a18a007b079d5cf62e8763119f60170d7cb02cd086314db7f19464119", func := "louvre/louvrelaw19.AclWhich", spec := "aclWhich", apart := false }
def AclWhichSaid : Prop := aclWhichRow.holds Try.pinned (OpenSpec.ofChange aclWhichSpec)

/-- ITS FALSE NEIGHBOUR: 'it returns false'. Refute it at one input. -/
def aclWhichWrong : ChangeSpec := { name := "aclWhich", fn := fun _ => fun
  | [d1, d2, d3] => { results := [.lit (.bool false)], args := [d1, d2, d3] }
  | _ => none }
def AclWhichWrongFalsely : Prop := aclWhichRow.holds Try.pinned (OpenSpec.ofChange aclWhichWrong)

/-- 'louvrelaw19.AclMatches': WHATEVER THE INPUT: true; the input reads as it did. -/
def aclMatchesSpec : ChangeSpec := { name := "aclMatches", fn := fun _ => fun
  | [d1, d2, d3] => { results := [.lit (.bool true)], args := [d1, d2, d3] }
  | _ => none }
def aclMatchesRow : OpenClaim := { program := "ytonangdimkgdpaa", sum := "a47fa60a18a007b079d5cf62e8763119f60170d7cb02cd086314db7f19464119", func := "louvre/louvrelaw19.AclMatches", spec := "aclMatches", apart := false }
def AclMatchesSaid : Prop := aclMatchesRow.holds Try.pinned (OpenSpec.ofChange aclMatchesSpec)

/-- ITS FALSE NEIGHBOUR: 'it returns false'. Refute it at one input. -/
def aclMatchesWrong : ChangeSpec := { name := "aclMatches", fn := fun _ => fun
  | [d1, d2, d3] => { results := [.lit (.bool false)], args := [d1, d2, d3] }
  | _ => none }
def AclMatchesWrongFalsely : Prop := aclMatchesRow.holds Try.pinned (OpenSpec.ofChange aclMatchesWrong)

/-- 'louvrelaw19.AclLast': WHATEVER THE INPUT: true; the input reads as it did. -/
def aclLastSpec : ChangeSpec := { name := "aclLast", fn := fun _ => fun
  | [d1, d2, d3, d4] => { results := [.lit (.bool true)], args := [d1, d2, d3, d4] }
  | _ => none }
def aclLastRow : OpenClaim := { program := "ytonangdimkgdpaa", sum := "a47fa60a18a007b079d5cf62e8763119f60170d7cb02cd086314db7f19464119", func := "louvre/louvrelaw19.AclLast", spec := "aclLast", apart := false }
def AclLastSaid : Prop := aclLastRow.holds Try.pinned (OpenSpec.ofChange aclLastSpec)

/-- ITS FALSE NEIGHBOUR: 'it returns false'. Refute it at one input. -/
def aclLastWrong : ChangeSpec := { name := "aclLast", fn := fun _ => fun
  | [d1, d2, d3, d4] => { results := [.lit (.bool false)], args := [d1, d2, d3, d4] }
  | _ => none }
def AclLastWrongFalsely : Prop := aclLastRow.holds Try.pinned (OpenSpec.ofChange aclLastWrong)

/-- 'louvrelaw19.AclPlain': WHATEVER THE INPUT: true; the input reads as it did. -/
def aclPlainSpec : ChangeSpec := { name := "aclPlain", fn := fun _ => fun
  | [d] => { results := [.lit (.bool true)], args := [d] }
  | _ => none }
def aclPlainRow : OpenClaim := { program := "ytonangdimkgdpaa", sum := "a47fa60a18a007b079d5cf62e8763119f60170d7cb02cd086314db7f19464119", func := "louvre/louvrelaw19.AclPlain", spec := "aclPlain", apart := false }
def AclPlainSaid : Prop := aclPlainRow.holds Try.pinned (OpenSpec.ofChange aclPlainSpec)

/-- ITS FALSE NEIGHBOUR: 'it returns false'. Refute it at one input. -/
def aclPlainWrong : ChangeSpec := { name := "aclPlain", fn := fun _ => fun
  | [d] => { results := [.lit (.bool false)], args := [d] }
  | _ => none }
def AclPlainWrongFalsely : Prop := aclPlainRow.holds Try.pinned (OpenSpec.ofChange aclPlainWrong)

/-- 'louvrelaw19.AclExamples': WHATEVER THE INPUT: true; the input reads as it did. -/
def aclExamplesSpec : ChangeSpec := { name := "aclExamples", fn := fun _ => fun
  | [] => { results := [.lit (.bool true)], args := [] }
  | _ => none }
def aclExamplesRow : OpenClaim := { program := "ytonangdimkgdpaa", sum := "a47fa60a18a007b079d5cf62e8763119f60170d7cb02cd086314db7f19464119", func := "louvre/louvrelaw19.AclExamples", spec := "aclExamples", apart := false }
def AclExamplesSaid : Prop := aclExamplesRow.holds Try.pinned (OpenSpec.ofChange aclExamplesSpec)

/-- ITS FALSE NEIGHBOUR: 'it returns false'. Refute it at one input. -/
def aclExamplesWrong : ChangeSpec := { name := "aclExamples", fn := fun _ => fun
  | [] => { results := [.lit (.bool false)], args := [] }
  | _ => none }
def AclExamplesWrongFalsely : Prop := aclExamplesRow.holds Try.pinned (OpenSpec.ofChange aclExamplesWrong)

/-- 'louvrelaw19.AclSpends': WHATEVER THE INPUT: true; the input reads as it did. -/
def aclSpendsSpec : ChangeSpec := { name := "aclSpends", fn := fun _ => fun
  | [d1, d2, d3] => { results := [.lit (.bool true)], args := [d1, d2, d3] }
  | _ => none }
def aclSpendsRow : OpenClaim := { program := "ytonangdimkgdpaa", sum := "a47fa60a18a007b079d5cf62e8763119f60170d7cb02cd086314db7f19464119", func := "louvre/louvrelaw19.AclSpends", spec := "aclSpends", apart := false }
def AclSpendsSaid : Prop := aclSpendsRow.holds Try.pinned (OpenSpec.ofChange aclSpendsSpec)

/-- ITS FALSE NEIGHBOUR: 'it returns false'. Refute it at one input. -/
def aclSpendsWrong : ChangeSpec := { name := "aclSpends", fn := fun _ => fun
  | [d1, d2, d3] => { results := [.lit (.bool false)], args := [d1, d2, d3] }
  | _ => none }
def AclSpendsWrongFalsely : Prop := aclSpendsRow.holds Try.pinned (OpenSpec.ofChange aclSpendsWrong)

/- THE SECOND FORM. 'bulk': how many values and letters a reading holds, each counted each time it is reached (what is shared counts as often as it is met; a slice's spare places count too). A statement '..UptoSaid' is the law's where the arguments, and the package variables that the reading takes, are together of bulk at most 1048576: NARROWER than '..Said'. Prove '..Said' where nothing that the law and all that it calls make is longer than what came in: it says more and counts as full. Else prove '..UptoSaid'. A law counts once. -/
mutual
def uptoBulk {H : Type} : DataW H → Nat
  | .lit (.string bytes) => bytes.length + 1
  | .lit _ => 1
  | .nil => 1
  | .ptr d => uptoBulk d + 1
  | .slice elems spare => uptoBulkAll elems + uptoBulkAll spare + 1
  | .agg parts => uptoBulkAll parts + 1
  | .iface _ d => uptoBulk d + 1
  | .map entries => uptoBulkEntries entries + 1
  | .held _ => 1
def uptoBulkAll {H : Type} : List (DataW H) → Nat
  | [] => 0
  | d :: r => uptoBulk d + uptoBulkAll r
def uptoBulkEntries {H : Type} : List (Lit × DataW H) → Nat
  | [] => 0
  | x :: r => uptoBulkEntry x + uptoBulkEntries r
def uptoBulkEntry {H : Type} : Lit × DataW H → Nat
  | (.string bytes, d) => bytes.length + uptoBulk d + 1
  | (_, d) => uptoBulk d + 1
 end
def uptoSmall : (H : Type) → List (DataW H) → Bool := fun _ ds => decide (uptoBulkAll ds ≤ 1048576)
def OpenSpec.upto (s : _root_.Go.ChangeSpec) : _root_.Go.OpenSpec := { _root_.Go.OpenSpec.ofChange s with cond := some uptoSmall }

/-- 'louvrelaw19.AclWhich', WHERE WHAT IT READS IS OF BULK AT MOST 1048576: true; the input reads as it did. -/
def aclWhichUptoRow : OpenClaim := { program := "ytonangdimkgdpaa", sum := "a47fa60a18a007b079d5cf62e8763119f60170d7cb02cd086314db7f19464119", func := "louvre/louvrelaw19.AclWhich", spec := "aclWhich", apart := false, narrowed := true }
def AclWhichUptoSaid : Prop := aclWhichUptoRow.holds Try.pinned (OpenSpec.upto aclWhichSpec)

/-- 'louvrelaw19.AclMatches', WHERE WHAT IT READS IS OF BULK AT MOST 1048576: true; the input reads as it did. -/
def aclMatchesUptoRow : OpenClaim := { program := "ytonangdimkgdpaa", sum := "a47fa60a18a007b079d5cf62e8763119f60170d7cb02cd086314db7f19464119", func := "louvre/louvrelaw19.AclMatches", spec := "aclMatches", apart := false, narrowed := true }
def AclMatchesUptoSaid : Prop := aclMatchesUptoRow.holds Try.pinned (OpenSpec.upto aclMatchesSpec)

/-- 'louvrelaw19.AclLast', WHERE WHAT IT READS IS OF BULK AT MOST 1048576: true; the input reads as it did. -/
def aclLastUptoRow : OpenClaim := { program := "ytonangdimkgdpaa", sum := "a47fa60a18a007b079d5cf62e8763119f60170d7cb02cd086314db7f19464119", func := "louvre/louvrelaw19.AclLast", spec := "aclLast", apart := false, narrowed := true }
def AclLastUptoSaid : Prop := aclLastUptoRow.holds Try.pinned (OpenSpec.upto aclLastSpec)

/-- 'louvrelaw19.AclPlain', WHERE WHAT IT READS IS OF BULK AT MOST 1048576: true; the input reads as it did. -/
def aclPlainUptoRow : OpenClaim := { program := "ytonangdimkgdpaa", sum := "a47fa60a18a007b079d5cf62e8763119f60170d7cb02cd086314db7f19464119", func := "louvre/louvrelaw19.AclPlain", spec := "aclPlain", apart := false, narrowed := true }
def AclPlainUptoSaid : Prop := aclPlainUptoRow.holds Try.pinned (OpenSpec.upto aclPlainSpec)

/-- 'louvrelaw19.AclExamples', WHERE WHAT IT READS IS OF BULK AT MOST 1048576: true; the input reads as it did. -/
def aclExamplesUptoRow : OpenClaim := { program := "ytonangdimkgdpaa", sum := "a47fa60a18a007b079d5cf62e8763119f60170d7cb02cd086314db7f19464119", func := "louvre/louvrelaw19.AclExamples", spec := "aclExamples", apart := false, narrowed := true }
def AclExamplesUptoSaid : Prop := aclExamplesUptoRow.holds Try.pinned (OpenSpec.upto aclExamplesSpec)

/-- 'louvrelaw19.AclSpends', WHERE WHAT IT READS IS OF BULK AT MOST 1048576: true; the input reads as it did. -/
def aclSpendsUptoRow : OpenClaim := { program := "ytonangdimkgdpaa", sum := "a47fa60a18a007b079d5cf62e8763119f60170d7cb02cd086314db7f19464119", func := "louvre/louvrelaw19.AclSpends", spec := "aclSpends", apart := false, narrowed := true }
def AclSpendsUptoSaid : Prop := aclSpendsUptoRow.holds Try.pinned (OpenSpec.upto aclSpendsSpec)

end Rows
end Go.Proofs.Ytonangdimkgdpaa
