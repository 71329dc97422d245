/-
  No cell of these rows narrows 'for every input' (looked for: loops, veiled, ifaces, maps, wideKeys, modest, calm, conditions, laid).
  DERIVED. THE GIVEN ROWS OF THIS SEAT. 10 by the template 'for every input the law returns true; each argument reads behind the call as it read before'; 0 by the template 'total and deterministic' (their statements: YtfemohapampkiaaTotals.lean).
  GIVEN WITH THE SEED: the statements are not yours to turn. If you find one false, say at which input.
  Laid BY PROGRAM, IN A SANDBOX (cutbox-rows.mjs): the forced cells as the released guide's own fill.sh prints them over the translation 1a503308fac69453… (all of the seat's roots in one cut). By AI agents, Wed Nov 11 2026. No macro, syntax, notation, axiom, sorry.
-/
import Derived.Test.YtfemohapampkiaaChecked
import GoSem.Claim
import GoSem.ClaimJoined
import GoSem.ClaimMapViews
import Derived.JoinedTies
import Derived.KernelRfl
namespace Go.Proofs.Ytfemohapampkiaa
/- THE CELL 'sum', in the pinned program and in every row, IS THE sha256 OF THE DUMP (.gsa) THAT YtfemohapampkiaaProg.lean LOADS. Nothing in Lean hashes anything: it is a label: what it is worth is what the hold of that sum in a sandbox is worth. -/
noncomputable def Try.pinned : Pinned := { name := "ytfemohapampkiaa", sum := "1a503308fac69453447e2b87c038c4e883b7f2cbea61d70a7a1656fd533bcdcd", checked := Try.checked }
namespace Rows
def none {H : Type} : Left H := { results := [], args := [] }

/-- 'laws.FnExactDocOK': WHATEVER THE INPUT: true; the input reads as it did. -/
def fnExactDocOKSpec : ChangeSpec := { name := "fnExactDocOK", fn := fun _ => fun
  | [d] => { results := [.lit (.bool true)], args := [d] }
  | _ => none }
def fnExactDocOKRow : OpenClaim := { program := "ytfemohapampkiaa", sum := "1a503308fac69453447e2b87c038c4e883b7f2cbea61d70a7a1656fd533bcdcd", func := "loop.example/g00701/laws.FnExactDocOK", spec := "fnExactDocOK", unfollowed := true, recurses := true, apart := false }
def FnExactDocOKSaid : Prop := fnExactDocOKRow.holds Try.pinned (OpenSpec.ofChange fnExactDocOKSpec)

/-- ITS FALSE NEIGHBOUR: 'it returns false'. Refute it at one input. -/
def fnExactDocOKWrong : ChangeSpec := { name := "fnExactDocOK", fn := fun _ => fun
  | [d] => { results := [.lit (.bool false)], args := [d] }
  | _ => none }
def FnExactDocOKWrongFalsely : Prop := fnExactDocOKRow.holds Try.pinned (OpenSpec.ofChange fnExactDocOKWrong)

/-- 'laws.FnExactSameDoc': WHATEVER THE INPUT: true; the input reads as it did. -/
def fnExactSameDocSpec : ChangeSpec := { name := "fnExactSameDoc", fn := fun _ => fun
  | [d1, d2] => { results := [.lit (.bool true)], args := [d1, d2] }
  | _ => none }
def fnExactSameDocRow : OpenClaim := { program := "ytfemohapampkiaa", sum := "1a503308fac69453447e2b87c038c4e883b7f2cbea61d70a7a1656fd533bcdcd", func := "loop.example/g00701/laws.FnExactSameDoc", spec := "fnExactSameDoc", unfollowed := true, recurses := true, apart := false }
def FnExactSameDocSaid : Prop := fnExactSameDocRow.holds Try.pinned (OpenSpec.ofChange fnExactSameDocSpec)

/-- ITS FALSE NEIGHBOUR: 'it returns false'. Refute it at one input. -/
def fnExactSameDocWrong : ChangeSpec := { name := "fnExactSameDoc", fn := fun _ => fun
  | [d1, d2] => { results := [.lit (.bool false)], args := [d1, d2] }
  | _ => none }
def FnExactSameDocWrongFalsely : Prop := fnExactSameDocRow.holds Try.pinned (OpenSpec.ofChange fnExactSameDocWrong)

/-- 'laws.FnExactKidsOf': WHATEVER THE INPUT: true; the input reads as it did. -/
def fnExactKidsOfSpec : ChangeSpec := { name := "fnExactKidsOf", fn := fun _ => fun
  | [d1, d2] => { results := [.lit (.bool true)], args := [d1, d2] }
  | _ => none }
def fnExactKidsOfRow : OpenClaim := { program := "ytfemohapampkiaa", sum := "1a503308fac69453447e2b87c038c4e883b7f2cbea61d70a7a1656fd533bcdcd", func := "loop.example/g00701/laws.FnExactKidsOf", spec := "fnExactKidsOf", unfollowed := true, recurses := true, apart := false }
def FnExactKidsOfSaid : Prop := fnExactKidsOfRow.holds Try.pinned (OpenSpec.ofChange fnExactKidsOfSpec)

/-- ITS FALSE NEIGHBOUR: 'it returns false'. Refute it at one input. -/
def fnExactKidsOfWrong : ChangeSpec := { name := "fnExactKidsOf", fn := fun _ => fun
  | [d1, d2] => { results := [.lit (.bool false)], args := [d1, d2] }
  | _ => none }
def FnExactKidsOfWrongFalsely : Prop := fnExactKidsOfRow.holds Try.pinned (OpenSpec.ofChange fnExactKidsOfWrong)

/-- 'laws.FnExactCopySub': WHATEVER THE INPUT: true; the input reads as it did. -/
def fnExactCopySubSpec : ChangeSpec := { name := "fnExactCopySub", fn := fun _ => fun
  | [d1, d2] => { results := [.lit (.bool true)], args := [d1, d2] }
  | _ => none }
def fnExactCopySubRow : OpenClaim := { program := "ytfemohapampkiaa", sum := "1a503308fac69453447e2b87c038c4e883b7f2cbea61d70a7a1656fd533bcdcd", func := "loop.example/g00701/laws.FnExactCopySub", spec := "fnExactCopySub", unfollowed := true, recurses := true, apart := false }
def FnExactCopySubSaid : Prop := fnExactCopySubRow.holds Try.pinned (OpenSpec.ofChange fnExactCopySubSpec)

/-- ITS FALSE NEIGHBOUR: 'it returns false'. Refute it at one input. -/
def fnExactCopySubWrong : ChangeSpec := { name := "fnExactCopySub", fn := fun _ => fun
  | [d1, d2] => { results := [.lit (.bool false)], args := [d1, d2] }
  | _ => none }
def FnExactCopySubWrongFalsely : Prop := fnExactCopySubRow.holds Try.pinned (OpenSpec.ofChange fnExactCopySubWrong)

/-- 'laws.FnExactHoldsOK': WHATEVER THE INPUT: true; the input reads as it did. -/
def fnExactHoldsOKSpec : ChangeSpec := { name := "fnExactHoldsOK", fn := fun _ => fun
  | [d1, d2] => { results := [.lit (.bool true)], args := [d1, d2] }
  | _ => none }
def fnExactHoldsOKRow : OpenClaim := { program := "ytfemohapampkiaa", sum := "1a503308fac69453447e2b87c038c4e883b7f2cbea61d70a7a1656fd533bcdcd", func := "loop.example/g00701/laws.FnExactHoldsOK", spec := "fnExactHoldsOK", unfollowed := true, recurses := true, apart := false }
def FnExactHoldsOKSaid : Prop := fnExactHoldsOKRow.holds Try.pinned (OpenSpec.ofChange fnExactHoldsOKSpec)

/-- ITS FALSE NEIGHBOUR: 'it returns false'. Refute it at one input. -/
def fnExactHoldsOKWrong : ChangeSpec := { name := "fnExactHoldsOK", fn := fun _ => fun
  | [d1, d2] => { results := [.lit (.bool false)], args := [d1, d2] }
  | _ => none }
def FnExactHoldsOKWrongFalsely : Prop := fnExactHoldsOKRow.holds Try.pinned (OpenSpec.ofChange fnExactHoldsOKWrong)

/-- 'laws.FnExactMatchKids': WHATEVER THE INPUT: true; the input reads as it did. -/
def fnExactMatchKidsSpec : ChangeSpec := { name := "fnExactMatchKids", fn := fun _ => fun
  | [d1, d2] => { results := [.lit (.bool true)], args := [d1, d2] }
  | _ => none }
def fnExactMatchKidsRow : OpenClaim := { program := "ytfemohapampkiaa", sum := "1a503308fac69453447e2b87c038c4e883b7f2cbea61d70a7a1656fd533bcdcd", func := "loop.example/g00701/laws.FnExactMatchKids", spec := "fnExactMatchKids", unfollowed := true, recurses := true, apart := false }
def FnExactMatchKidsSaid : Prop := fnExactMatchKidsRow.holds Try.pinned (OpenSpec.ofChange fnExactMatchKidsSpec)

/-- ITS FALSE NEIGHBOUR: 'it returns false'. Refute it at one input. -/
def fnExactMatchKidsWrong : ChangeSpec := { name := "fnExactMatchKids", fn := fun _ => fun
  | [d1, d2] => { results := [.lit (.bool false)], args := [d1, d2] }
  | _ => none }
def FnExactMatchKidsWrongFalsely : Prop := fnExactMatchKidsRow.holds Try.pinned (OpenSpec.ofChange fnExactMatchKidsWrong)

/-- 'laws.FnExactSchemaOK': WHATEVER THE INPUT: true; the input reads as it did. -/
def fnExactSchemaOKSpec : ChangeSpec := { name := "fnExactSchemaOK", fn := fun _ => fun
  | [d] => { results := [.lit (.bool true)], args := [d] }
  | _ => none }
def fnExactSchemaOKRow : OpenClaim := { program := "ytfemohapampkiaa", sum := "1a503308fac69453447e2b87c038c4e883b7f2cbea61d70a7a1656fd533bcdcd", func := "loop.example/g00701/laws.FnExactSchemaOK", spec := "fnExactSchemaOK", unfollowed := true, recurses := true, apart := false }
def FnExactSchemaOKSaid : Prop := fnExactSchemaOKRow.holds Try.pinned (OpenSpec.ofChange fnExactSchemaOKSpec)

/-- ITS FALSE NEIGHBOUR: 'it returns false'. Refute it at one input. -/
def fnExactSchemaOKWrong : ChangeSpec := { name := "fnExactSchemaOK", fn := fun _ => fun
  | [d] => { results := [.lit (.bool false)], args := [d] }
  | _ => none }
def FnExactSchemaOKWrongFalsely : Prop := fnExactSchemaOKRow.holds Try.pinned (OpenSpec.ofChange fnExactSchemaOKWrong)

/-- 'laws.FnExactCompileTerms': WHATEVER THE INPUT: true; the input reads as it did. -/
def fnExactCompileTermsSpec : ChangeSpec := { name := "fnExactCompileTerms", fn := fun _ => fun
  | [d] => { results := [.lit (.bool true)], args := [d] }
  | _ => none }
def fnExactCompileTermsRow : OpenClaim := { program := "ytfemohapampkiaa", sum := "1a503308fac69453447e2b87c038c4e883b7f2cbea61d70a7a1656fd533bcdcd", func := "loop.example/g00701/laws.FnExactCompileTerms", spec := "fnExactCompileTerms", unfollowed := true, recurses := true, apart := false }
def FnExactCompileTermsSaid : Prop := fnExactCompileTermsRow.holds Try.pinned (OpenSpec.ofChange fnExactCompileTermsSpec)

/-- ITS FALSE NEIGHBOUR: 'it returns false'. Refute it at one input. -/
def fnExactCompileTermsWrong : ChangeSpec := { name := "fnExactCompileTerms", fn := fun _ => fun
  | [d] => { results := [.lit (.bool false)], args := [d] }
  | _ => none }
def FnExactCompileTermsWrongFalsely : Prop := fnExactCompileTermsRow.holds Try.pinned (OpenSpec.ofChange fnExactCompileTermsWrong)

/-- 'laws.FnExactFirstKids': WHATEVER THE INPUT: true; the input reads as it did. -/
def fnExactFirstKidsSpec : ChangeSpec := { name := "fnExactFirstKids", fn := fun _ => fun
  | [d] => { results := [.lit (.bool true)], args := [d] }
  | _ => none }
def fnExactFirstKidsRow : OpenClaim := { program := "ytfemohapampkiaa", sum := "1a503308fac69453447e2b87c038c4e883b7f2cbea61d70a7a1656fd533bcdcd", func := "loop.example/g00701/laws.FnExactFirstKids", spec := "fnExactFirstKids", unfollowed := true, recurses := true, apart := false }
def FnExactFirstKidsSaid : Prop := fnExactFirstKidsRow.holds Try.pinned (OpenSpec.ofChange fnExactFirstKidsSpec)

/-- ITS FALSE NEIGHBOUR: 'it returns false'. Refute it at one input. -/
def fnExactFirstKidsWrong : ChangeSpec := { name := "fnExactFirstKids", fn := fun _ => fun
  | [d] => { results := [.lit (.bool false)], args := [d] }
  | _ => none }
def FnExactFirstKidsWrongFalsely : Prop := fnExactFirstKidsRow.holds Try.pinned (OpenSpec.ofChange fnExactFirstKidsWrong)

/-- 'laws.FnExactCheckDoc': WHATEVER THE INPUT: true; the input reads as it did. -/
def fnExactCheckDocSpec : ChangeSpec := { name := "fnExactCheckDoc", fn := fun _ => fun
  | [d1, d2] => { results := [.lit (.bool true)], args := [d1, d2] }
  | _ => none }
def fnExactCheckDocRow : OpenClaim := { program := "ytfemohapampkiaa", sum := "1a503308fac69453447e2b87c038c4e883b7f2cbea61d70a7a1656fd533bcdcd", func := "loop.example/g00701/laws.FnExactCheckDoc", spec := "fnExactCheckDoc", unfollowed := true, recurses := true, apart := false }
def FnExactCheckDocSaid : Prop := fnExactCheckDocRow.holds Try.pinned (OpenSpec.ofChange fnExactCheckDocSpec)

/-- ITS FALSE NEIGHBOUR: 'it returns false'. Refute it at one input. -/
def fnExactCheckDocWrong : ChangeSpec := { name := "fnExactCheckDoc", fn := fun _ => fun
  | [d1, d2] => { results := [.lit (.bool false)], args := [d1, d2] }
  | _ => none }
def FnExactCheckDocWrongFalsely : Prop := fnExactCheckDocRow.holds Try.pinned (OpenSpec.ofChange fnExactCheckDocWrong)

/- THE SECOND FORM. 'bulk': how many values and letters a reading holds, each counted each time it is reached (what is shared counts as often as it is met; a slice's spare places count too). A statement '..UptoSaid' is the law's where the arguments, and the package variables that the reading takes, are together of bulk at most 1048576: NARROWER than '..Said'. Prove '..Said' where nothing that the law and all that it calls make is longer than what came in: it says more and counts as full. Else prove '..UptoSaid'. A law counts once. -/
mutual
def uptoBulk {H : Type} : DataW H → Nat
  | .lit (.string bytes) => bytes.length + 1
  | .lit _ => 1
  | .nil => 1
  | .ptr d => uptoBulk d + 1
  | .slice elems spare => uptoBulkAll elems + uptoBulkAll spare + 1
  | .agg parts => uptoBulkAll parts + 1
  | .iface _ d => uptoBulk d + 1
  | .map entries => uptoBulkEntries entries + 1
  | .held _ => 1
def uptoBulkAll {H : Type} : List (DataW H) → Nat
  | [] => 0
  | d :: r => uptoBulk d + uptoBulkAll r
def uptoBulkEntries {H : Type} : List (Lit × DataW H) → Nat
  | [] => 0
  | x :: r => uptoBulkEntry x + uptoBulkEntries r
def uptoBulkEntry {H : Type} : Lit × DataW H → Nat
  | (.string bytes, d) => bytes.length + uptoBulk d + 1
  | (_, d) => uptoBulk d + 1
 end
def uptoSmall : (H : Type) → List (DataW H) → Bool := fun _ ds => decide (uptoBulkAll ds ≤ 1048576)
def OpenSpec.upto (s : _root_.Go.ChangeSpec) : _root_.Go.OpenSpec := { _root_.Go.OpenSpec.ofChange s with cond := some uptoSmall }

/-- 'laws.FnExactDocOK', WHERE WHAT IT READS IS OF BULK AT MOST 1048576: true; the input reads as it did. -/
def fnExactDocOKUptoRow : OpenClaim := { program := "ytfemohapampkiaa", sum := "1a503308fac69453447e2b87c038c4e883b7f2cbea61d70a7a1656fd533bcdcd", func := "loop.example/g00701/laws.FnExactDocOK", spec := "fnExactDocOK", unfollowed := true, recurses := true, apart := false, narrowed := true }
def FnExactDocOKUptoSaid : Prop := fnExactDocOKUptoRow.holds Try.pinned (OpenSpec.upto fnExactDocOKSpec)

/-- 'laws.FnExactSameDoc', WHERE WHAT IT READS IS OF BULK AT MOST 1048576: true; the input reads as it did. -/
def fnExactSameDocUptoRow : OpenClaim := { program := "ytfemohapampkiaa", sum := "1a503308fac69453447e2b87c038c4e883b7f2cbea61d70a7a1656fd533bcdcd", func := "loop.example/g00701/laws.FnExactSameDoc", spec := "fnExactSameDoc", unfollowed := true, recurses := true, apart := false, narrowed := true }
def FnExactSameDocUptoSaid : Prop := fnExactSameDocUptoRow.holds Try.pinned (OpenSpec.upto fnExactSameDocSpec)

/-- 'laws.FnExactKidsOf', WHERE WHAT IT READS IS OF BULK AT MOST 1048576: true; the input reads as it did. -/
def fnExactKidsOfUptoRow : OpenClaim := { program := "ytfemohapampkiaa", sum := "1a503308fac69453447e2b87c038c4e883b7f2cbea61d70a7a1656fd533bcdcd", func := "loop.example/g00701/laws.FnExactKidsOf", spec := "fnExactKidsOf", unfollowed := true, recurses := true, apart := false, narrowed := true }
def FnExactKidsOfUptoSaid : Prop := fnExactKidsOfUptoRow.holds Try.pinned (OpenSpec.upto fnExactKidsOfSpec)

/-- 'laws.FnExactCopySub', WHERE WHAT IT READS IS OF BULK AT MOST 1048576: true; the input reads as it did. -/
def fnExactCopySubUptoRow : OpenClaim := { program := "ytfemohapampkiaa", sum := "1a503308fac69453447e2b87c038c4e883b7f2cbea61d70a7a1656fd533bcdcd", func := "loop.example/g00701/laws.FnExactCopySub", spec := "fnExactCopySub", unfollowed := true, recurses := true, apart := false, narrowed := true }
def FnExactCopySubUptoSaid : Prop := fnExactCopySubUptoRow.holds Try.pinned (OpenSpec.upto fnExactCopySubSpec)

/-- 'laws.FnExactHoldsOK', WHERE WHAT IT READS IS OF BULK AT MOST 1048576: true; the input reads as it did. -/
def fnExactHoldsOKUptoRow : OpenClaim := { program := "ytfemohapampkiaa", sum := "1a503308fac69453447e2b87c038c4e883b7f2cbea61d70a7a1656fd533bcdcd", func := "loop.example/g00701/laws.FnExactHoldsOK", spec := "fnExactHoldsOK", unfollowed := true, recurses := true, apart := false, narrowed := true }
def FnExactHoldsOKUptoSaid : Prop := fnExactHoldsOKUptoRow.holds Try.pinned (OpenSpec.upto fnExactHoldsOKSpec)

/-- 'laws.FnExactMatchKids', WHERE WHAT IT READS IS OF BULK AT MOST 1048576: true; the input reads as it did. -/
def fnExactMatchKidsUptoRow : OpenClaim := { program := "ytfemohapampkiaa", sum := "1a503308fac69453447e2b87c038c4e883b7f2cbea61d70a7a1656fd533bcdcd", func := "loop.example/g00701/laws.FnExactMatchKids", spec := "fnExactMatchKids", unfollowed := true, recurses := true, apart := false, narrowed := true }
def FnExactMatchKidsUptoSaid : Prop := fnExactMatchKidsUptoRow.holds Try.pinned (OpenSpec.upto fnExactMatchKidsSpec)

/-- 'laws.FnExactSchemaOK', WHERE WHAT IT READS IS OF BULK AT MOST 1048576: true; the input reads as it did. -/
def fnExactSchemaOKUptoRow : OpenClaim := { program := "ytfemohapampkiaa", sum := "1a503308fac69453447e2b87c038c4e883b7f2cbea61d70a7a1656fd533bcdcd", func := "loop.example/g00701/laws.FnExactSchemaOK", spec := "fnExactSchemaOK", unfollowed := true, recurses := true, apart := false, narrowed := true }
def FnExactSchemaOKUptoSaid : Prop := fnExactSchemaOKUptoRow.holds Try.pinned (OpenSpec.upto fnExactSchemaOKSpec)

/-- 'laws.FnExactCompileTerms', WHERE WHAT IT READS IS OF BULK AT MOST 1048576: true; the input reads as it did. -/
def fnExactCompileTermsUptoRow : OpenClaim := { program := "ytfemohapampkiaa", sum := "1a503308fac69453447e2b87c038c4e883b7f2cbea61d70a7a1656fd533bcdcd", func := "loop.example/g00701/laws.FnExactCompileTerms", spec := "fnExactCompileTerms", unfollowed := true, recurses := true, apart := false, narrowed := true }
def FnExactCompileTermsUptoSaid : Prop := fnExactCompileTermsUptoRow.holds Try.pinned (OpenSpec.upto fnExactCompileTermsSpec)

/-- 'laws.FnExactFirstKids', WHERE WHAT IT READS IS OF BULK AT MOST 1048576: true; the input reads as it did. -/
def fnExactFirstKidsUptoRow : OpenClaim := { program := "ytfemohapampkiaa", sum := "1a503308fac69453447e2b87c038c4e883b7f2cbea61d70a7a1656fd533bcdcd", func := "loop.example/g00701/laws.FnExactFirstKids", spec := "fnExactFirstKids", unfollowed := true, recurses := true, apart := false, narrowed := true }
def FnExactFirstKidsUptoSaid : Prop := fnExactFirstKidsUptoRow.holds Try.pinned (OpenSpec.upto fnExactFirstKidsSpec)

/-- 'laws.FnExactCheckDoc', WHERE WHAT IT READS IS OF BULK AT MOST 1048576: true; the input reads as it did. -/
def fnExactCheckDocUptoRow : OpenClaim := { program := "ytfemohapampkiaa", sum := "1a503308fac69453447e2b87c038c4e883b7f2cbea61d70a7a1656fd533bcdcd", func := "loop.example/g00701/laws.FnExactCheckDoc", spec := "fnExactCheckDoc", unfollowed := true, recurses := true, apart := false, narrowed := true }
def FnExactCheckDocUptoSaid : Prop := fnExactCheckDocUptoRow.holds Try.pinned (OpenSpec.upto fnExactCheckDocSpec)

end Rows
end Go.Proofs.Ytfemohapampkiaa
