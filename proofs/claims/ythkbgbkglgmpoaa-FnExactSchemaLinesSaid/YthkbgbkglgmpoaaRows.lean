/-
  No cell of these rows narrows 'for every input' (looked for: loops, veiled, ifaces, maps, wideKeys, modest, calm, conditions, laid).
  DERIVED. THE GIVEN ROWS OF THIS SEAT. 5 by the template 'for every input the law returns true; each argument reads behind the call as it read before'; 0 by the template 'total and deterministic' (their statements: YthkbgbkglgmpoaaTotals.lean).
  GIVEN WITH THE SEED: the statements are not yours to turn. If you find one false, say at which input.
  Laid BY PROGRAM, IN A SANDBOX (cutbox-rows.mjs): the forced cells as the released guide's own fill.sh prints them over the translation 6155ae35fe286b7a… (all of the seat's roots in one cut). By AI agents, Wed Nov 11 2026. No macro, syntax, notation, axiom, sorry.
-/
import Derived.Test.YthkbgbkglgmpoaaChecked
import GoSem.Claim
import GoSem.ClaimJoined
import GoSem.ClaimMapViews
import Derived.JoinedTies
import Derived.KernelRfl
namespace Go.Proofs.Ythkbgbkglgmpoaa
/- THE CELL 'sum', in the pinned program and in every row, IS THE sha256 OF THE DUMP (.gsa) THAT YthkbgbkglgmpoaaProg.lean LOADS. Nothing in Lean hashes anything: it is a label: what it is worth is what the hold of that sum in a sandbox is worth. -/
noncomputable def Try.pinned : Pinned := { name := "ythkbgbkglgmpoaa", sum := "6155ae35fe286b7a22ab6c0ff685f5231f8465d5e18f6a4d22f1ee6d9f3ce39d", checked := Try.checked }
namespace Rows
def none {H : Type} : Left H := { results := [], args := [] }

/-- 'laws.FnExactCompileTerms': WHATEVER THE INPUT: true; the input reads as it did. -/
def fnExactCompileTermsSpec : ChangeSpec := { name := "fnExactCompileTerms", fn := fun _ => fun
  | [d] => { results := [.lit (.bool true)], args := [d] }
  | _ => none }
def fnExactCompileTermsRow : OpenClaim := { program := "ythkbgbkglgmpoaa", sum := "6155ae35fe286b7a22ab6c0ff685f5231f8465d5e18f6a4d22f1ee6d9f3ce39d", func := "loop.example/g00701/laws.FnExactCompileTerms", spec := "fnExactCompileTerms", unfollowed := true, recurses := true, apart := false }
def FnExactCompileTermsSaid : Prop := fnExactCompileTermsRow.holds Try.pinned (OpenSpec.ofChange fnExactCompileTermsSpec)

/-- ITS FALSE NEIGHBOUR: 'it returns false'. Refute it at one input. -/
def fnExactCompileTermsWrong : ChangeSpec := { name := "fnExactCompileTerms", fn := fun _ => fun
  | [d] => { results := [.lit (.bool false)], args := [d] }
  | _ => none }
def FnExactCompileTermsWrongFalsely : Prop := fnExactCompileTermsRow.holds Try.pinned (OpenSpec.ofChange fnExactCompileTermsWrong)

/-- 'laws.FnExactFirstKids': WHATEVER THE INPUT: true; the input reads as it did. -/
def fnExactFirstKidsSpec : ChangeSpec := { name := "fnExactFirstKids", fn := fun _ => fun
  | [d] => { results := [.lit (.bool true)], args := [d] }
  | _ => none }
def fnExactFirstKidsRow : OpenClaim := { program := "ythkbgbkglgmpoaa", sum := "6155ae35fe286b7a22ab6c0ff685f5231f8465d5e18f6a4d22f1ee6d9f3ce39d", func := "loop.example/g00701/laws.FnExactFirstKids", spec := "fnExactFirstKids", unfollowed := true, recurses := true, apart := false }
def FnExactFirstKidsSaid : Prop := fnExactFirstKidsRow.holds Try.pinned (OpenSpec.ofChange fnExactFirstKidsSpec)

/-- ITS FALSE NEIGHBOUR: 'it returns false'. Refute it at one input. -/
def fnExactFirstKidsWrong : ChangeSpec := { name := "fnExactFirstKids", fn := fun _ => fun
  | [d] => { results := [.lit (.bool false)], args := [d] }
  | _ => none }
def FnExactFirstKidsWrongFalsely : Prop := fnExactFirstKidsRow.holds Try.pinned (OpenSpec.ofChange fnExactFirstKidsWrong)

/-- 'laws.FnExactSchemaLines': WHATEVER THE INPUT: true; the input reads as it did. -/
def fnExactSchemaLinesSpec : ChangeSpec := { name := "fnExactSchemaLines", fn := fun _ => fun
  | [d] => { results := [.lit (.bool true)], args := [d] }
  | _ => none }
def fnExactSchemaLinesRow : OpenClaim := { program := "ythkbgbkglgmpoaa", sum := "6155ae35fe286b7a22ab6c0ff685f5231f8465d5e18f6a4d22f1ee6d9f3ce39d", func := "loop.example/g00701/laws.FnExactSchemaLines", spec := "fnExactSchemaLines", inPlace := ["internal/abi.NoEscape", "internal/bytealg.MakeNoZero"], unfollowed := true, recurses := true, apart := false }
def FnExactSchemaLinesSaid : Prop := fnExactSchemaLinesRow.holds Try.pinned (OpenSpec.ofChange fnExactSchemaLinesSpec)

/-- ITS FALSE NEIGHBOUR: 'it returns false'. Refute it at one input. -/
def fnExactSchemaLinesWrong : ChangeSpec := { name := "fnExactSchemaLines", fn := fun _ => fun
  | [d] => { results := [.lit (.bool false)], args := [d] }
  | _ => none }
def FnExactSchemaLinesWrongFalsely : Prop := fnExactSchemaLinesRow.holds Try.pinned (OpenSpec.ofChange fnExactSchemaLinesWrong)

/-- 'laws.FnExactMayInsert': WHATEVER THE INPUT: true; the input reads as it did. -/
def fnExactMayInsertSpec : ChangeSpec := { name := "fnExactMayInsert", fn := fun _ => fun
  | [d1, d2, d3] => { results := [.lit (.bool true)], args := [d1, d2, d3] }
  | _ => none }
def fnExactMayInsertRow : OpenClaim := { program := "ythkbgbkglgmpoaa", sum := "6155ae35fe286b7a22ab6c0ff685f5231f8465d5e18f6a4d22f1ee6d9f3ce39d", func := "loop.example/g00701/laws.FnExactMayInsert", spec := "fnExactMayInsert", inPlace := ["slices.overlaps[int]"], unfollowed := true, recurses := true, apart := false }
def FnExactMayInsertSaid : Prop := fnExactMayInsertRow.holds Try.pinned (OpenSpec.ofChange fnExactMayInsertSpec)

/-- ITS FALSE NEIGHBOUR: 'it returns false'. Refute it at one input. -/
def fnExactMayInsertWrong : ChangeSpec := { name := "fnExactMayInsert", fn := fun _ => fun
  | [d1, d2, d3] => { results := [.lit (.bool false)], args := [d1, d2, d3] }
  | _ => none }
def FnExactMayInsertWrongFalsely : Prop := fnExactMayInsertRow.holds Try.pinned (OpenSpec.ofChange fnExactMayInsertWrong)

/-- 'laws.FnExactSpliceSub': WHATEVER THE INPUT: true; the input reads as it did. -/
def fnExactSpliceSubSpec : ChangeSpec := { name := "fnExactSpliceSub", fn := fun _ => fun
  | [d1, d2] => { results := [.lit (.bool true)], args := [d1, d2] }
  | _ => none }
def fnExactSpliceSubRow : OpenClaim := { program := "ythkbgbkglgmpoaa", sum := "6155ae35fe286b7a22ab6c0ff685f5231f8465d5e18f6a4d22f1ee6d9f3ce39d", func := "loop.example/g00701/laws.FnExactSpliceSub", spec := "fnExactSpliceSub", unfollowed := true, recurses := true, apart := false }
def FnExactSpliceSubSaid : Prop := fnExactSpliceSubRow.holds Try.pinned (OpenSpec.ofChange fnExactSpliceSubSpec)

/-- ITS FALSE NEIGHBOUR: 'it returns false'. Refute it at one input. -/
def fnExactSpliceSubWrong : ChangeSpec := { name := "fnExactSpliceSub", fn := fun _ => fun
  | [d1, d2] => { results := [.lit (.bool false)], args := [d1, d2] }
  | _ => none }
def FnExactSpliceSubWrongFalsely : Prop := fnExactSpliceSubRow.holds Try.pinned (OpenSpec.ofChange fnExactSpliceSubWrong)

/- THE SECOND FORM. 'bulk': how many values and letters a reading holds, each counted each time it is reached (what is shared counts as often as it is met; a slice's spare places count too). A statement '..UptoSaid' is the law's where the arguments, and the package variables that the reading takes, are together of bulk at most 1048576: NARROWER than '..Said'. Prove '..Said' where nothing that the law and all that it calls make is longer than what came in: it says more and counts as full. Else prove '..UptoSaid'. A law counts once. -/
mutual
def uptoBulk {H : Type} : DataW H → Nat
  | .lit (.string bytes) => bytes.length + 1
  | .lit _ => 1
  | .nil => 1
  | .ptr d => uptoBulk d + 1
  | .slice elems spare => uptoBulkAll elems + uptoBulkAll spare + 1
  | .agg parts => uptoBulkAll parts + 1
  | .iface _ d => uptoBulk d + 1
  | .map entries => uptoBulkEntries entries + 1
  | .held _ => 1
def uptoBulkAll {H : Type} : List (DataW H) → Nat
  | [] => 0
  | d :: r => uptoBulk d + uptoBulkAll r
def uptoBulkEntries {H : Type} : List (Lit × DataW H) → Nat
  | [] => 0
  | x :: r => uptoBulkEntry x + uptoBulkEntries r
def uptoBulkEntry {H : Type} : Lit × DataW H → Nat
  | (.string bytes, d) => bytes.length + uptoBulk d + 1
  | (_, d) => uptoBulk d + 1
 end
def uptoSmall : (H : Type) → List (DataW H) → Bool := fun _ ds => decide (uptoBulkAll ds ≤ 1048576)
def OpenSpec.upto (s : _root_.Go.ChangeSpec) : _root_.Go.OpenSpec := { _root_.Go.OpenSpec.ofChange s with cond := some uptoSmall }

/-- 'laws.FnExactCompileTerms', WHERE WHAT IT READS IS OF BULK AT MOST 1048576: true; the input reads as it did. -/
def fnExactCompileTermsUptoRow : OpenClaim := { program := "ythkbgbkglgmpoaa", sum := "6155ae35fe286b7a22ab6c0ff685f5231f8465d5e18f6a4d22f1ee6d9f3ce39d", func := "loop.example/g00701/laws.FnExactCompileTerms", spec := "fnExactCompileTerms", unfollowed := true, recurses := true, apart := false, narrowed := true }
def FnExactCompileTermsUptoSaid : Prop := fnExactCompileTermsUptoRow.holds Try.pinned (OpenSpec.upto fnExactCompileTermsSpec)

/-- 'laws.FnExactFirstKids', WHERE WHAT IT READS IS OF BULK AT MOST 1048576: true; the input reads as it did. -/
def fnExactFirstKidsUptoRow : OpenClaim := { program := "ythkbgbkglgmpoaa", sum := "6155ae35fe286b7a22ab6c0ff685f5231f8465d5e18f6a4d22f1ee6d9f3ce39d", func := "loop.example/g00701/laws.FnExactFirstKids", spec := "fnExactFirstKids", unfollowed := true, recurses := true, apart := false, narrowed := true }
def FnExactFirstKidsUptoSaid : Prop := fnExactFirstKidsUptoRow.holds Try.pinned (OpenSpec.upto fnExactFirstKidsSpec)

/-- 'laws.FnExactSchemaLines', WHERE WHAT IT READS IS OF BULK AT MOST 1048576: true; the input reads as it did. -/
def fnExactSchemaLinesUptoRow : OpenClaim := { program := "ythkbgbkglgmpoaa", sum := "6155ae35fe286b7a22ab6c0ff685f5231f8465d5e18f6a4d22f1ee6d9f3ce39d", func := "loop.example/g00701/laws.FnExactSchemaLines", spec := "fnExactSchemaLines", inPlace := ["internal/abi.NoEscape", "internal/bytealg.MakeNoZero"], unfollowed := true, recurses := true, apart := false, narrowed := true }
def FnExactSchemaLinesUptoSaid : Prop := fnExactSchemaLinesUptoRow.holds Try.pinned (OpenSpec.upto fnExactSchemaLinesSpec)

/-- 'laws.FnExactMayInsert', WHERE WHAT IT READS IS OF BULK AT MOST 1048576: true; the input reads as it did. -/
def fnExactMayInsertUptoRow : OpenClaim := { program := "ythkbgbkglgmpoaa", sum := "6155ae35fe286b7a22ab6c0ff685f5231f8465d5e18f6a4d22f1ee6d9f3ce39d", func := "loop.example/g00701/laws.FnExactMayInsert", spec := "fnExactMayInsert", inPlace := ["slices.overlaps[int]"], unfollowed := true, recurses := true, apart := false, narrowed := true }
def FnExactMayInsertUptoSaid : Prop := fnExactMayInsertUptoRow.holds Try.pinned (OpenSpec.upto fnExactMayInsertSpec)

/-- 'laws.FnExactSpliceSub', WHERE WHAT IT READS IS OF BULK AT MOST 1048576: true; the input reads as it did. -/
def fnExactSpliceSubUptoRow : OpenClaim := { program := "ythkbgbkglgmpoaa", sum := "6155ae35fe286b7a22ab6c0ff685f5231f8465d5e18f6a4d22f1ee6d9f3ce39d", func := "loop.example/g00701/laws.FnExactSpliceSub", spec := "fnExactSpliceSub", unfollowed := true, recurses := true, apart := false, narrowed := true }
def FnExactSpliceSubUptoSaid : Prop := fnExactSpliceSubUptoRow.holds Try.pinned (OpenSpec.upto fnExactSpliceSubSpec)

end Rows
end Go.Proofs.Ythkbgbkglgmpoaa
