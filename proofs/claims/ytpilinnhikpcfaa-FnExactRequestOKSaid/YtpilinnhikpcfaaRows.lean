/-
  No cell of these rows narrows 'for every input' (looked for: loops, veiled, ifaces, maps, wideKeys, modest, calm, conditions, laid).
  DERIVED. THE GIVEN ROWS OF THIS SEAT. 11 by the template 'for every input the law returns true; each argument reads behind the call as it read before'; 0 by the template 'total and deterministic' (their statements: YtpilinnhikpcfaaTotals.lean).
  GIVEN WITH THE SEED: the statements are not yours to turn. If you find one false, say at which input.
  Laid BY PROGRAM, IN A SANDBOX (cutbox-rows.mjs): the forced cells as the released guide's own fill.sh prints them over the translation b7a0e726cd89379e… (all of the seat's roots in one cut). By AI agents, Wed Nov 11 2026. No macro, syntax, notation, axiom, sorry.
-/
import Derived.Test.YtpilinnhikpcfaaChecked
import GoSem.Claim
import GoSem.ClaimJoined
import GoSem.ClaimMapViews
import Derived.JoinedTies
import Derived.KernelRfl
namespace Go.Proofs.Ytpilinnhikpcfaa
/- THE CELL 'sum', in the pinned program and in every row, IS THE sha256 OF THE DUMP (.gsa) THAT YtpilinnhikpcfaaProg.lean LOADS. Nothing in Lean hashes anything: it is a label: what it is worth is what the hold of that sum in a sandbox is worth. -/
noncomputable def Try.pinned : Pinned := { name := "ytpilinnhikpcfaa", sum := "b7a0e726cd89379e8e3678608df83bba93d89af0a415d0b72d5736840c0fba1b", checked := Try.checked }
namespace Rows
def none {H : Type} : Left H := { results := [], args := [] }

/-- 'laws.FnExactSameTable': WHATEVER THE INPUT: true; the input reads as it did. -/
def fnExactSameTableSpec : ChangeSpec := { name := "fnExactSameTable", fn := fun _ => fun
  | [d1, d2] => { results := [.lit (.bool true)], args := [d1, d2] }
  | _ => none }
def fnExactSameTableRow : OpenClaim := { program := "ytpilinnhikpcfaa", sum := "b7a0e726cd89379e8e3678608df83bba93d89af0a415d0b72d5736840c0fba1b", func := "loop.example/g00701/laws.FnExactSameTable", spec := "fnExactSameTable", apart := false }
def FnExactSameTableSaid : Prop := fnExactSameTableRow.holds Try.pinned (OpenSpec.ofChange fnExactSameTableSpec)

/-- ITS FALSE NEIGHBOUR: 'it returns false'. Refute it at one input. -/
def fnExactSameTableWrong : ChangeSpec := { name := "fnExactSameTable", fn := fun _ => fun
  | [d1, d2] => { results := [.lit (.bool false)], args := [d1, d2] }
  | _ => none }
def FnExactSameTableWrongFalsely : Prop := fnExactSameTableRow.holds Try.pinned (OpenSpec.ofChange fnExactSameTableWrong)

/-- 'laws.FnModes': WHATEVER THE INPUT: true; the input reads as it did. -/
def fnModesSpec : ChangeSpec := { name := "fnModes", fn := fun _ => fun
  | [d1, d2] => { results := [.lit (.bool true)], args := [d1, d2] }
  | _ => none }
def fnModesRow : OpenClaim := { program := "ytpilinnhikpcfaa", sum := "b7a0e726cd89379e8e3678608df83bba93d89af0a415d0b72d5736840c0fba1b", func := "loop.example/g00701/laws.FnModes", spec := "fnModes", recurses := true, apart := false }
def FnModesSaid : Prop := fnModesRow.holds Try.pinned (OpenSpec.ofChange fnModesSpec)

/-- ITS FALSE NEIGHBOUR: 'it returns false'. Refute it at one input. -/
def fnModesWrong : ChangeSpec := { name := "fnModes", fn := fun _ => fun
  | [d1, d2] => { results := [.lit (.bool false)], args := [d1, d2] }
  | _ => none }
def FnModesWrongFalsely : Prop := fnModesRow.holds Try.pinned (OpenSpec.ofChange fnModesWrong)

/-- 'laws.FnExactRequestOK': WHATEVER THE INPUT: true; the input reads as it did. -/
def fnExactRequestOKSpec : ChangeSpec := { name := "fnExactRequestOK", fn := fun _ => fun
  | [d] => { results := [.lit (.bool true)], args := [d] }
  | _ => none }
def fnExactRequestOKRow : OpenClaim := { program := "ytpilinnhikpcfaa", sum := "b7a0e726cd89379e8e3678608df83bba93d89af0a415d0b72d5736840c0fba1b", func := "loop.example/g00701/laws.FnExactRequestOK", spec := "fnExactRequestOK", apart := false }
def FnExactRequestOKSaid : Prop := fnExactRequestOKRow.holds Try.pinned (OpenSpec.ofChange fnExactRequestOKSpec)

/-- ITS FALSE NEIGHBOUR: 'it returns false'. Refute it at one input. -/
def fnExactRequestOKWrong : ChangeSpec := { name := "fnExactRequestOK", fn := fun _ => fun
  | [d] => { results := [.lit (.bool false)], args := [d] }
  | _ => none }
def FnExactRequestOKWrongFalsely : Prop := fnExactRequestOKRow.holds Try.pinned (OpenSpec.ofChange fnExactRequestOKWrong)

/-- 'laws.FnExactMachineOK': WHATEVER THE INPUT: true; the input reads as it did. -/
def fnExactMachineOKSpec : ChangeSpec := { name := "fnExactMachineOK", fn := fun _ => fun
  | [d] => { results := [.lit (.bool true)], args := [d] }
  | _ => none }
def fnExactMachineOKRow : OpenClaim := { program := "ytpilinnhikpcfaa", sum := "b7a0e726cd89379e8e3678608df83bba93d89af0a415d0b72d5736840c0fba1b", func := "loop.example/g00701/laws.FnExactMachineOK", spec := "fnExactMachineOK", unfollowed := true, recurses := true, apart := false }
def FnExactMachineOKSaid : Prop := fnExactMachineOKRow.holds Try.pinned (OpenSpec.ofChange fnExactMachineOKSpec)

/-- ITS FALSE NEIGHBOUR: 'it returns false'. Refute it at one input. -/
def fnExactMachineOKWrong : ChangeSpec := { name := "fnExactMachineOK", fn := fun _ => fun
  | [d] => { results := [.lit (.bool false)], args := [d] }
  | _ => none }
def FnExactMachineOKWrongFalsely : Prop := fnExactMachineOKRow.holds Try.pinned (OpenSpec.ofChange fnExactMachineOKWrong)

/-- 'laws.FnExactNewDoc': WHATEVER THE INPUT: true; the input reads as it did. -/
def fnExactNewDocSpec : ChangeSpec := { name := "fnExactNewDoc", fn := fun _ => fun
  | [d] => { results := [.lit (.bool true)], args := [d] }
  | _ => none }
def fnExactNewDocRow : OpenClaim := { program := "ytpilinnhikpcfaa", sum := "b7a0e726cd89379e8e3678608df83bba93d89af0a415d0b72d5736840c0fba1b", func := "loop.example/g00701/laws.FnExactNewDoc", spec := "fnExactNewDoc", apart := false }
def FnExactNewDocSaid : Prop := fnExactNewDocRow.holds Try.pinned (OpenSpec.ofChange fnExactNewDocSpec)

/-- ITS FALSE NEIGHBOUR: 'it returns false'. Refute it at one input. -/
def fnExactNewDocWrong : ChangeSpec := { name := "fnExactNewDoc", fn := fun _ => fun
  | [d] => { results := [.lit (.bool false)], args := [d] }
  | _ => none }
def FnExactNewDocWrongFalsely : Prop := fnExactNewDocRow.holds Try.pinned (OpenSpec.ofChange fnExactNewDocWrong)

/-- 'laws.FnExactRunMachine': WHATEVER THE INPUT: true; the input reads as it did. -/
def fnExactRunMachineSpec : ChangeSpec := { name := "fnExactRunMachine", fn := fun _ => fun
  | [d1, d2] => { results := [.lit (.bool true)], args := [d1, d2] }
  | _ => none }
def fnExactRunMachineRow : OpenClaim := { program := "ytpilinnhikpcfaa", sum := "b7a0e726cd89379e8e3678608df83bba93d89af0a415d0b72d5736840c0fba1b", func := "loop.example/g00701/laws.FnExactRunMachine", spec := "fnExactRunMachine", unfollowed := true, recurses := true, apart := false }
def FnExactRunMachineSaid : Prop := fnExactRunMachineRow.holds Try.pinned (OpenSpec.ofChange fnExactRunMachineSpec)

/-- ITS FALSE NEIGHBOUR: 'it returns false'. Refute it at one input. -/
def fnExactRunMachineWrong : ChangeSpec := { name := "fnExactRunMachine", fn := fun _ => fun
  | [d1, d2] => { results := [.lit (.bool false)], args := [d1, d2] }
  | _ => none }
def FnExactRunMachineWrongFalsely : Prop := fnExactRunMachineRow.holds Try.pinned (OpenSpec.ofChange fnExactRunMachineWrong)

/-- 'laws.FnExactRuleOK': WHATEVER THE INPUT: true; the input reads as it did. -/
def fnExactRuleOKSpec : ChangeSpec := { name := "fnExactRuleOK", fn := fun _ => fun
  | [d1, d2] => { results := [.lit (.bool true)], args := [d1, d2] }
  | _ => none }
def fnExactRuleOKRow : OpenClaim := { program := "ytpilinnhikpcfaa", sum := "b7a0e726cd89379e8e3678608df83bba93d89af0a415d0b72d5736840c0fba1b", func := "loop.example/g00701/laws.FnExactRuleOK", spec := "fnExactRuleOK", unfollowed := true, recurses := true, apart := false }
def FnExactRuleOKSaid : Prop := fnExactRuleOKRow.holds Try.pinned (OpenSpec.ofChange fnExactRuleOKSpec)

/-- ITS FALSE NEIGHBOUR: 'it returns false'. Refute it at one input. -/
def fnExactRuleOKWrong : ChangeSpec := { name := "fnExactRuleOK", fn := fun _ => fun
  | [d1, d2] => { results := [.lit (.bool false)], args := [d1, d2] }
  | _ => none }
def FnExactRuleOKWrongFalsely : Prop := fnExactRuleOKRow.holds Try.pinned (OpenSpec.ofChange fnExactRuleOKWrong)

/-- 'laws.FnExactSameMachine': WHATEVER THE INPUT: true; the input reads as it did. -/
def fnExactSameMachineSpec : ChangeSpec := { name := "fnExactSameMachine", fn := fun _ => fun
  | [d1, d2] => { results := [.lit (.bool true)], args := [d1, d2] }
  | _ => none }
def fnExactSameMachineRow : OpenClaim := { program := "ytpilinnhikpcfaa", sum := "b7a0e726cd89379e8e3678608df83bba93d89af0a415d0b72d5736840c0fba1b", func := "loop.example/g00701/laws.FnExactSameMachine", spec := "fnExactSameMachine", unfollowed := true, recurses := true, apart := false }
def FnExactSameMachineSaid : Prop := fnExactSameMachineRow.holds Try.pinned (OpenSpec.ofChange fnExactSameMachineSpec)

/-- ITS FALSE NEIGHBOUR: 'it returns false'. Refute it at one input. -/
def fnExactSameMachineWrong : ChangeSpec := { name := "fnExactSameMachine", fn := fun _ => fun
  | [d1, d2] => { results := [.lit (.bool false)], args := [d1, d2] }
  | _ => none }
def FnExactSameMachineWrongFalsely : Prop := fnExactSameMachineRow.holds Try.pinned (OpenSpec.ofChange fnExactSameMachineWrong)

/-- 'laws.FnExactKindOf': WHATEVER THE INPUT: true; the input reads as it did. -/
def fnExactKindOfSpec : ChangeSpec := { name := "fnExactKindOf", fn := fun _ => fun
  | [d1, d2] => { results := [.lit (.bool true)], args := [d1, d2] }
  | _ => none }
def fnExactKindOfRow : OpenClaim := { program := "ytpilinnhikpcfaa", sum := "b7a0e726cd89379e8e3678608df83bba93d89af0a415d0b72d5736840c0fba1b", func := "loop.example/g00701/laws.FnExactKindOf", spec := "fnExactKindOf", unfollowed := true, recurses := true, apart := false }
def FnExactKindOfSaid : Prop := fnExactKindOfRow.holds Try.pinned (OpenSpec.ofChange fnExactKindOfSpec)

/-- ITS FALSE NEIGHBOUR: 'it returns false'. Refute it at one input. -/
def fnExactKindOfWrong : ChangeSpec := { name := "fnExactKindOf", fn := fun _ => fun
  | [d1, d2] => { results := [.lit (.bool false)], args := [d1, d2] }
  | _ => none }
def FnExactKindOfWrongFalsely : Prop := fnExactKindOfRow.holds Try.pinned (OpenSpec.ofChange fnExactKindOfWrong)

/-- 'laws.FnExactSameSchema': WHATEVER THE INPUT: true; the input reads as it did. -/
def fnExactSameSchemaSpec : ChangeSpec := { name := "fnExactSameSchema", fn := fun _ => fun
  | [d1, d2] => { results := [.lit (.bool true)], args := [d1, d2] }
  | _ => none }
def fnExactSameSchemaRow : OpenClaim := { program := "ytpilinnhikpcfaa", sum := "b7a0e726cd89379e8e3678608df83bba93d89af0a415d0b72d5736840c0fba1b", func := "loop.example/g00701/laws.FnExactSameSchema", spec := "fnExactSameSchema", unfollowed := true, recurses := true, apart := false }
def FnExactSameSchemaSaid : Prop := fnExactSameSchemaRow.holds Try.pinned (OpenSpec.ofChange fnExactSameSchemaSpec)

/-- ITS FALSE NEIGHBOUR: 'it returns false'. Refute it at one input. -/
def fnExactSameSchemaWrong : ChangeSpec := { name := "fnExactSameSchema", fn := fun _ => fun
  | [d1, d2] => { results := [.lit (.bool false)], args := [d1, d2] }
  | _ => none }
def FnExactSameSchemaWrongFalsely : Prop := fnExactSameSchemaRow.holds Try.pinned (OpenSpec.ofChange fnExactSameSchemaWrong)

/-- 'laws.FnMatch': WHATEVER THE INPUT: true; the input reads as it did. -/
def fnMatchSpec : ChangeSpec := { name := "fnMatch", fn := fun _ => fun
  | [d1, d2] => { results := [.lit (.bool true)], args := [d1, d2] }
  | _ => none }
def fnMatchRow : OpenClaim := { program := "ytpilinnhikpcfaa", sum := "b7a0e726cd89379e8e3678608df83bba93d89af0a415d0b72d5736840c0fba1b", func := "loop.example/g00701/laws.FnMatch", spec := "fnMatch", unfollowed := true, recurses := true, apart := false }
def FnMatchSaid : Prop := fnMatchRow.holds Try.pinned (OpenSpec.ofChange fnMatchSpec)

/-- ITS FALSE NEIGHBOUR: 'it returns false'. Refute it at one input. -/
def fnMatchWrong : ChangeSpec := { name := "fnMatch", fn := fun _ => fun
  | [d1, d2] => { results := [.lit (.bool false)], args := [d1, d2] }
  | _ => none }
def FnMatchWrongFalsely : Prop := fnMatchRow.holds Try.pinned (OpenSpec.ofChange fnMatchWrong)

/- THE SECOND FORM. 'bulk': how many values and letters a reading holds, each counted each time it is reached (what is shared counts as often as it is met; a slice's spare places count too). A statement '..UptoSaid' is the law's where the arguments, and the package variables that the reading takes, are together of bulk at most 1048576: NARROWER than '..Said'. Prove '..Said' where nothing that the law and all that it calls make is longer than what came in: it says more and counts as full. Else prove '..UptoSaid'. A law counts once. -/
mutual
def uptoBulk {H : Type} : DataW H → Nat
  | .lit (.string bytes) => bytes.length + 1
  | .lit _ => 1
  | .nil => 1
  | .ptr d => uptoBulk d + 1
  | .slice elems spare => uptoBulkAll elems + uptoBulkAll spare + 1
  | .agg parts => uptoBulkAll parts + 1
  | .iface _ d => uptoBulk d + 1
  | .map entries => uptoBulkEntries entries + 1
  | .held _ => 1
def uptoBulkAll {H : Type} : List (DataW H) → Nat
  | [] => 0
  | d :: r => uptoBulk d + uptoBulkAll r
def uptoBulkEntries {H : Type} : List (Lit × DataW H) → Nat
  | [] => 0
  | x :: r => uptoBulkEntry x + uptoBulkEntries r
def uptoBulkEntry {H : Type} : Lit × DataW H → Nat
  | (.string bytes, d) => bytes.length + uptoBulk d + 1
  | (_, d) => uptoBulk d + 1
 end
def uptoSmall : (H : Type) → List (DataW H) → Bool := fun _ ds => decide (uptoBulkAll ds ≤ 1048576)
def OpenSpec.upto (s : _root_.Go.ChangeSpec) : _root_.Go.OpenSpec := { _root_.Go.OpenSpec.ofChange s with cond := some uptoSmall }

/-- 'laws.FnExactSameTable', WHERE WHAT IT READS IS OF BULK AT MOST 1048576: true; the input reads as it did. -/
def fnExactSameTableUptoRow : OpenClaim := { program := "ytpilinnhikpcfaa", sum := "b7a0e726cd89379e8e3678608df83bba93d89af0a415d0b72d5736840c0fba1b", func := "loop.example/g00701/laws.FnExactSameTable", spec := "fnExactSameTable", apart := false, narrowed := true }
def FnExactSameTableUptoSaid : Prop := fnExactSameTableUptoRow.holds Try.pinned (OpenSpec.upto fnExactSameTableSpec)

/-- 'laws.FnModes', WHERE WHAT IT READS IS OF BULK AT MOST 1048576: true; the input reads as it did. -/
def fnModesUptoRow : OpenClaim := { program := "ytpilinnhikpcfaa", sum := "b7a0e726cd89379e8e3678608df83bba93d89af0a415d0b72d5736840c0fba1b", func := "loop.example/g00701/laws.FnModes", spec := "fnModes", recurses := true, apart := false, narrowed := true }
def FnModesUptoSaid : Prop := fnModesUptoRow.holds Try.pinned (OpenSpec.upto fnModesSpec)

/-- 'laws.FnExactRequestOK', WHERE WHAT IT READS IS OF BULK AT MOST 1048576: true; the input reads as it did. -/
def fnExactRequestOKUptoRow : OpenClaim := { program := "ytpilinnhikpcfaa", sum := "b7a0e726cd89379e8e3678608df83bba93d89af0a415d0b72d5736840c0fba1b", func := "loop.example/g00701/laws.FnExactRequestOK", spec := "fnExactRequestOK", apart := false, narrowed := true }
def FnExactRequestOKUptoSaid : Prop := fnExactRequestOKUptoRow.holds Try.pinned (OpenSpec.upto fnExactRequestOKSpec)

/-- 'laws.FnExactMachineOK', WHERE WHAT IT READS IS OF BULK AT MOST 1048576: true; the input reads as it did. -/
def fnExactMachineOKUptoRow : OpenClaim := { program := "ytpilinnhikpcfaa", sum := "b7a0e726cd89379e8e3678608df83bba93d89af0a415d0b72d5736840c0fba1b", func := "loop.example/g00701/laws.FnExactMachineOK", spec := "fnExactMachineOK", unfollowed := true, recurses := true, apart := false, narrowed := true }
def FnExactMachineOKUptoSaid : Prop := fnExactMachineOKUptoRow.holds Try.pinned (OpenSpec.upto fnExactMachineOKSpec)

/-- 'laws.FnExactNewDoc', WHERE WHAT IT READS IS OF BULK AT MOST 1048576: true; the input reads as it did. -/
def fnExactNewDocUptoRow : OpenClaim := { program := "ytpilinnhikpcfaa", sum := "b7a0e726cd89379e8e3678608df83bba93d89af0a415d0b72d5736840c0fba1b", func := "loop.example/g00701/laws.FnExactNewDoc", spec := "fnExactNewDoc", apart := false, narrowed := true }
def FnExactNewDocUptoSaid : Prop := fnExactNewDocUptoRow.holds Try.pinned (OpenSpec.upto fnExactNewDocSpec)

/-- 'laws.FnExactRunMachine', WHERE WHAT IT READS IS OF BULK AT MOST 1048576: true; the input reads as it did. -/
def fnExactRunMachineUptoRow : OpenClaim := { program := "ytpilinnhikpcfaa", sum := "b7a0e726cd89379e8e3678608df83bba93d89af0a415d0b72d5736840c0fba1b", func := "loop.example/g00701/laws.FnExactRunMachine", spec := "fnExactRunMachine", unfollowed := true, recurses := true, apart := false, narrowed := true }
def FnExactRunMachineUptoSaid : Prop := fnExactRunMachineUptoRow.holds Try.pinned (OpenSpec.upto fnExactRunMachineSpec)

/-- 'laws.FnExactRuleOK', WHERE WHAT IT READS IS OF BULK AT MOST 1048576: true; the input reads as it did. -/
def fnExactRuleOKUptoRow : OpenClaim := { program := "ytpilinnhikpcfaa", sum := "b7a0e726cd89379e8e3678608df83bba93d89af0a415d0b72d5736840c0fba1b", func := "loop.example/g00701/laws.FnExactRuleOK", spec := "fnExactRuleOK", unfollowed := true, recurses := true, apart := false, narrowed := true }
def FnExactRuleOKUptoSaid : Prop := fnExactRuleOKUptoRow.holds Try.pinned (OpenSpec.upto fnExactRuleOKSpec)

/-- 'laws.FnExactSameMachine', WHERE WHAT IT READS IS OF BULK AT MOST 1048576: true; the input reads as it did. -/
def fnExactSameMachineUptoRow : OpenClaim := { program := "ytpilinnhikpcfaa", sum := "b7a0e726cd89379e8e3678608df83bba93d89af0a415d0b72d5736840c0fba1b", func := "loop.example/g00701/laws.FnExactSameMachine", spec := "fnExactSameMachine", unfollowed := true, recurses := true, apart := false, narrowed := true }
def FnExactSameMachineUptoSaid : Prop := fnExactSameMachineUptoRow.holds Try.pinned (OpenSpec.upto fnExactSameMachineSpec)

/-- 'laws.FnExactKindOf', WHERE WHAT IT READS IS OF BULK AT MOST 1048576: true; the input reads as it did. -/
def fnExactKindOfUptoRow : OpenClaim := { program := "ytpilinnhikpcfaa", sum := "b7a0e726cd89379e8e3678608df83bba93d89af0a415d0b72d5736840c0fba1b", func := "loop.example/g00701/laws.FnExactKindOf", spec := "fnExactKindOf", unfollowed := true, recurses := true, apart := false, narrowed := true }
def FnExactKindOfUptoSaid : Prop := fnExactKindOfUptoRow.holds Try.pinned (OpenSpec.upto fnExactKindOfSpec)

/-- 'laws.FnExactSameSchema', WHERE WHAT IT READS IS OF BULK AT MOST 1048576: true; the input reads as it did. -/
def fnExactSameSchemaUptoRow : OpenClaim := { program := "ytpilinnhikpcfaa", sum := "b7a0e726cd89379e8e3678608df83bba93d89af0a415d0b72d5736840c0fba1b", func := "loop.example/g00701/laws.FnExactSameSchema", spec := "fnExactSameSchema", unfollowed := true, recurses := true, apart := false, narrowed := true }
def FnExactSameSchemaUptoSaid : Prop := fnExactSameSchemaUptoRow.holds Try.pinned (OpenSpec.upto fnExactSameSchemaSpec)

/-- 'laws.FnMatch', WHERE WHAT IT READS IS OF BULK AT MOST 1048576: true; the input reads as it did. -/
def fnMatchUptoRow : OpenClaim := { program := "ytpilinnhikpcfaa", sum := "b7a0e726cd89379e8e3678608df83bba93d89af0a415d0b72d5736840c0fba1b", func := "loop.example/g00701/laws.FnMatch", spec := "fnMatch", unfollowed := true, recurses := true, apart := false, narrowed := true }
def FnMatchUptoSaid : Prop := fnMatchUptoRow.holds Try.pinned (OpenSpec.upto fnMatchSpec)

end Rows
end Go.Proofs.Ytpilinnhikpcfaa
