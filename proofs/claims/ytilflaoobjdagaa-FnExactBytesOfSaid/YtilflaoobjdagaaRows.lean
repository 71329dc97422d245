/-
  No cell of these rows narrows 'for every input' (looked for: loops, veiled, ifaces, maps, wideKeys, modest, calm, conditions, laid).
  DERIVED. THE GIVEN ROWS OF THIS SEAT. 12 by the template 'for every input the law returns true; each argument reads behind the call as it read before'; 0 by the template 'total and deterministic' (their statements: YtilflaoobjdagaaTotals.lean).
  GIVEN WITH THE SEED: the statements are not yours to turn. If you find one false, say at which input.
  Laid BY PROGRAM, IN A SANDBOX (cutbox-rows.mjs): the forced cells as the released guide's own fill.sh prints them over the translation dd3a74cea4dfb059… (all of the seat's roots in one cut). By AI agents, Wed Nov 11 2026. No macro, syntax, notation, axiom, sorry.
-/
import Derived.Test.YtilflaoobjdagaaChecked
import GoSem.Claim
import GoSem.ClaimJoined
import GoSem.ClaimMapViews
import Derived.JoinedTies
import Derived.KernelRfl
namespace Go.Proofs.Ytilflaoobjdagaa
/- THE CELL 'sum', in the pinned program and in every row, IS THE sha256 OF THE DUMP (.gsa) THAT YtilflaoobjdagaaProg.lean LOADS. Nothing in Lean hashes anything: it is a label: what it is worth is what the hold of that sum in a sandbox is worth. -/
noncomputable def Try.pinned : Pinned := { name := "ytilflaoobjdagaa", sum := "dd3a74cea4dfb059ebeb29152b17a8cd2b380fde74853a630b28af4b5fce3f57", checked := Try.checked }
namespace Rows
def none {H : Type} : Left H := { results := [], args := [] }

/-- 'laws.FnExactConstants': WHATEVER THE INPUT: true; the input reads as it did. -/
def fnExactConstantsSpec : ChangeSpec := { name := "fnExactConstants", fn := fun _ => fun
  | [] => { results := [.lit (.bool true)], args := [] }
  | _ => none }
def fnExactConstantsRow : OpenClaim := { program := "ytilflaoobjdagaa", sum := "dd3a74cea4dfb059ebeb29152b17a8cd2b380fde74853a630b28af4b5fce3f57", func := "loop.example/g00701/laws.FnExactConstants", spec := "fnExactConstants", apart := false }
def FnExactConstantsSaid : Prop := fnExactConstantsRow.holds Try.pinned (OpenSpec.ofChange fnExactConstantsSpec)

/-- ITS FALSE NEIGHBOUR: 'it returns false'. Refute it at one input. -/
def fnExactConstantsWrong : ChangeSpec := { name := "fnExactConstants", fn := fun _ => fun
  | [] => { results := [.lit (.bool false)], args := [] }
  | _ => none }
def FnExactConstantsWrongFalsely : Prop := fnExactConstantsRow.holds Try.pinned (OpenSpec.ofChange fnExactConstantsWrong)

/-- 'laws.FnExactCodeWord': WHATEVER THE INPUT: true; the input reads as it did. -/
def fnExactCodeWordSpec : ChangeSpec := { name := "fnExactCodeWord", fn := fun _ => fun
  | [d] => { results := [.lit (.bool true)], args := [d] }
  | _ => none }
def fnExactCodeWordRow : OpenClaim := { program := "ytilflaoobjdagaa", sum := "dd3a74cea4dfb059ebeb29152b17a8cd2b380fde74853a630b28af4b5fce3f57", func := "loop.example/g00701/laws.FnExactCodeWord", spec := "fnExactCodeWord", apart := false }
def FnExactCodeWordSaid : Prop := fnExactCodeWordRow.holds Try.pinned (OpenSpec.ofChange fnExactCodeWordSpec)

/-- ITS FALSE NEIGHBOUR: 'it returns false'. Refute it at one input. -/
def fnExactCodeWordWrong : ChangeSpec := { name := "fnExactCodeWord", fn := fun _ => fun
  | [d] => { results := [.lit (.bool false)], args := [d] }
  | _ => none }
def FnExactCodeWordWrongFalsely : Prop := fnExactCodeWordRow.holds Try.pinned (OpenSpec.ofChange fnExactCodeWordWrong)

/-- 'laws.FnExactHexOf': WHATEVER THE INPUT: true; the input reads as it did. -/
def fnExactHexOfSpec : ChangeSpec := { name := "fnExactHexOf", fn := fun _ => fun
  | [d] => { results := [.lit (.bool true)], args := [d] }
  | _ => none }
def fnExactHexOfRow : OpenClaim := { program := "ytilflaoobjdagaa", sum := "dd3a74cea4dfb059ebeb29152b17a8cd2b380fde74853a630b28af4b5fce3f57", func := "loop.example/g00701/laws.FnExactHexOf", spec := "fnExactHexOf", apart := false }
def FnExactHexOfSaid : Prop := fnExactHexOfRow.holds Try.pinned (OpenSpec.ofChange fnExactHexOfSpec)

/-- ITS FALSE NEIGHBOUR: 'it returns false'. Refute it at one input. -/
def fnExactHexOfWrong : ChangeSpec := { name := "fnExactHexOf", fn := fun _ => fun
  | [d] => { results := [.lit (.bool false)], args := [d] }
  | _ => none }
def FnExactHexOfWrongFalsely : Prop := fnExactHexOfRow.holds Try.pinned (OpenSpec.ofChange fnExactHexOfWrong)

/-- 'laws.FnExactCodeOf': WHATEVER THE INPUT: true; the input reads as it did. -/
def fnExactCodeOfSpec : ChangeSpec := { name := "fnExactCodeOf", fn := fun _ => fun
  | [d] => { results := [.lit (.bool true)], args := [d] }
  | _ => none }
def fnExactCodeOfRow : OpenClaim := { program := "ytilflaoobjdagaa", sum := "dd3a74cea4dfb059ebeb29152b17a8cd2b380fde74853a630b28af4b5fce3f57", func := "loop.example/g00701/laws.FnExactCodeOf", spec := "fnExactCodeOf", apart := false }
def FnExactCodeOfSaid : Prop := fnExactCodeOfRow.holds Try.pinned (OpenSpec.ofChange fnExactCodeOfSpec)

/-- ITS FALSE NEIGHBOUR: 'it returns false'. Refute it at one input. -/
def fnExactCodeOfWrong : ChangeSpec := { name := "fnExactCodeOf", fn := fun _ => fun
  | [d] => { results := [.lit (.bool false)], args := [d] }
  | _ => none }
def FnExactCodeOfWrongFalsely : Prop := fnExactCodeOfRow.holds Try.pinned (OpenSpec.ofChange fnExactCodeOfWrong)

/-- 'laws.FnExactSumOf': WHATEVER THE INPUT: true; the input reads as it did. -/
def fnExactSumOfSpec : ChangeSpec := { name := "fnExactSumOf", fn := fun _ => fun
  | [d] => { results := [.lit (.bool true)], args := [d] }
  | _ => none }
def fnExactSumOfRow : OpenClaim := { program := "ytilflaoobjdagaa", sum := "dd3a74cea4dfb059ebeb29152b17a8cd2b380fde74853a630b28af4b5fce3f57", func := "loop.example/g00701/laws.FnExactSumOf", spec := "fnExactSumOf", apart := false }
def FnExactSumOfSaid : Prop := fnExactSumOfRow.holds Try.pinned (OpenSpec.ofChange fnExactSumOfSpec)

/-- ITS FALSE NEIGHBOUR: 'it returns false'. Refute it at one input. -/
def fnExactSumOfWrong : ChangeSpec := { name := "fnExactSumOf", fn := fun _ => fun
  | [d] => { results := [.lit (.bool false)], args := [d] }
  | _ => none }
def FnExactSumOfWrongFalsely : Prop := fnExactSumOfRow.holds Try.pinned (OpenSpec.ofChange fnExactSumOfWrong)

/-- 'laws.FnExactNameOK': WHATEVER THE INPUT: true; the input reads as it did. -/
def fnExactNameOKSpec : ChangeSpec := { name := "fnExactNameOK", fn := fun _ => fun
  | [d] => { results := [.lit (.bool true)], args := [d] }
  | _ => none }
def fnExactNameOKRow : OpenClaim := { program := "ytilflaoobjdagaa", sum := "dd3a74cea4dfb059ebeb29152b17a8cd2b380fde74853a630b28af4b5fce3f57", func := "loop.example/g00701/laws.FnExactNameOK", spec := "fnExactNameOK", apart := false }
def FnExactNameOKSaid : Prop := fnExactNameOKRow.holds Try.pinned (OpenSpec.ofChange fnExactNameOKSpec)

/-- ITS FALSE NEIGHBOUR: 'it returns false'. Refute it at one input. -/
def fnExactNameOKWrong : ChangeSpec := { name := "fnExactNameOK", fn := fun _ => fun
  | [d] => { results := [.lit (.bool false)], args := [d] }
  | _ => none }
def FnExactNameOKWrongFalsely : Prop := fnExactNameOKRow.holds Try.pinned (OpenSpec.ofChange fnExactNameOKWrong)

/-- 'laws.FnExactJoinModes': WHATEVER THE INPUT: true; the input reads as it did. -/
def fnExactJoinModesSpec : ChangeSpec := { name := "fnExactJoinModes", fn := fun _ => fun
  | [d1, d2] => { results := [.lit (.bool true)], args := [d1, d2] }
  | _ => none }
def fnExactJoinModesRow : OpenClaim := { program := "ytilflaoobjdagaa", sum := "dd3a74cea4dfb059ebeb29152b17a8cd2b380fde74853a630b28af4b5fce3f57", func := "loop.example/g00701/laws.FnExactJoinModes", spec := "fnExactJoinModes", recurses := true, apart := false }
def FnExactJoinModesSaid : Prop := fnExactJoinModesRow.holds Try.pinned (OpenSpec.ofChange fnExactJoinModesSpec)

/-- ITS FALSE NEIGHBOUR: 'it returns false'. Refute it at one input. -/
def fnExactJoinModesWrong : ChangeSpec := { name := "fnExactJoinModes", fn := fun _ => fun
  | [d1, d2] => { results := [.lit (.bool false)], args := [d1, d2] }
  | _ => none }
def FnExactJoinModesWrongFalsely : Prop := fnExactJoinModesRow.holds Try.pinned (OpenSpec.ofChange fnExactJoinModesWrong)

/-- 'laws.FnExactIntentOf': WHATEVER THE INPUT: true; the input reads as it did. -/
def fnExactIntentOfSpec : ChangeSpec := { name := "fnExactIntentOf", fn := fun _ => fun
  | [d] => { results := [.lit (.bool true)], args := [d] }
  | _ => none }
def fnExactIntentOfRow : OpenClaim := { program := "ytilflaoobjdagaa", sum := "dd3a74cea4dfb059ebeb29152b17a8cd2b380fde74853a630b28af4b5fce3f57", func := "loop.example/g00701/laws.FnExactIntentOf", spec := "fnExactIntentOf", apart := false }
def FnExactIntentOfSaid : Prop := fnExactIntentOfRow.holds Try.pinned (OpenSpec.ofChange fnExactIntentOfSpec)

/-- ITS FALSE NEIGHBOUR: 'it returns false'. Refute it at one input. -/
def fnExactIntentOfWrong : ChangeSpec := { name := "fnExactIntentOf", fn := fun _ => fun
  | [d] => { results := [.lit (.bool false)], args := [d] }
  | _ => none }
def FnExactIntentOfWrongFalsely : Prop := fnExactIntentOfRow.holds Try.pinned (OpenSpec.ofChange fnExactIntentOfWrong)

/-- 'laws.FnExactCompatible': WHATEVER THE INPUT: true; the input reads as it did. -/
def fnExactCompatibleSpec : ChangeSpec := { name := "fnExactCompatible", fn := fun _ => fun
  | [d1, d2] => { results := [.lit (.bool true)], args := [d1, d2] }
  | _ => none }
def fnExactCompatibleRow : OpenClaim := { program := "ytilflaoobjdagaa", sum := "dd3a74cea4dfb059ebeb29152b17a8cd2b380fde74853a630b28af4b5fce3f57", func := "loop.example/g00701/laws.FnExactCompatible", spec := "fnExactCompatible", recurses := true, apart := false }
def FnExactCompatibleSaid : Prop := fnExactCompatibleRow.holds Try.pinned (OpenSpec.ofChange fnExactCompatibleSpec)

/-- ITS FALSE NEIGHBOUR: 'it returns false'. Refute it at one input. -/
def fnExactCompatibleWrong : ChangeSpec := { name := "fnExactCompatible", fn := fun _ => fun
  | [d1, d2] => { results := [.lit (.bool false)], args := [d1, d2] }
  | _ => none }
def FnExactCompatibleWrongFalsely : Prop := fnExactCompatibleRow.holds Try.pinned (OpenSpec.ofChange fnExactCompatibleWrong)

/-- 'laws.FnExactEditOK': WHATEVER THE INPUT: true; the input reads as it did. -/
def fnExactEditOKSpec : ChangeSpec := { name := "fnExactEditOK", fn := fun _ => fun
  | [d] => { results := [.lit (.bool true)], args := [d] }
  | _ => none }
def fnExactEditOKRow : OpenClaim := { program := "ytilflaoobjdagaa", sum := "dd3a74cea4dfb059ebeb29152b17a8cd2b380fde74853a630b28af4b5fce3f57", func := "loop.example/g00701/laws.FnExactEditOK", spec := "fnExactEditOK", apart := false }
def FnExactEditOKSaid : Prop := fnExactEditOKRow.holds Try.pinned (OpenSpec.ofChange fnExactEditOKSpec)

/-- ITS FALSE NEIGHBOUR: 'it returns false'. Refute it at one input. -/
def fnExactEditOKWrong : ChangeSpec := { name := "fnExactEditOK", fn := fun _ => fun
  | [d] => { results := [.lit (.bool false)], args := [d] }
  | _ => none }
def FnExactEditOKWrongFalsely : Prop := fnExactEditOKRow.holds Try.pinned (OpenSpec.ofChange fnExactEditOKWrong)

/-- 'laws.FnExactTakeNumber': WHATEVER THE INPUT: true; the input reads as it did. -/
def fnExactTakeNumberSpec : ChangeSpec := { name := "fnExactTakeNumber", fn := fun _ => fun
  | [d1, d2] => { results := [.lit (.bool true)], args := [d1, d2] }
  | _ => none }
def fnExactTakeNumberRow : OpenClaim := { program := "ytilflaoobjdagaa", sum := "dd3a74cea4dfb059ebeb29152b17a8cd2b380fde74853a630b28af4b5fce3f57", func := "loop.example/g00701/laws.FnExactTakeNumber", spec := "fnExactTakeNumber", apart := false }
def FnExactTakeNumberSaid : Prop := fnExactTakeNumberRow.holds Try.pinned (OpenSpec.ofChange fnExactTakeNumberSpec)

/-- ITS FALSE NEIGHBOUR: 'it returns false'. Refute it at one input. -/
def fnExactTakeNumberWrong : ChangeSpec := { name := "fnExactTakeNumber", fn := fun _ => fun
  | [d1, d2] => { results := [.lit (.bool false)], args := [d1, d2] }
  | _ => none }
def FnExactTakeNumberWrongFalsely : Prop := fnExactTakeNumberRow.holds Try.pinned (OpenSpec.ofChange fnExactTakeNumberWrong)

/-- 'laws.FnExactBytesOf': WHATEVER THE INPUT: true; the input reads as it did. -/
def fnExactBytesOfSpec : ChangeSpec := { name := "fnExactBytesOf", fn := fun _ => fun
  | [d] => { results := [.lit (.bool true)], args := [d] }
  | _ => none }
def fnExactBytesOfRow : OpenClaim := { program := "ytilflaoobjdagaa", sum := "dd3a74cea4dfb059ebeb29152b17a8cd2b380fde74853a630b28af4b5fce3f57", func := "loop.example/g00701/laws.FnExactBytesOf", spec := "fnExactBytesOf", inPlace := ["internal/bytealg.IndexByteString"], apart := false }
def FnExactBytesOfSaid : Prop := fnExactBytesOfRow.holds Try.pinned (OpenSpec.ofChange fnExactBytesOfSpec)

/-- ITS FALSE NEIGHBOUR: 'it returns false'. Refute it at one input. -/
def fnExactBytesOfWrong : ChangeSpec := { name := "fnExactBytesOf", fn := fun _ => fun
  | [d] => { results := [.lit (.bool false)], args := [d] }
  | _ => none }
def FnExactBytesOfWrongFalsely : Prop := fnExactBytesOfRow.holds Try.pinned (OpenSpec.ofChange fnExactBytesOfWrong)

/- THE SECOND FORM. 'bulk': how many values and letters a reading holds, each counted each time it is reached (what is shared counts as often as it is met; a slice's spare places count too). A statement '..UptoSaid' is the law's where the arguments, and the package variables that the reading takes, are together of bulk at most 1048576: NARROWER than '..Said'. Prove '..Said' where nothing that the law and all that it calls make is longer than what came in: it says more and counts as full. Else prove '..UptoSaid'. A law counts once. -/
mutual
def uptoBulk {H : Type} : DataW H → Nat
  | .lit (.string bytes) => bytes.length + 1
  | .lit _ => 1
  | .nil => 1
  | .ptr d => uptoBulk d + 1
  | .slice elems spare => uptoBulkAll elems + uptoBulkAll spare + 1
  | .agg parts => uptoBulkAll parts + 1
  | .iface _ d => uptoBulk d + 1
  | .map entries => uptoBulkEntries entries + 1
  | .held _ => 1
def uptoBulkAll {H : Type} : List (DataW H) → Nat
  | [] => 0
  | d :: r => uptoBulk d + uptoBulkAll r
def uptoBulkEntries {H : Type} : List (Lit × DataW H) → Nat
  | [] => 0
  | x :: r => uptoBulkEntry x + uptoBulkEntries r
def uptoBulkEntry {H : Type} : Lit × DataW H → Nat
  | (.string bytes, d) => bytes.length + uptoBulk d + 1
  | (_, d) => uptoBulk d + 1
 end
def uptoSmall : (H : Type) → List (DataW H) → Bool := fun _ ds => decide (uptoBulkAll ds ≤ 1048576)
def OpenSpec.upto (s : _root_.Go.ChangeSpec) : _root_.Go.OpenSpec := { _root_.Go.OpenSpec.ofChange s with cond := some uptoSmall }

/-- 'laws.FnExactConstants', WHERE WHAT IT READS IS OF BULK AT MOST 1048576: true; the input reads as it did. -/
def fnExactConstantsUptoRow : OpenClaim := { program := "ytilflaoobjdagaa", sum := "dd3a74cea4dfb059ebeb29152b17a8cd2b380fde74853a630b28af4b5fce3f57", func := "loop.example/g00701/laws.FnExactConstants", spec := "fnExactConstants", apart := false, narrowed := true }
def FnExactConstantsUptoSaid : Prop := fnExactConstantsUptoRow.holds Try.pinned (OpenSpec.upto fnExactConstantsSpec)

/-- 'laws.FnExactCodeWord', WHERE WHAT IT READS IS OF BULK AT MOST 1048576: true; the input reads as it did. -/
def fnExactCodeWordUptoRow : OpenClaim := { program := "ytilflaoobjdagaa", sum := "dd3a74cea4dfb059ebeb29152b17a8cd2b380fde74853a630b28af4b5fce3f57", func := "loop.example/g00701/laws.FnExactCodeWord", spec := "fnExactCodeWord", apart := false, narrowed := true }
def FnExactCodeWordUptoSaid : Prop := fnExactCodeWordUptoRow.holds Try.pinned (OpenSpec.upto fnExactCodeWordSpec)

/-- 'laws.FnExactHexOf', WHERE WHAT IT READS IS OF BULK AT MOST 1048576: true; the input reads as it did. -/
def fnExactHexOfUptoRow : OpenClaim := { program := "ytilflaoobjdagaa", sum := "dd3a74cea4dfb059ebeb29152b17a8cd2b380fde74853a630b28af4b5fce3f57", func := "loop.example/g00701/laws.FnExactHexOf", spec := "fnExactHexOf", apart := false, narrowed := true }
def FnExactHexOfUptoSaid : Prop := fnExactHexOfUptoRow.holds Try.pinned (OpenSpec.upto fnExactHexOfSpec)

/-- 'laws.FnExactCodeOf', WHERE WHAT IT READS IS OF BULK AT MOST 1048576: true; the input reads as it did. -/
def fnExactCodeOfUptoRow : OpenClaim := { program := "ytilflaoobjdagaa", sum := "dd3a74cea4dfb059ebeb29152b17a8cd2b380fde74853a630b28af4b5fce3f57", func := "loop.example/g00701/laws.FnExactCodeOf", spec := "fnExactCodeOf", apart := false, narrowed := true }
def FnExactCodeOfUptoSaid : Prop := fnExactCodeOfUptoRow.holds Try.pinned (OpenSpec.upto fnExactCodeOfSpec)

/-- 'laws.FnExactSumOf', WHERE WHAT IT READS IS OF BULK AT MOST 1048576: true; the input reads as it did. -/
def fnExactSumOfUptoRow : OpenClaim := { program := "ytilflaoobjdagaa", sum := "dd3a74cea4dfb059ebeb29152b17a8cd2b380fde74853a630b28af4b5fce3f57", func := "loop.example/g00701/laws.FnExactSumOf", spec := "fnExactSumOf", apart := false, narrowed := true }
def FnExactSumOfUptoSaid : Prop := fnExactSumOfUptoRow.holds Try.pinned (OpenSpec.upto fnExactSumOfSpec)

/-- 'laws.FnExactNameOK', WHERE WHAT IT READS IS OF BULK AT MOST 1048576: true; the input reads as it did. -/
def fnExactNameOKUptoRow : OpenClaim := { program := "ytilflaoobjdagaa", sum := "dd3a74cea4dfb059ebeb29152b17a8cd2b380fde74853a630b28af4b5fce3f57", func := "loop.example/g00701/laws.FnExactNameOK", spec := "fnExactNameOK", apart := false, narrowed := true }
def FnExactNameOKUptoSaid : Prop := fnExactNameOKUptoRow.holds Try.pinned (OpenSpec.upto fnExactNameOKSpec)

/-- 'laws.FnExactJoinModes', WHERE WHAT IT READS IS OF BULK AT MOST 1048576: true; the input reads as it did. -/
def fnExactJoinModesUptoRow : OpenClaim := { program := "ytilflaoobjdagaa", sum := "dd3a74cea4dfb059ebeb29152b17a8cd2b380fde74853a630b28af4b5fce3f57", func := "loop.example/g00701/laws.FnExactJoinModes", spec := "fnExactJoinModes", recurses := true, apart := false, narrowed := true }
def FnExactJoinModesUptoSaid : Prop := fnExactJoinModesUptoRow.holds Try.pinned (OpenSpec.upto fnExactJoinModesSpec)

/-- 'laws.FnExactIntentOf', WHERE WHAT IT READS IS OF BULK AT MOST 1048576: true; the input reads as it did. -/
def fnExactIntentOfUptoRow : OpenClaim := { program := "ytilflaoobjdagaa", sum := "dd3a74cea4dfb059ebeb29152b17a8cd2b380fde74853a630b28af4b5fce3f57", func := "loop.example/g00701/laws.FnExactIntentOf", spec := "fnExactIntentOf", apart := false, narrowed := true }
def FnExactIntentOfUptoSaid : Prop := fnExactIntentOfUptoRow.holds Try.pinned (OpenSpec.upto fnExactIntentOfSpec)

/-- 'laws.FnExactCompatible', WHERE WHAT IT READS IS OF BULK AT MOST 1048576: true; the input reads as it did. -/
def fnExactCompatibleUptoRow : OpenClaim := { program := "ytilflaoobjdagaa", sum := "dd3a74cea4dfb059ebeb29152b17a8cd2b380fde74853a630b28af4b5fce3f57", func := "loop.example/g00701/laws.FnExactCompatible", spec := "fnExactCompatible", recurses := true, apart := false, narrowed := true }
def FnExactCompatibleUptoSaid : Prop := fnExactCompatibleUptoRow.holds Try.pinned (OpenSpec.upto fnExactCompatibleSpec)

/-- 'laws.FnExactEditOK', WHERE WHAT IT READS IS OF BULK AT MOST 1048576: true; the input reads as it did. -/
def fnExactEditOKUptoRow : OpenClaim := { program := "ytilflaoobjdagaa", sum := "dd3a74cea4dfb059ebeb29152b17a8cd2b380fde74853a630b28af4b5fce3f57", func := "loop.example/g00701/laws.FnExactEditOK", spec := "fnExactEditOK", apart := false, narrowed := true }
def FnExactEditOKUptoSaid : Prop := fnExactEditOKUptoRow.holds Try.pinned (OpenSpec.upto fnExactEditOKSpec)

/-- 'laws.FnExactTakeNumber', WHERE WHAT IT READS IS OF BULK AT MOST 1048576: true; the input reads as it did. -/
def fnExactTakeNumberUptoRow : OpenClaim := { program := "ytilflaoobjdagaa", sum := "dd3a74cea4dfb059ebeb29152b17a8cd2b380fde74853a630b28af4b5fce3f57", func := "loop.example/g00701/laws.FnExactTakeNumber", spec := "fnExactTakeNumber", apart := false, narrowed := true }
def FnExactTakeNumberUptoSaid : Prop := fnExactTakeNumberUptoRow.holds Try.pinned (OpenSpec.upto fnExactTakeNumberSpec)

/-- 'laws.FnExactBytesOf', WHERE WHAT IT READS IS OF BULK AT MOST 1048576: true; the input reads as it did. -/
def fnExactBytesOfUptoRow : OpenClaim := { program := "ytilflaoobjdagaa", sum := "dd3a74cea4dfb059ebeb29152b17a8cd2b380fde74853a630b28af4b5fce3f57", func := "loop.example/g00701/laws.FnExactBytesOf", spec := "fnExactBytesOf", inPlace := ["internal/bytealg.IndexByteString"], apart := false, narrowed := true }
def FnExactBytesOfUptoSaid : Prop := fnExactBytesOfUptoRow.holds Try.pinned (OpenSpec.upto fnExactBytesOfSpec)

end Rows
end Go.Proofs.Ytilflaoobjdagaa
