/-
  No cell of these rows narrows 'for every input' (looked for: loops, veiled, ifaces, maps, wideKeys, modest, calm, conditions, laid).
  DERIVED. THE GIVEN ROWS OF THIS SEAT. 7 by the template 'for every input the law returns true; each argument reads behind the call as it read before'; 0 by the template 'total and deterministic' (their statements: YtnanfenogmpemaaTotals.lean).
  GIVEN WITH THE SEED: the statements are not yours to turn. If you find one false, say at which input.
  Laid BY PROGRAM, IN A SANDBOX (cutbox-rows.mjs): the forced cells as the released guide's own fill.sh prints them over the translation ab3ff83d34348f08… (all of the seat's roots in one cut). By AI agents, Wed Nov 11 2026. No macro, syntax, notation, axiom, sorry.
-/
import Derived.Test.YtnanfenogmpemaaChecked
import GoSem.Claim
import GoSem.ClaimJoined
import GoSem.ClaimMapViews
import Derived.JoinedTies
import Derived.KernelRfl
namespace Go.Proofs.Ytnanfenogmpemaa
/- THE CELL 'sum', in the pinned program and in every row, IS THE sha256 OF THE DUMP (.gsa) THAT YtnanfenogmpemaaProg.lean LOADS. Nothing in Lean hashes anything: it is a label: what it is worth is what the hold of that sum in a sandbox is worth. -/
noncomputable def Try.pinned : Pinned := { name := "ytnanfenogmpemaa", sum := "ab3ff83d34348f08d4c785ca1c8d2447f2688cf03b189a8bffa3708d686d9b6a", checked := Try.checked }
namespace Rows
def none {H : Type} : Left H := { results := [], args := [] }

/-- 'laws.FnExactTableOK': WHATEVER THE INPUT: true; the input reads as it did. -/
def fnExactTableOKSpec : ChangeSpec := { name := "fnExactTableOK", fn := fun _ => fun
  | [d1, d2] => { results := [.lit (.bool true)], args := [d1, d2] }
  | _ => none }
def fnExactTableOKRow : OpenClaim := { program := "ytnanfenogmpemaa", sum := "ab3ff83d34348f08d4c785ca1c8d2447f2688cf03b189a8bffa3708d686d9b6a", func := "loop.example/g00701/laws.FnExactTableOK", spec := "fnExactTableOK", unfollowed := true, recurses := true, apart := false }
def FnExactTableOKSaid : Prop := fnExactTableOKRow.holds Try.pinned (OpenSpec.ofChange fnExactTableOKSpec)

/-- ITS FALSE NEIGHBOUR: 'it returns false'. Refute it at one input. -/
def fnExactTableOKWrong : ChangeSpec := { name := "fnExactTableOK", fn := fun _ => fun
  | [d1, d2] => { results := [.lit (.bool false)], args := [d1, d2] }
  | _ => none }
def FnExactTableOKWrongFalsely : Prop := fnExactTableOKRow.holds Try.pinned (OpenSpec.ofChange fnExactTableOKWrong)

/-- 'laws.FnExactCoverOf': WHATEVER THE INPUT: true; the input reads as it did. -/
def fnExactCoverOfSpec : ChangeSpec := { name := "fnExactCoverOf", fn := fun _ => fun
  | [d1, d2, d3, d4] => { results := [.lit (.bool true)], args := [d1, d2, d3, d4] }
  | _ => none }
def fnExactCoverOfRow : OpenClaim := { program := "ytnanfenogmpemaa", sum := "ab3ff83d34348f08d4c785ca1c8d2447f2688cf03b189a8bffa3708d686d9b6a", func := "loop.example/g00701/laws.FnExactCoverOf", spec := "fnExactCoverOf", unfollowed := true, recurses := true, apart := false }
def FnExactCoverOfSaid : Prop := fnExactCoverOfRow.holds Try.pinned (OpenSpec.ofChange fnExactCoverOfSpec)

/-- ITS FALSE NEIGHBOUR: 'it returns false'. Refute it at one input. -/
def fnExactCoverOfWrong : ChangeSpec := { name := "fnExactCoverOf", fn := fun _ => fun
  | [d1, d2, d3, d4] => { results := [.lit (.bool false)], args := [d1, d2, d3, d4] }
  | _ => none }
def FnExactCoverOfWrongFalsely : Prop := fnExactCoverOfRow.holds Try.pinned (OpenSpec.ofChange fnExactCoverOfWrong)

/-- 'laws.FnExactModeAt': WHATEVER THE INPUT: true; the input reads as it did. -/
def fnExactModeAtSpec : ChangeSpec := { name := "fnExactModeAt", fn := fun _ => fun
  | [d1, d2, d3, d4] => { results := [.lit (.bool true)], args := [d1, d2, d3, d4] }
  | _ => none }
def fnExactModeAtRow : OpenClaim := { program := "ytnanfenogmpemaa", sum := "ab3ff83d34348f08d4c785ca1c8d2447f2688cf03b189a8bffa3708d686d9b6a", func := "loop.example/g00701/laws.FnExactModeAt", spec := "fnExactModeAt", unfollowed := true, recurses := true, apart := false }
def FnExactModeAtSaid : Prop := fnExactModeAtRow.holds Try.pinned (OpenSpec.ofChange fnExactModeAtSpec)

/-- ITS FALSE NEIGHBOUR: 'it returns false'. Refute it at one input. -/
def fnExactModeAtWrong : ChangeSpec := { name := "fnExactModeAt", fn := fun _ => fun
  | [d1, d2, d3, d4] => { results := [.lit (.bool false)], args := [d1, d2, d3, d4] }
  | _ => none }
def FnExactModeAtWrongFalsely : Prop := fnExactModeAtRow.holds Try.pinned (OpenSpec.ofChange fnExactModeAtWrong)

/-- 'laws.FnExactDropHold': WHATEVER THE INPUT: true; the input reads as it did. -/
def fnExactDropHoldSpec : ChangeSpec := { name := "fnExactDropHold", fn := fun _ => fun
  | [d1, d2, d3, d4] => { results := [.lit (.bool true)], args := [d1, d2, d3, d4] }
  | _ => none }
def fnExactDropHoldRow : OpenClaim := { program := "ytnanfenogmpemaa", sum := "ab3ff83d34348f08d4c785ca1c8d2447f2688cf03b189a8bffa3708d686d9b6a", func := "loop.example/g00701/laws.FnExactDropHold", spec := "fnExactDropHold", unfollowed := true, recurses := true, apart := false }
def FnExactDropHoldSaid : Prop := fnExactDropHoldRow.holds Try.pinned (OpenSpec.ofChange fnExactDropHoldSpec)

/-- ITS FALSE NEIGHBOUR: 'it returns false'. Refute it at one input. -/
def fnExactDropHoldWrong : ChangeSpec := { name := "fnExactDropHold", fn := fun _ => fun
  | [d1, d2, d3, d4] => { results := [.lit (.bool false)], args := [d1, d2, d3, d4] }
  | _ => none }
def FnExactDropHoldWrongFalsely : Prop := fnExactDropHoldRow.holds Try.pinned (OpenSpec.ofChange fnExactDropHoldWrong)

/-- 'laws.FnExactPutHold': WHATEVER THE INPUT: true; the input reads as it did. -/
def fnExactPutHoldSpec : ChangeSpec := { name := "fnExactPutHold", fn := fun _ => fun
  | [d1, d2, d3] => { results := [.lit (.bool true)], args := [d1, d2, d3] }
  | _ => none }
def fnExactPutHoldRow : OpenClaim := { program := "ytnanfenogmpemaa", sum := "ab3ff83d34348f08d4c785ca1c8d2447f2688cf03b189a8bffa3708d686d9b6a", func := "loop.example/g00701/laws.FnExactPutHold", spec := "fnExactPutHold", inPlace := ["slices.overlaps[loop.example/g00701/impl.Hold]"], unfollowed := true, recurses := true, apart := false }
def FnExactPutHoldSaid : Prop := fnExactPutHoldRow.holds Try.pinned (OpenSpec.ofChange fnExactPutHoldSpec)

/-- ITS FALSE NEIGHBOUR: 'it returns false'. Refute it at one input. -/
def fnExactPutHoldWrong : ChangeSpec := { name := "fnExactPutHold", fn := fun _ => fun
  | [d1, d2, d3] => { results := [.lit (.bool false)], args := [d1, d2, d3] }
  | _ => none }
def FnExactPutHoldWrongFalsely : Prop := fnExactPutHoldRow.holds Try.pinned (OpenSpec.ofChange fnExactPutHoldWrong)

/-- 'laws.FnExactPeaceful': WHATEVER THE INPUT: true; the input reads as it did. -/
def fnExactPeacefulSpec : ChangeSpec := { name := "fnExactPeaceful", fn := fun _ => fun
  | [d1, d2] => { results := [.lit (.bool true)], args := [d1, d2] }
  | _ => none }
def fnExactPeacefulRow : OpenClaim := { program := "ytnanfenogmpemaa", sum := "ab3ff83d34348f08d4c785ca1c8d2447f2688cf03b189a8bffa3708d686d9b6a", func := "loop.example/g00701/laws.FnExactPeaceful", spec := "fnExactPeaceful", unfollowed := true, recurses := true, apart := false }
def FnExactPeacefulSaid : Prop := fnExactPeacefulRow.holds Try.pinned (OpenSpec.ofChange fnExactPeacefulSpec)

/-- ITS FALSE NEIGHBOUR: 'it returns false'. Refute it at one input. -/
def fnExactPeacefulWrong : ChangeSpec := { name := "fnExactPeaceful", fn := fun _ => fun
  | [d1, d2] => { results := [.lit (.bool false)], args := [d1, d2] }
  | _ => none }
def FnExactPeacefulWrongFalsely : Prop := fnExactPeacefulRow.holds Try.pinned (OpenSpec.ofChange fnExactPeacefulWrong)

/-- 'laws.FnCover': WHATEVER THE INPUT: true; the input reads as it did. -/
def fnCoverSpec : ChangeSpec := { name := "fnCover", fn := fun _ => fun
  | [d1, d2] => { results := [.lit (.bool true)], args := [d1, d2] }
  | _ => none }
def fnCoverRow : OpenClaim := { program := "ytnanfenogmpemaa", sum := "ab3ff83d34348f08d4c785ca1c8d2447f2688cf03b189a8bffa3708d686d9b6a", func := "loop.example/g00701/laws.FnCover", spec := "fnCover", unfollowed := true, recurses := true, apart := false }
def FnCoverSaid : Prop := fnCoverRow.holds Try.pinned (OpenSpec.ofChange fnCoverSpec)

/-- ITS FALSE NEIGHBOUR: 'it returns false'. Refute it at one input. -/
def fnCoverWrong : ChangeSpec := { name := "fnCover", fn := fun _ => fun
  | [d1, d2] => { results := [.lit (.bool false)], args := [d1, d2] }
  | _ => none }
def FnCoverWrongFalsely : Prop := fnCoverRow.holds Try.pinned (OpenSpec.ofChange fnCoverWrong)

/- THE SECOND FORM. 'bulk': how many values and letters a reading holds, each counted each time it is reached (what is shared counts as often as it is met; a slice's spare places count too). A statement '..UptoSaid' is the law's where the arguments, and the package variables that the reading takes, are together of bulk at most 1048576: NARROWER than '..Said'. Prove '..Said' where nothing that the law and all that it calls make is longer than what came in: it says more and counts as full. Else prove '..UptoSaid'. A law counts once. -/
mutual
def uptoBulk {H : Type} : DataW H → Nat
  | .lit (.string bytes) => bytes.length + 1
  | .lit _ => 1
  | .nil => 1
  | .ptr d => uptoBulk d + 1
  | .slice elems spare => uptoBulkAll elems + uptoBulkAll spare + 1
  | .agg parts => uptoBulkAll parts + 1
  | .iface _ d => uptoBulk d + 1
  | .map entries => uptoBulkEntries entries + 1
  | .held _ => 1
def uptoBulkAll {H : Type} : List (DataW H) → Nat
  | [] => 0
  | d :: r => uptoBulk d + uptoBulkAll r
def uptoBulkEntries {H : Type} : List (Lit × DataW H) → Nat
  | [] => 0
  | x :: r => uptoBulkEntry x + uptoBulkEntries r
def uptoBulkEntry {H : Type} : Lit × DataW H → Nat
  | (.string bytes, d) => bytes.length + uptoBulk d + 1
  | (_, d) => uptoBulk d + 1
 end
def uptoSmall : (H : Type) → List (DataW H) → Bool := fun _ ds => decide (uptoBulkAll ds ≤ 1048576)
def OpenSpec.upto (s : _root_.Go.ChangeSpec) : _root_.Go.OpenSpec := { _root_.Go.OpenSpec.ofChange s with cond := some uptoSmall }

/-- 'laws.FnExactTableOK', WHERE WHAT IT READS IS OF BULK AT MOST 1048576: true; the input reads as it did. -/
def fnExactTableOKUptoRow : OpenClaim := { program := "ytnanfenogmpemaa", sum := "ab3ff83d34348f08d4c785ca1c8d2447f2688cf03b189a8bffa3708d686d9b6a", func := "loop.example/g00701/laws.FnExactTableOK", spec := "fnExactTableOK", unfollowed := true, recurses := true, apart := false, narrowed := true }
def FnExactTableOKUptoSaid : Prop := fnExactTableOKUptoRow.holds Try.pinned (OpenSpec.upto fnExactTableOKSpec)

/-- 'laws.FnExactCoverOf', WHERE WHAT IT READS IS OF BULK AT MOST 1048576: true; the input reads as it did. -/
def fnExactCoverOfUptoRow : OpenClaim := { program := "ytnanfenogmpemaa", sum := "ab3ff83d34348f08d4c785ca1c8d2447f2688cf03b189a8bffa3708d686d9b6a", func := "loop.example/g00701/laws.FnExactCoverOf", spec := "fnExactCoverOf", unfollowed := true, recurses := true, apart := false, narrowed := true }
def FnExactCoverOfUptoSaid : Prop := fnExactCoverOfUptoRow.holds Try.pinned (OpenSpec.upto fnExactCoverOfSpec)

/-- 'laws.FnExactModeAt', WHERE WHAT IT READS IS OF BULK AT MOST 1048576: true; the input reads as it did. -/
def fnExactModeAtUptoRow : OpenClaim := { program := "ytnanfenogmpemaa", sum := "ab3ff83d34348f08d4c785ca1c8d2447f2688cf03b189a8bffa3708d686d9b6a", func := "loop.example/g00701/laws.FnExactModeAt", spec := "fnExactModeAt", unfollowed := true, recurses := true, apart := false, narrowed := true }
def FnExactModeAtUptoSaid : Prop := fnExactModeAtUptoRow.holds Try.pinned (OpenSpec.upto fnExactModeAtSpec)

/-- 'laws.FnExactDropHold', WHERE WHAT IT READS IS OF BULK AT MOST 1048576: true; the input reads as it did. -/
def fnExactDropHoldUptoRow : OpenClaim := { program := "ytnanfenogmpemaa", sum := "ab3ff83d34348f08d4c785ca1c8d2447f2688cf03b189a8bffa3708d686d9b6a", func := "loop.example/g00701/laws.FnExactDropHold", spec := "fnExactDropHold", unfollowed := true, recurses := true, apart := false, narrowed := true }
def FnExactDropHoldUptoSaid : Prop := fnExactDropHoldUptoRow.holds Try.pinned (OpenSpec.upto fnExactDropHoldSpec)

/-- 'laws.FnExactPutHold', WHERE WHAT IT READS IS OF BULK AT MOST 1048576: true; the input reads as it did. -/
def fnExactPutHoldUptoRow : OpenClaim := { program := "ytnanfenogmpemaa", sum := "ab3ff83d34348f08d4c785ca1c8d2447f2688cf03b189a8bffa3708d686d9b6a", func := "loop.example/g00701/laws.FnExactPutHold", spec := "fnExactPutHold", inPlace := ["slices.overlaps[loop.example/g00701/impl.Hold]"], unfollowed := true, recurses := true, apart := false, narrowed := true }
def FnExactPutHoldUptoSaid : Prop := fnExactPutHoldUptoRow.holds Try.pinned (OpenSpec.upto fnExactPutHoldSpec)

/-- 'laws.FnExactPeaceful', WHERE WHAT IT READS IS OF BULK AT MOST 1048576: true; the input reads as it did. -/
def fnExactPeacefulUptoRow : OpenClaim := { program := "ytnanfenogmpemaa", sum := "ab3ff83d34348f08d4c785ca1c8d2447f2688cf03b189a8bffa3708d686d9b6a", func := "loop.example/g00701/laws.FnExactPeaceful", spec := "fnExactPeaceful", unfollowed := true, recurses := true, apart := false, narrowed := true }
def FnExactPeacefulUptoSaid : Prop := fnExactPeacefulUptoRow.holds Try.pinned (OpenSpec.upto fnExactPeacefulSpec)

/-- 'laws.FnCover', WHERE WHAT IT READS IS OF BULK AT MOST 1048576: true; the input reads as it did. -/
def fnCoverUptoRow : OpenClaim := { program := "ytnanfenogmpemaa", sum := "ab3ff83d34348f08d4c785ca1c8d2447f2688cf03b189a8bffa3708d686d9b6a", func := "loop.example/g00701/laws.FnCover", spec := "fnCover", unfollowed := true, recurses := true, apart := false, narrowed := true }
def FnCoverUptoSaid : Prop := fnCoverUptoRow.holds Try.pinned (OpenSpec.upto fnCoverSpec)

end Rows
end Go.Proofs.Ytnanfenogmpemaa
