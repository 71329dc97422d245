/-
  No cell of these rows narrows 'for every input' (looked for: loops, veiled, ifaces, maps, wideKeys, modest, calm, conditions, laid).
  DERIVED. THE GIVEN ROWS OF THIS SEAT. 10 by the template 'for every input the law returns true; each argument reads behind the call as it read before'; 0 by the template 'total and deterministic' (their statements: YtpdhccdmbdbdpaaTotals.lean).
  GIVEN WITH THE SEED: the statements are not yours to turn. If you find one false, say at which input.
  Laid BY PROGRAM, IN A SANDBOX (cutbox-rows.mjs): the forced cells as the released guide's own fill.sh prints them over the translation 25ff0b0e72fef4f3… (all of the seat's roots in one cut). By AI agents, Wed Nov 11 2026. No macro, syntax, notation, axiom, sorry.
-/
import Derived.Test.YtpdhccdmbdbdpaaChecked
import GoSem.Claim
import GoSem.ClaimJoined
import GoSem.ClaimMapViews
import Derived.JoinedTies
import Derived.KernelRfl
namespace Go.Proofs.Ytpdhccdmbdbdpaa
/- THE CELL 'sum', in the pinned program and in every row, IS THE sha256 OF THE DUMP (.gsa) THAT YtpdhccdmbdbdpaaProg.lean LOADS. Nothing in Lean hashes anything: it is a label: what it is worth is what the hold of that sum in a sandbox is worth. -/
noncomputable def Try.pinned : Pinned := { name := "ytpdhccdmbdbdpaa", sum := "25ff0b0e72fef4f3d057da87fa0f88ae378c2041cee5fb0753e5cebab3830a18", checked := Try.checked }
namespace Rows
def none {H : Type} : Left H := { results := [], args := [] }

/-- 'laws.FnExactSameShape': WHATEVER THE INPUT: true; the input reads as it did. -/
def fnExactSameShapeSpec : ChangeSpec := { name := "fnExactSameShape", fn := fun _ => fun
  | [d1, d2] => { results := [.lit (.bool true)], args := [d1, d2] }
  | _ => none }
def fnExactSameShapeRow : OpenClaim := { program := "ytpdhccdmbdbdpaa", sum := "25ff0b0e72fef4f3d057da87fa0f88ae378c2041cee5fb0753e5cebab3830a18", func := "loop.example/g00701/laws.FnExactSameShape", spec := "fnExactSameShape", unfollowed := true, recurses := true, apart := false }
def FnExactSameShapeSaid : Prop := fnExactSameShapeRow.holds Try.pinned (OpenSpec.ofChange fnExactSameShapeSpec)

/-- ITS FALSE NEIGHBOUR: 'it returns false'. Refute it at one input. -/
def fnExactSameShapeWrong : ChangeSpec := { name := "fnExactSameShape", fn := fun _ => fun
  | [d1, d2] => { results := [.lit (.bool false)], args := [d1, d2] }
  | _ => none }
def FnExactSameShapeWrongFalsely : Prop := fnExactSameShapeRow.holds Try.pinned (OpenSpec.ofChange fnExactSameShapeWrong)

/-- 'laws.FnExactParentOf': WHATEVER THE INPUT: true; the input reads as it did. -/
def fnExactParentOfSpec : ChangeSpec := { name := "fnExactParentOf", fn := fun _ => fun
  | [d1, d2] => { results := [.lit (.bool true)], args := [d1, d2] }
  | _ => none }
def fnExactParentOfRow : OpenClaim := { program := "ytpdhccdmbdbdpaa", sum := "25ff0b0e72fef4f3d057da87fa0f88ae378c2041cee5fb0753e5cebab3830a18", func := "loop.example/g00701/laws.FnExactParentOf", spec := "fnExactParentOf", unfollowed := true, recurses := true, apart := false }
def FnExactParentOfSaid : Prop := fnExactParentOfRow.holds Try.pinned (OpenSpec.ofChange fnExactParentOfSpec)

/-- ITS FALSE NEIGHBOUR: 'it returns false'. Refute it at one input. -/
def fnExactParentOfWrong : ChangeSpec := { name := "fnExactParentOf", fn := fun _ => fun
  | [d1, d2] => { results := [.lit (.bool false)], args := [d1, d2] }
  | _ => none }
def FnExactParentOfWrongFalsely : Prop := fnExactParentOfRow.holds Try.pinned (OpenSpec.ofChange fnExactParentOfWrong)

/-- 'laws.FnPaths': WHATEVER THE INPUT: true; the input reads as it did. -/
def fnPathsSpec : ChangeSpec := { name := "fnPaths", fn := fun _ => fun
  | [d1, d2] => { results := [.lit (.bool true)], args := [d1, d2] }
  | _ => none }
def fnPathsRow : OpenClaim := { program := "ytpdhccdmbdbdpaa", sum := "25ff0b0e72fef4f3d057da87fa0f88ae378c2041cee5fb0753e5cebab3830a18", func := "loop.example/g00701/laws.FnPaths", spec := "fnPaths", unfollowed := true, recurses := true, apart := false }
def FnPathsSaid : Prop := fnPathsRow.holds Try.pinned (OpenSpec.ofChange fnPathsSpec)

/-- ITS FALSE NEIGHBOUR: 'it returns false'. Refute it at one input. -/
def fnPathsWrong : ChangeSpec := { name := "fnPaths", fn := fun _ => fun
  | [d1, d2] => { results := [.lit (.bool false)], args := [d1, d2] }
  | _ => none }
def FnPathsWrongFalsely : Prop := fnPathsRow.holds Try.pinned (OpenSpec.ofChange fnPathsWrong)

/-- 'laws.FnExactInOrder': WHATEVER THE INPUT: true; the input reads as it did. -/
def fnExactInOrderSpec : ChangeSpec := { name := "fnExactInOrder", fn := fun _ => fun
  | [d1, d2] => { results := [.lit (.bool true)], args := [d1, d2] }
  | _ => none }
def fnExactInOrderRow : OpenClaim := { program := "ytpdhccdmbdbdpaa", sum := "25ff0b0e72fef4f3d057da87fa0f88ae378c2041cee5fb0753e5cebab3830a18", func := "loop.example/g00701/laws.FnExactInOrder", spec := "fnExactInOrder", unfollowed := true, recurses := true, apart := false }
def FnExactInOrderSaid : Prop := fnExactInOrderRow.holds Try.pinned (OpenSpec.ofChange fnExactInOrderSpec)

/-- ITS FALSE NEIGHBOUR: 'it returns false'. Refute it at one input. -/
def fnExactInOrderWrong : ChangeSpec := { name := "fnExactInOrder", fn := fun _ => fun
  | [d1, d2] => { results := [.lit (.bool false)], args := [d1, d2] }
  | _ => none }
def FnExactInOrderWrongFalsely : Prop := fnExactInOrderRow.holds Try.pinned (OpenSpec.ofChange fnExactInOrderWrong)

/-- 'laws.FnExactNodeAt': WHATEVER THE INPUT: true; the input reads as it did. -/
def fnExactNodeAtSpec : ChangeSpec := { name := "fnExactNodeAt", fn := fun _ => fun
  | [d1, d2] => { results := [.lit (.bool true)], args := [d1, d2] }
  | _ => none }
def fnExactNodeAtRow : OpenClaim := { program := "ytpdhccdmbdbdpaa", sum := "25ff0b0e72fef4f3d057da87fa0f88ae378c2041cee5fb0753e5cebab3830a18", func := "loop.example/g00701/laws.FnExactNodeAt", spec := "fnExactNodeAt", unfollowed := true, recurses := true, apart := false }
def FnExactNodeAtSaid : Prop := fnExactNodeAtRow.holds Try.pinned (OpenSpec.ofChange fnExactNodeAtSpec)

/-- ITS FALSE NEIGHBOUR: 'it returns false'. Refute it at one input. -/
def fnExactNodeAtWrong : ChangeSpec := { name := "fnExactNodeAt", fn := fun _ => fun
  | [d1, d2] => { results := [.lit (.bool false)], args := [d1, d2] }
  | _ => none }
def FnExactNodeAtWrongFalsely : Prop := fnExactNodeAtRow.holds Try.pinned (OpenSpec.ofChange fnExactNodeAtWrong)

/-- 'laws.FnExactPathOf': WHATEVER THE INPUT: true; the input reads as it did. -/
def fnExactPathOfSpec : ChangeSpec := { name := "fnExactPathOf", fn := fun _ => fun
  | [d1, d2] => { results := [.lit (.bool true)], args := [d1, d2] }
  | _ => none }
def fnExactPathOfRow : OpenClaim := { program := "ytpdhccdmbdbdpaa", sum := "25ff0b0e72fef4f3d057da87fa0f88ae378c2041cee5fb0753e5cebab3830a18", func := "loop.example/g00701/laws.FnExactPathOf", spec := "fnExactPathOf", unfollowed := true, recurses := true, apart := false }
def FnExactPathOfSaid : Prop := fnExactPathOfRow.holds Try.pinned (OpenSpec.ofChange fnExactPathOfSpec)

/-- ITS FALSE NEIGHBOUR: 'it returns false'. Refute it at one input. -/
def fnExactPathOfWrong : ChangeSpec := { name := "fnExactPathOf", fn := fun _ => fun
  | [d1, d2] => { results := [.lit (.bool false)], args := [d1, d2] }
  | _ => none }
def FnExactPathOfWrongFalsely : Prop := fnExactPathOfRow.holds Try.pinned (OpenSpec.ofChange fnExactPathOfWrong)

/-- 'laws.FnExactCheckNode': WHATEVER THE INPUT: true; the input reads as it did. -/
def fnExactCheckNodeSpec : ChangeSpec := { name := "fnExactCheckNode", fn := fun _ => fun
  | [d1, d2, d3] => { results := [.lit (.bool true)], args := [d1, d2, d3] }
  | _ => none }
def fnExactCheckNodeRow : OpenClaim := { program := "ytpdhccdmbdbdpaa", sum := "25ff0b0e72fef4f3d057da87fa0f88ae378c2041cee5fb0753e5cebab3830a18", func := "loop.example/g00701/laws.FnExactCheckNode", spec := "fnExactCheckNode", unfollowed := true, recurses := true, apart := false }
def FnExactCheckNodeSaid : Prop := fnExactCheckNodeRow.holds Try.pinned (OpenSpec.ofChange fnExactCheckNodeSpec)

/-- ITS FALSE NEIGHBOUR: 'it returns false'. Refute it at one input. -/
def fnExactCheckNodeWrong : ChangeSpec := { name := "fnExactCheckNode", fn := fun _ => fun
  | [d1, d2, d3] => { results := [.lit (.bool false)], args := [d1, d2, d3] }
  | _ => none }
def FnExactCheckNodeWrongFalsely : Prop := fnExactCheckNodeRow.holds Try.pinned (OpenSpec.ofChange fnExactCheckNodeWrong)

/-- 'laws.FnExactLeastDoc': WHATEVER THE INPUT: true; the input reads as it did. -/
def fnExactLeastDocSpec : ChangeSpec := { name := "fnExactLeastDoc", fn := fun _ => fun
  | [d1, d2] => { results := [.lit (.bool true)], args := [d1, d2] }
  | _ => none }
def fnExactLeastDocRow : OpenClaim := { program := "ytpdhccdmbdbdpaa", sum := "25ff0b0e72fef4f3d057da87fa0f88ae378c2041cee5fb0753e5cebab3830a18", func := "loop.example/g00701/laws.FnExactLeastDoc", spec := "fnExactLeastDoc", unfollowed := true, recurses := true, apart := false }
def FnExactLeastDocSaid : Prop := fnExactLeastDocRow.holds Try.pinned (OpenSpec.ofChange fnExactLeastDocSpec)

/-- ITS FALSE NEIGHBOUR: 'it returns false'. Refute it at one input. -/
def fnExactLeastDocWrong : ChangeSpec := { name := "fnExactLeastDoc", fn := fun _ => fun
  | [d1, d2] => { results := [.lit (.bool false)], args := [d1, d2] }
  | _ => none }
def FnExactLeastDocWrongFalsely : Prop := fnExactLeastDocRow.holds Try.pinned (OpenSpec.ofChange fnExactLeastDocWrong)

/-- 'laws.FnExactMayInsert': WHATEVER THE INPUT: true; the input reads as it did. -/
def fnExactMayInsertSpec : ChangeSpec := { name := "fnExactMayInsert", fn := fun _ => fun
  | [d1, d2, d3] => { results := [.lit (.bool true)], args := [d1, d2, d3] }
  | _ => none }
def fnExactMayInsertRow : OpenClaim := { program := "ytpdhccdmbdbdpaa", sum := "25ff0b0e72fef4f3d057da87fa0f88ae378c2041cee5fb0753e5cebab3830a18", func := "loop.example/g00701/laws.FnExactMayInsert", spec := "fnExactMayInsert", inPlace := ["slices.overlaps[int]"], unfollowed := true, recurses := true, apart := false }
def FnExactMayInsertSaid : Prop := fnExactMayInsertRow.holds Try.pinned (OpenSpec.ofChange fnExactMayInsertSpec)

/-- ITS FALSE NEIGHBOUR: 'it returns false'. Refute it at one input. -/
def fnExactMayInsertWrong : ChangeSpec := { name := "fnExactMayInsert", fn := fun _ => fun
  | [d1, d2, d3] => { results := [.lit (.bool false)], args := [d1, d2, d3] }
  | _ => none }
def FnExactMayInsertWrongFalsely : Prop := fnExactMayInsertRow.holds Try.pinned (OpenSpec.ofChange fnExactMayInsertWrong)

/-- 'laws.FnExactSpliceSub': WHATEVER THE INPUT: true; the input reads as it did. -/
def fnExactSpliceSubSpec : ChangeSpec := { name := "fnExactSpliceSub", fn := fun _ => fun
  | [d1, d2] => { results := [.lit (.bool true)], args := [d1, d2] }
  | _ => none }
def fnExactSpliceSubRow : OpenClaim := { program := "ytpdhccdmbdbdpaa", sum := "25ff0b0e72fef4f3d057da87fa0f88ae378c2041cee5fb0753e5cebab3830a18", func := "loop.example/g00701/laws.FnExactSpliceSub", spec := "fnExactSpliceSub", unfollowed := true, recurses := true, apart := false }
def FnExactSpliceSubSaid : Prop := fnExactSpliceSubRow.holds Try.pinned (OpenSpec.ofChange fnExactSpliceSubSpec)

/-- ITS FALSE NEIGHBOUR: 'it returns false'. Refute it at one input. -/
def fnExactSpliceSubWrong : ChangeSpec := { name := "fnExactSpliceSub", fn := fun _ => fun
  | [d1, d2] => { results := [.lit (.bool false)], args := [d1, d2] }
  | _ => none }
def FnExactSpliceSubWrongFalsely : Prop := fnExactSpliceSubRow.holds Try.pinned (OpenSpec.ofChange fnExactSpliceSubWrong)

/- THE SECOND FORM. 'bulk': how many values and letters a reading holds, each counted each time it is reached (what is shared counts as often as it is met; a slice's spare places count too). A statement '..UptoSaid' is the law's where the arguments, and the package variables that the reading takes, are together of bulk at most 1048576: NARROWER than '..Said'. Prove '..Said' where nothing that the law and all that it calls make is longer than what came in: it says more and counts as full. Else prove '..UptoSaid'. A law counts once. -/
mutual
def uptoBulk {H : Type} : DataW H → Nat
  | .lit (.string bytes) => bytes.length + 1
  | .lit _ => 1
  | .nil => 1
  | .ptr d => uptoBulk d + 1
  | .slice elems spare => uptoBulkAll elems + uptoBulkAll spare + 1
  | .agg parts => uptoBulkAll parts + 1
  | .iface _ d => uptoBulk d + 1
  | .map entries => uptoBulkEntries entries + 1
  | .held _ => 1
def uptoBulkAll {H : Type} : List (DataW H) → Nat
  | [] => 0
  | d :: r => uptoBulk d + uptoBulkAll r
def uptoBulkEntries {H : Type} : List (Lit × DataW H) → Nat
  | [] => 0
  | x :: r => uptoBulkEntry x + uptoBulkEntries r
def uptoBulkEntry {H : Type} : Lit × DataW H → Nat
  | (.string bytes, d) => bytes.length + uptoBulk d + 1
  | (_, d) => uptoBulk d + 1
 end
def uptoSmall : (H : Type) → List (DataW H) → Bool := fun _ ds => decide (uptoBulkAll ds ≤ 1048576)
def OpenSpec.upto (s : _root_.Go.ChangeSpec) : _root_.Go.OpenSpec := { _root_.Go.OpenSpec.ofChange s with cond := some uptoSmall }

/-- 'laws.FnExactSameShape', WHERE WHAT IT READS IS OF BULK AT MOST 1048576: true; the input reads as it did. -/
def fnExactSameShapeUptoRow : OpenClaim := { program := "ytpdhccdmbdbdpaa", sum := "25ff0b0e72fef4f3d057da87fa0f88ae378c2041cee5fb0753e5cebab3830a18", func := "loop.example/g00701/laws.FnExactSameShape", spec := "fnExactSameShape", unfollowed := true, recurses := true, apart := false, narrowed := true }
def FnExactSameShapeUptoSaid : Prop := fnExactSameShapeUptoRow.holds Try.pinned (OpenSpec.upto fnExactSameShapeSpec)

/-- 'laws.FnExactParentOf', WHERE WHAT IT READS IS OF BULK AT MOST 1048576: true; the input reads as it did. -/
def fnExactParentOfUptoRow : OpenClaim := { program := "ytpdhccdmbdbdpaa", sum := "25ff0b0e72fef4f3d057da87fa0f88ae378c2041cee5fb0753e5cebab3830a18", func := "loop.example/g00701/laws.FnExactParentOf", spec := "fnExactParentOf", unfollowed := true, recurses := true, apart := false, narrowed := true }
def FnExactParentOfUptoSaid : Prop := fnExactParentOfUptoRow.holds Try.pinned (OpenSpec.upto fnExactParentOfSpec)

/-- 'laws.FnPaths', WHERE WHAT IT READS IS OF BULK AT MOST 1048576: true; the input reads as it did. -/
def fnPathsUptoRow : OpenClaim := { program := "ytpdhccdmbdbdpaa", sum := "25ff0b0e72fef4f3d057da87fa0f88ae378c2041cee5fb0753e5cebab3830a18", func := "loop.example/g00701/laws.FnPaths", spec := "fnPaths", unfollowed := true, recurses := true, apart := false, narrowed := true }
def FnPathsUptoSaid : Prop := fnPathsUptoRow.holds Try.pinned (OpenSpec.upto fnPathsSpec)

/-- 'laws.FnExactInOrder', WHERE WHAT IT READS IS OF BULK AT MOST 1048576: true; the input reads as it did. -/
def fnExactInOrderUptoRow : OpenClaim := { program := "ytpdhccdmbdbdpaa", sum := "25ff0b0e72fef4f3d057da87fa0f88ae378c2041cee5fb0753e5cebab3830a18", func := "loop.example/g00701/laws.FnExactInOrder", spec := "fnExactInOrder", unfollowed := true, recurses := true, apart := false, narrowed := true }
def FnExactInOrderUptoSaid : Prop := fnExactInOrderUptoRow.holds Try.pinned (OpenSpec.upto fnExactInOrderSpec)

/-- 'laws.FnExactNodeAt', WHERE WHAT IT READS IS OF BULK AT MOST 1048576: true; the input reads as it did. -/
def fnExactNodeAtUptoRow : OpenClaim := { program := "ytpdhccdmbdbdpaa", sum := "25ff0b0e72fef4f3d057da87fa0f88ae378c2041cee5fb0753e5cebab3830a18", func := "loop.example/g00701/laws.FnExactNodeAt", spec := "fnExactNodeAt", unfollowed := true, recurses := true, apart := false, narrowed := true }
def FnExactNodeAtUptoSaid : Prop := fnExactNodeAtUptoRow.holds Try.pinned (OpenSpec.upto fnExactNodeAtSpec)

/-- 'laws.FnExactPathOf', WHERE WHAT IT READS IS OF BULK AT MOST 1048576: true; the input reads as it did. -/
def fnExactPathOfUptoRow : OpenClaim := { program := "ytpdhccdmbdbdpaa", sum := "25ff0b0e72fef4f3d057da87fa0f88ae378c2041cee5fb0753e5cebab3830a18", func := "loop.example/g00701/laws.FnExactPathOf", spec := "fnExactPathOf", unfollowed := true, recurses := true, apart := false, narrowed := true }
def FnExactPathOfUptoSaid : Prop := fnExactPathOfUptoRow.holds Try.pinned (OpenSpec.upto fnExactPathOfSpec)

/-- 'laws.FnExactCheckNode', WHERE WHAT IT READS IS OF BULK AT MOST 1048576: true; the input reads as it did. -/
def fnExactCheckNodeUptoRow : OpenClaim := { program := "ytpdhccdmbdbdpaa", sum := "25ff0b0e72fef4f3d057da87fa0f88ae378c2041cee5fb0753e5cebab3830a18", func := "loop.example/g00701/laws.FnExactCheckNode", spec := "fnExactCheckNode", unfollowed := true, recurses := true, apart := false, narrowed := true }
def FnExactCheckNodeUptoSaid : Prop := fnExactCheckNodeUptoRow.holds Try.pinned (OpenSpec.upto fnExactCheckNodeSpec)

/-- 'laws.FnExactLeastDoc', WHERE WHAT IT READS IS OF BULK AT MOST 1048576: true; the input reads as it did. -/
def fnExactLeastDocUptoRow : OpenClaim := { program := "ytpdhccdmbdbdpaa", sum := "25ff0b0e72fef4f3d057da87fa0f88ae378c2041cee5fb0753e5cebab3830a18", func := "loop.example/g00701/laws.FnExactLeastDoc", spec := "fnExactLeastDoc", unfollowed := true, recurses := true, apart := false, narrowed := true }
def FnExactLeastDocUptoSaid : Prop := fnExactLeastDocUptoRow.holds Try.pinned (OpenSpec.upto fnExactLeastDocSpec)

/-- 'laws.FnExactMayInsert', WHERE WHAT IT READS IS OF BULK AT MOST 1048576: true; the input reads as it did. -/
def fnExactMayInsertUptoRow : OpenClaim := { program := "ytpdhccdmbdbdpaa", sum := "25ff0b0e72fef4f3d057da87fa0f88ae378c2041cee5fb0753e5cebab3830a18", func := "loop.example/g00701/laws.FnExactMayInsert", spec := "fnExactMayInsert", inPlace := ["slices.overlaps[int]"], unfollowed := true, recurses := true, apart := false, narrowed := true }
def FnExactMayInsertUptoSaid : Prop := fnExactMayInsertUptoRow.holds Try.pinned (OpenSpec.upto fnExactMayInsertSpec)

/-- 'laws.FnExactSpliceSub', WHERE WHAT IT READS IS OF BULK AT MOST 1048576: true; the input reads as it did. -/
def fnExactSpliceSubUptoRow : OpenClaim := { program := "ytpdhccdmbdbdpaa", sum := "25ff0b0e72fef4f3d057da87fa0f88ae378c2041cee5fb0753e5cebab3830a18", func := "loop.example/g00701/laws.FnExactSpliceSub", spec := "fnExactSpliceSub", unfollowed := true, recurses := true, apart := false, narrowed := true }
def FnExactSpliceSubUptoSaid : Prop := fnExactSpliceSubUptoRow.holds Try.pinned (OpenSpec.upto fnExactSpliceSubSpec)

end Rows
end Go.Proofs.Ytpdhccdmbdbdpaa
