/-
  No cell of these rows narrows 'for every input' (looked for: loops, veiled, ifaces, maps, wideKeys, modest, calm, conditions, laid).
  DERIVED. THE GIVEN ROWS OF THIS SEAT. 4 by the template 'for every input the law returns true; each argument reads behind the call as it read before'; 0 by the template 'total and deterministic' (their statements: YtahhgjkgfbppeaaGreatTotals.lean).
  GIVEN WITH THE SEED: the statements are not yours to turn. If you find one false, say at which input.
  Laid BY PROGRAM, IN A SANDBOX (cutbox-rows.mjs): the forced cells as the released guide's own fill.sh prints them over the translation 3f36577bc9c3c5ef… (all of the seat's roots in one cut). By AI agents, Wed Nov 11 2026. No macro, syntax, notation, axiom, sorry.
-/
import Derived.Test.YtahhgjkgfbppeaaGreatChecked
import GoSem.Claim
import GoSem.ClaimJoined
import GoSem.ClaimMapViews
import Derived.JoinedTies
import Derived.KernelRfl
namespace Go.Proofs.YtahhgjkgfbppeaaGreat
/- THE CELL 'sum', in the pinned program and in every row, IS THE sha256 OF THE DUMP (.gsa) THAT YtahhgjkgfbppeaaGreatProg.lean LOADS. Nothing in Lean hashes anything: it is a label: what it is worth is what the hold of that sum in a sandbox is worth. -/
noncomputable def Tryz.pinned : Pinned := { name := "ytahhgjkgfbppeaagreat", sum := "3f36577bc9c3c5efe606b75fd18f3d126973d4529b0a93827b4aeaffacd3a55a", checked := Tryz.checked }
namespace Rows
def none {H : Type} : Left H := { results := [], args := [] }

/-- 'laws.FnExactConflictsOf': WHATEVER THE INPUT: true; the input reads as it did. -/
def fnExactConflictsOfSpec : ChangeSpec := { name := "fnExactConflictsOf", fn := fun _ => fun
  | [d1, d2, d3] => { results := [.lit (.bool true)], args := [d1, d2, d3] }
  | _ => none }
def fnExactConflictsOfRow : OpenClaim := { program := "ytahhgjkgfbppeaagreat", sum := "3f36577bc9c3c5efe606b75fd18f3d126973d4529b0a93827b4aeaffacd3a55a", func := "loop.example/g00701/laws.FnExactConflictsOf", spec := "fnExactConflictsOf", unfollowed := true, recurses := true, apart := false }
def FnExactConflictsOfSaid : Prop := fnExactConflictsOfRow.holds Tryz.pinned (OpenSpec.ofChange fnExactConflictsOfSpec)

/-- ITS FALSE NEIGHBOUR: 'it returns false'. Refute it at one input. -/
def fnExactConflictsOfWrong : ChangeSpec := { name := "fnExactConflictsOf", fn := fun _ => fun
  | [d1, d2, d3] => { results := [.lit (.bool false)], args := [d1, d2, d3] }
  | _ => none }
def FnExactConflictsOfWrongFalsely : Prop := fnExactConflictsOfRow.holds Tryz.pinned (OpenSpec.ofChange fnExactConflictsOfWrong)

/-- 'laws.FnExactBlockersOf': WHATEVER THE INPUT: true; the input reads as it did. -/
def fnExactBlockersOfSpec : ChangeSpec := { name := "fnExactBlockersOf", fn := fun _ => fun
  | [d1, d2, d3] => { results := [.lit (.bool true)], args := [d1, d2, d3] }
  | _ => none }
def fnExactBlockersOfRow : OpenClaim := { program := "ytahhgjkgfbppeaagreat", sum := "3f36577bc9c3c5efe606b75fd18f3d126973d4529b0a93827b4aeaffacd3a55a", func := "loop.example/g00701/laws.FnExactBlockersOf", spec := "fnExactBlockersOf", unfollowed := true, recurses := true, apart := false }
def FnExactBlockersOfSaid : Prop := fnExactBlockersOfRow.holds Tryz.pinned (OpenSpec.ofChange fnExactBlockersOfSpec)

/-- ITS FALSE NEIGHBOUR: 'it returns false'. Refute it at one input. -/
def fnExactBlockersOfWrong : ChangeSpec := { name := "fnExactBlockersOf", fn := fun _ => fun
  | [d1, d2, d3] => { results := [.lit (.bool false)], args := [d1, d2, d3] }
  | _ => none }
def FnExactBlockersOfWrongFalsely : Prop := fnExactBlockersOfRow.holds Tryz.pinned (OpenSpec.ofChange fnExactBlockersOfWrong)

/-- 'laws.FnExactCircleOf': WHATEVER THE INPUT: true; the input reads as it did. -/
def fnExactCircleOfSpec : ChangeSpec := { name := "fnExactCircleOf", fn := fun _ => fun
  | [d1, d2, d3] => { results := [.lit (.bool true)], args := [d1, d2, d3] }
  | _ => none }
def fnExactCircleOfRow : OpenClaim := { program := "ytahhgjkgfbppeaagreat", sum := "3f36577bc9c3c5efe606b75fd18f3d126973d4529b0a93827b4aeaffacd3a55a", func := "loop.example/g00701/laws.FnExactCircleOf", spec := "fnExactCircleOf", unfollowed := true, recurses := true, apart := false }
def FnExactCircleOfSaid : Prop := fnExactCircleOfRow.holds Tryz.pinned (OpenSpec.ofChange fnExactCircleOfSpec)

/-- ITS FALSE NEIGHBOUR: 'it returns false'. Refute it at one input. -/
def fnExactCircleOfWrong : ChangeSpec := { name := "fnExactCircleOf", fn := fun _ => fun
  | [d1, d2, d3] => { results := [.lit (.bool false)], args := [d1, d2, d3] }
  | _ => none }
def FnExactCircleOfWrongFalsely : Prop := fnExactCircleOfRow.holds Tryz.pinned (OpenSpec.ofChange fnExactCircleOfWrong)

/-- 'laws.FnIntents': WHATEVER THE INPUT: true; the input reads as it did. -/
def fnIntentsSpec : ChangeSpec := { name := "fnIntents", fn := fun _ => fun
  | [d1, d2] => { results := [.lit (.bool true)], args := [d1, d2] }
  | _ => none }
def fnIntentsRow : OpenClaim := { program := "ytahhgjkgfbppeaagreat", sum := "3f36577bc9c3c5efe606b75fd18f3d126973d4529b0a93827b4aeaffacd3a55a", func := "loop.example/g00701/laws.FnIntents", spec := "fnIntents", inPlace := ["slices.overlaps[loop.example/g00701/impl.Hold]"], unfollowed := true, recurses := true, apart := false }
def FnIntentsSaid : Prop := fnIntentsRow.holds Tryz.pinned (OpenSpec.ofChange fnIntentsSpec)

/-- ITS FALSE NEIGHBOUR: 'it returns false'. Refute it at one input. -/
def fnIntentsWrong : ChangeSpec := { name := "fnIntents", fn := fun _ => fun
  | [d1, d2] => { results := [.lit (.bool false)], args := [d1, d2] }
  | _ => none }
def FnIntentsWrongFalsely : Prop := fnIntentsRow.holds Tryz.pinned (OpenSpec.ofChange fnIntentsWrong)

/- THE SECOND FORM. 'bulk': how many values and letters a reading holds, each counted each time it is reached (what is shared counts as often as it is met; a slice's spare places count too). A statement '..UptoSaid' is the law's where the arguments, and the package variables that the reading takes, are together of bulk at most 1048576: NARROWER than '..Said'. Prove '..Said' where nothing that the law and all that it calls make is longer than what came in: it says more and counts as full. Else prove '..UptoSaid'. A law counts once. -/
mutual
def uptoBulk {H : Type} : DataW H → Nat
  | .lit (.string bytes) => bytes.length + 1
  | .lit _ => 1
  | .nil => 1
  | .ptr d => uptoBulk d + 1
  | .slice elems spare => uptoBulkAll elems + uptoBulkAll spare + 1
  | .agg parts => uptoBulkAll parts + 1
  | .iface _ d => uptoBulk d + 1
  | .map entries => uptoBulkEntries entries + 1
  | .held _ => 1
def uptoBulkAll {H : Type} : List (DataW H) → Nat
  | [] => 0
  | d :: r => uptoBulk d + uptoBulkAll r
def uptoBulkEntries {H : Type} : List (Lit × DataW H) → Nat
  | [] => 0
  | x :: r => uptoBulkEntry x + uptoBulkEntries r
def uptoBulkEntry {H : Type} : Lit × DataW H → Nat
  | (.string bytes, d) => bytes.length + uptoBulk d + 1
  | (_, d) => uptoBulk d + 1
 end
def uptoSmall : (H : Type) → List (DataW H) → Bool := fun _ ds => decide (uptoBulkAll ds ≤ 1048576)
def OpenSpec.upto (s : _root_.Go.ChangeSpec) : _root_.Go.OpenSpec := { _root_.Go.OpenSpec.ofChange s with cond := some uptoSmall }

/-- 'laws.FnExactConflictsOf', WHERE WHAT IT READS IS OF BULK AT MOST 1048576: true; the input reads as it did. -/
def fnExactConflictsOfUptoRow : OpenClaim := { program := "ytahhgjkgfbppeaagreat", sum := "3f36577bc9c3c5efe606b75fd18f3d126973d4529b0a93827b4aeaffacd3a55a", func := "loop.example/g00701/laws.FnExactConflictsOf", spec := "fnExactConflictsOf", unfollowed := true, recurses := true, apart := false, narrowed := true }
def FnExactConflictsOfUptoSaid : Prop := fnExactConflictsOfUptoRow.holds Tryz.pinned (OpenSpec.upto fnExactConflictsOfSpec)

/-- 'laws.FnExactBlockersOf', WHERE WHAT IT READS IS OF BULK AT MOST 1048576: true; the input reads as it did. -/
def fnExactBlockersOfUptoRow : OpenClaim := { program := "ytahhgjkgfbppeaagreat", sum := "3f36577bc9c3c5efe606b75fd18f3d126973d4529b0a93827b4aeaffacd3a55a", func := "loop.example/g00701/laws.FnExactBlockersOf", spec := "fnExactBlockersOf", unfollowed := true, recurses := true, apart := false, narrowed := true }
def FnExactBlockersOfUptoSaid : Prop := fnExactBlockersOfUptoRow.holds Tryz.pinned (OpenSpec.upto fnExactBlockersOfSpec)

/-- 'laws.FnExactCircleOf', WHERE WHAT IT READS IS OF BULK AT MOST 1048576: true; the input reads as it did. -/
def fnExactCircleOfUptoRow : OpenClaim := { program := "ytahhgjkgfbppeaagreat", sum := "3f36577bc9c3c5efe606b75fd18f3d126973d4529b0a93827b4aeaffacd3a55a", func := "loop.example/g00701/laws.FnExactCircleOf", spec := "fnExactCircleOf", unfollowed := true, recurses := true, apart := false, narrowed := true }
def FnExactCircleOfUptoSaid : Prop := fnExactCircleOfUptoRow.holds Tryz.pinned (OpenSpec.upto fnExactCircleOfSpec)

/-- 'laws.FnIntents', WHERE WHAT IT READS IS OF BULK AT MOST 1048576: true; the input reads as it did. -/
def fnIntentsUptoRow : OpenClaim := { program := "ytahhgjkgfbppeaagreat", sum := "3f36577bc9c3c5efe606b75fd18f3d126973d4529b0a93827b4aeaffacd3a55a", func := "loop.example/g00701/laws.FnIntents", spec := "fnIntents", inPlace := ["slices.overlaps[loop.example/g00701/impl.Hold]"], unfollowed := true, recurses := true, apart := false, narrowed := true }
def FnIntentsUptoSaid : Prop := fnIntentsUptoRow.holds Tryz.pinned (OpenSpec.upto fnIntentsSpec)

end Rows
end Go.Proofs.YtahhgjkgfbppeaaGreat
