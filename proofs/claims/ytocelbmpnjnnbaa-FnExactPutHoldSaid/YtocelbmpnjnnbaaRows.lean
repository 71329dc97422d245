/-
  No cell of these rows narrows 'for every input' (looked for: loops, veiled, ifaces, maps, wideKeys, modest, calm, conditions, laid).
  DERIVED. THE GIVEN ROWS OF THIS SEAT. 5 by the template 'for every input the law returns true; each argument reads behind the call as it read before'; 0 by the template 'total and deterministic' (their statements: YtocelbmpnjnnbaaTotals.lean).
  GIVEN WITH THE SEED: the statements are not yours to turn. If you find one false, say at which input.
  Laid BY PROGRAM, IN A SANDBOX (cutbox-rows.mjs): the forced cells as the released guide's own fill.sh prints them over the translation c133c10ec47fda22… (all of the seat's roots in one cut). By AI agents, Wed Nov 11 2026. No macro, syntax, notation, axiom, sorry.
-/
import Derived.Test.YtocelbmpnjnnbaaChecked
import GoSem.Claim
import GoSem.ClaimJoined
import GoSem.ClaimMapViews
import Derived.JoinedTies
import Derived.KernelRfl
namespace Go.Proofs.Ytocelbmpnjnnbaa
/- THE CELL 'sum', in the pinned program and in every row, IS THE sha256 OF THE DUMP (.gsa) THAT YtocelbmpnjnnbaaProg.lean LOADS. Nothing in Lean hashes anything: it is a label: what it is worth is what the hold of that sum in a sandbox is worth. -/
noncomputable def Try.pinned : Pinned := { name := "ytocelbmpnjnnbaa", sum := "c133c10ec47fda22335e7d39a65392986abe160a79f494937ca7f58a83dc2ba3", checked := Try.checked }
namespace Rows
def none {H : Type} : Left H := { results := [], args := [] }

/-- 'laws.FnExactPutHold': WHATEVER THE INPUT: true; the input reads as it did. -/
def fnExactPutHoldSpec : ChangeSpec := { name := "fnExactPutHold", fn := fun _ => fun
  | [d1, d2, d3] => { results := [.lit (.bool true)], args := [d1, d2, d3] }
  | _ => none }
def fnExactPutHoldRow : OpenClaim := { program := "ytocelbmpnjnnbaa", sum := "c133c10ec47fda22335e7d39a65392986abe160a79f494937ca7f58a83dc2ba3", func := "loop.example/g00701/laws.FnExactPutHold", spec := "fnExactPutHold", inPlace := ["slices.overlaps[loop.example/g00701/impl.Hold]"], unfollowed := true, recurses := true, apart := false }
def FnExactPutHoldSaid : Prop := fnExactPutHoldRow.holds Try.pinned (OpenSpec.ofChange fnExactPutHoldSpec)

/-- ITS FALSE NEIGHBOUR: 'it returns false'. Refute it at one input. -/
def fnExactPutHoldWrong : ChangeSpec := { name := "fnExactPutHold", fn := fun _ => fun
  | [d1, d2, d3] => { results := [.lit (.bool false)], args := [d1, d2, d3] }
  | _ => none }
def FnExactPutHoldWrongFalsely : Prop := fnExactPutHoldRow.holds Try.pinned (OpenSpec.ofChange fnExactPutHoldWrong)

/-- 'laws.FnExactLeastDoc': WHATEVER THE INPUT: true; the input reads as it did. -/
def fnExactLeastDocSpec : ChangeSpec := { name := "fnExactLeastDoc", fn := fun _ => fun
  | [d1, d2] => { results := [.lit (.bool true)], args := [d1, d2] }
  | _ => none }
def fnExactLeastDocRow : OpenClaim := { program := "ytocelbmpnjnnbaa", sum := "c133c10ec47fda22335e7d39a65392986abe160a79f494937ca7f58a83dc2ba3", func := "loop.example/g00701/laws.FnExactLeastDoc", spec := "fnExactLeastDoc", unfollowed := true, recurses := true, apart := false }
def FnExactLeastDocSaid : Prop := fnExactLeastDocRow.holds Try.pinned (OpenSpec.ofChange fnExactLeastDocSpec)

/-- ITS FALSE NEIGHBOUR: 'it returns false'. Refute it at one input. -/
def fnExactLeastDocWrong : ChangeSpec := { name := "fnExactLeastDoc", fn := fun _ => fun
  | [d1, d2] => { results := [.lit (.bool false)], args := [d1, d2] }
  | _ => none }
def FnExactLeastDocWrongFalsely : Prop := fnExactLeastDocRow.holds Try.pinned (OpenSpec.ofChange fnExactLeastDocWrong)

/-- 'laws.FnPaths': WHATEVER THE INPUT: true; the input reads as it did. -/
def fnPathsSpec : ChangeSpec := { name := "fnPaths", fn := fun _ => fun
  | [d1, d2] => { results := [.lit (.bool true)], args := [d1, d2] }
  | _ => none }
def fnPathsRow : OpenClaim := { program := "ytocelbmpnjnnbaa", sum := "c133c10ec47fda22335e7d39a65392986abe160a79f494937ca7f58a83dc2ba3", func := "loop.example/g00701/laws.FnPaths", spec := "fnPaths", unfollowed := true, recurses := true, apart := false }
def FnPathsSaid : Prop := fnPathsRow.holds Try.pinned (OpenSpec.ofChange fnPathsSpec)

/-- ITS FALSE NEIGHBOUR: 'it returns false'. Refute it at one input. -/
def fnPathsWrong : ChangeSpec := { name := "fnPaths", fn := fun _ => fun
  | [d1, d2] => { results := [.lit (.bool false)], args := [d1, d2] }
  | _ => none }
def FnPathsWrongFalsely : Prop := fnPathsRow.holds Try.pinned (OpenSpec.ofChange fnPathsWrong)

/-- 'laws.FnMatch': WHATEVER THE INPUT: true; the input reads as it did. -/
def fnMatchSpec : ChangeSpec := { name := "fnMatch", fn := fun _ => fun
  | [d1, d2] => { results := [.lit (.bool true)], args := [d1, d2] }
  | _ => none }
def fnMatchRow : OpenClaim := { program := "ytocelbmpnjnnbaa", sum := "c133c10ec47fda22335e7d39a65392986abe160a79f494937ca7f58a83dc2ba3", func := "loop.example/g00701/laws.FnMatch", spec := "fnMatch", unfollowed := true, recurses := true, apart := false }
def FnMatchSaid : Prop := fnMatchRow.holds Try.pinned (OpenSpec.ofChange fnMatchSpec)

/-- ITS FALSE NEIGHBOUR: 'it returns false'. Refute it at one input. -/
def fnMatchWrong : ChangeSpec := { name := "fnMatch", fn := fun _ => fun
  | [d1, d2] => { results := [.lit (.bool false)], args := [d1, d2] }
  | _ => none }
def FnMatchWrongFalsely : Prop := fnMatchRow.holds Try.pinned (OpenSpec.ofChange fnMatchWrong)

/-- 'laws.FnCover': WHATEVER THE INPUT: true; the input reads as it did. -/
def fnCoverSpec : ChangeSpec := { name := "fnCover", fn := fun _ => fun
  | [d1, d2] => { results := [.lit (.bool true)], args := [d1, d2] }
  | _ => none }
def fnCoverRow : OpenClaim := { program := "ytocelbmpnjnnbaa", sum := "c133c10ec47fda22335e7d39a65392986abe160a79f494937ca7f58a83dc2ba3", func := "loop.example/g00701/laws.FnCover", spec := "fnCover", unfollowed := true, recurses := true, apart := false }
def FnCoverSaid : Prop := fnCoverRow.holds Try.pinned (OpenSpec.ofChange fnCoverSpec)

/-- ITS FALSE NEIGHBOUR: 'it returns false'. Refute it at one input. -/
def fnCoverWrong : ChangeSpec := { name := "fnCover", fn := fun _ => fun
  | [d1, d2] => { results := [.lit (.bool false)], args := [d1, d2] }
  | _ => none }
def FnCoverWrongFalsely : Prop := fnCoverRow.holds Try.pinned (OpenSpec.ofChange fnCoverWrong)

/- THE SECOND FORM. 'bulk': how many values and letters a reading holds, each counted each time it is reached (what is shared counts as often as it is met; a slice's spare places count too). A statement '..UptoSaid' is the law's where the arguments, and the package variables that the reading takes, are together of bulk at most 1048576: NARROWER than '..Said'. Prove '..Said' where nothing that the law and all that it calls make is longer than what came in: it says more and counts as full. Else prove '..UptoSaid'. A law counts once. -/
mutual
def uptoBulk {H : Type} : DataW H → Nat
  | .lit (.string bytes) => bytes.length + 1
  | .lit _ => 1
  | .nil => 1
  | .ptr d => uptoBulk d + 1
  | .slice elems spare => uptoBulkAll elems + uptoBulkAll spare + 1
  | .agg parts => uptoBulkAll parts + 1
  | .iface _ d => uptoBulk d + 1
  | .map entries => uptoBulkEntries entries + 1
  | .held _ => 1
def uptoBulkAll {H : Type} : List (DataW H) → Nat
  | [] => 0
  | d :: r => uptoBulk d + uptoBulkAll r
def uptoBulkEntries {H : Type} : List (Lit × DataW H) → Nat
  | [] => 0
  | x :: r => uptoBulkEntry x + uptoBulkEntries r
def uptoBulkEntry {H : Type} : Lit × DataW H → Nat
  | (.string bytes, d) => bytes.length + uptoBulk d + 1
  | (_, d) => uptoBulk d + 1
 end
def uptoSmall : (H : Type) → List (DataW H) → Bool := fun _ ds => decide (uptoBulkAll ds ≤ 1048576)
def OpenSpec.upto (s : _root_.Go.ChangeSpec) : _root_.Go.OpenSpec := { _root_.Go.OpenSpec.ofChange s with cond := some uptoSmall }

/-- 'laws.FnExactPutHold', WHERE WHAT IT READS IS OF BULK AT MOST 1048576: true; the input reads as it did. -/
def fnExactPutHoldUptoRow : OpenClaim := { program := "ytocelbmpnjnnbaa", sum := "c133c10ec47fda22335e7d39a65392986abe160a79f494937ca7f58a83dc2ba3", func := "loop.example/g00701/laws.FnExactPutHold", spec := "fnExactPutHold", inPlace := ["slices.overlaps[loop.example/g00701/impl.Hold]"], unfollowed := true, recurses := true, apart := false, narrowed := true }
def FnExactPutHoldUptoSaid : Prop := fnExactPutHoldUptoRow.holds Try.pinned (OpenSpec.upto fnExactPutHoldSpec)

/-- 'laws.FnExactLeastDoc', WHERE WHAT IT READS IS OF BULK AT MOST 1048576: true; the input reads as it did. -/
def fnExactLeastDocUptoRow : OpenClaim := { program := "ytocelbmpnjnnbaa", sum := "c133c10ec47fda22335e7d39a65392986abe160a79f494937ca7f58a83dc2ba3", func := "loop.example/g00701/laws.FnExactLeastDoc", spec := "fnExactLeastDoc", unfollowed := true, recurses := true, apart := false, narrowed := true }
def FnExactLeastDocUptoSaid : Prop := fnExactLeastDocUptoRow.holds Try.pinned (OpenSpec.upto fnExactLeastDocSpec)

/-- 'laws.FnPaths', WHERE WHAT IT READS IS OF BULK AT MOST 1048576: true; the input reads as it did. -/
def fnPathsUptoRow : OpenClaim := { program := "ytocelbmpnjnnbaa", sum := "c133c10ec47fda22335e7d39a65392986abe160a79f494937ca7f58a83dc2ba3", func := "loop.example/g00701/laws.FnPaths", spec := "fnPaths", unfollowed := true, recurses := true, apart := false, narrowed := true }
def FnPathsUptoSaid : Prop := fnPathsUptoRow.holds Try.pinned (OpenSpec.upto fnPathsSpec)

/-- 'laws.FnMatch', WHERE WHAT IT READS IS OF BULK AT MOST 1048576: true; the input reads as it did. -/
def fnMatchUptoRow : OpenClaim := { program := "ytocelbmpnjnnbaa", sum := "c133c10ec47fda22335e7d39a65392986abe160a79f494937ca7f58a83dc2ba3", func := "loop.example/g00701/laws.FnMatch", spec := "fnMatch", unfollowed := true, recurses := true, apart := false, narrowed := true }
def FnMatchUptoSaid : Prop := fnMatchUptoRow.holds Try.pinned (OpenSpec.upto fnMatchSpec)

/-- 'laws.FnCover', WHERE WHAT IT READS IS OF BULK AT MOST 1048576: true; the input reads as it did. -/
def fnCoverUptoRow : OpenClaim := { program := "ytocelbmpnjnnbaa", sum := "c133c10ec47fda22335e7d39a65392986abe160a79f494937ca7f58a83dc2ba3", func := "loop.example/g00701/laws.FnCover", spec := "fnCover", unfollowed := true, recurses := true, apart := false, narrowed := true }
def FnCoverUptoSaid : Prop := fnCoverUptoRow.holds Try.pinned (OpenSpec.upto fnCoverSpec)

end Rows
end Go.Proofs.Ytocelbmpnjnnbaa
