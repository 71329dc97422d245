/- Contracts of the program's functions: each Go function that is named below comes to what its Lean function says. Written by xprint.py (a program of this session's, over the kit's print). Conditions: each contract's own premises. -/
import Derived.Test.YtahhgjkgfbppeaaProg
import Derived.Test.YtahhgjkgfbppeaaXW
import Derived.Below
import Derived.Deep.Draws
import Derived.Deep.AppendLies
import Derived.Maps.AppendAt
import Derived.OwnWalk
import Derived.Laws.BytesArg
import Derived.Laws.MakeOwn
import Derived.Laws.OwnMore
import Derived.Deep.OwnRows
import Derived.Tactics
import Derived.Lib.ConvBytes
import Derived.Laws.Slices
import Derived.WalkKit
import Derived.KernelRfl
import Derived.RowKit3
import Derived.Deep.LoopGhost
import Derived.Deep.QuietTactic
import Derived.BigQuiet
import Derived.WideLaws
import Derived.Deep.DeepCutAuto
import Derived.Deep.CutBlock
import Derived.Deep.RegionHeld3
import Derived.Laws.Rows
import Derived.Lib.AppendStr
import Derived.ArgAppend
import Derived.Laws.IdiomCopy
import Derived.OrdersHeld
import Derived.Laws.BitsLemmas
import Derived.RowKit
import Derived.Test.YtahhgjkgfbppeaaWWords
import Derived.Test.YtahhgjkgfbppeaaWLast
import Derived.Test.YtahhgjkgfbppeaaWQPut
import Derived.Test.YtahhgjkgfbppeaaWApart
import Derived.Test.YtahhgjkgfbppeaaWArr
import Derived.Test.YtahhgjkgfbppeaaWZeros
import Derived.Test.YtahhgjkgfbppeaaWFoot
import Derived.Test.YtahhgjkgfbppeaaWKept
import Derived.Test.YtahhgjkgfbppeaaWShare
import Derived.Test.YtahhgjkgfbppeaaWN
import Derived.Test.YtahhgjkgfbppeaaWRepsOne
import Derived.Test.YtahhgjkgfbppeaaWNEv
import Derived.Test.YtahhgjkgfbppeaaWMore
namespace Go.Proofs.Ytahhgjkgfbppeaa.XA
open Go.RowKit Go.Proofs.YtahhgjkgfbppeaaW.PrintWords Go.Proofs.YtahhgjkgfbppeaaW.PrintLast Go.Proofs.YtahhgjkgfbppeaaW.PrintMore XW
attribute [local go_sem] max2_int min2_int max_two min_two max_three min_three max_four min_four   -- for this text's walks alone
set_option linter.unusedVariables false
set_option linter.unusedSimpArgs false
def errW : Option Int → Value
  | none => .nilIface
  | some c => .iface 0 (.int .i64 c)
theorem errW_none : errW none = .nilIface := rfl
theorem errW_some (c : Int) : errW (some c) = .iface 0 (.int .i64 c) := rfl
end Go.Proofs.Ytahhgjkgfbppeaa.XA
