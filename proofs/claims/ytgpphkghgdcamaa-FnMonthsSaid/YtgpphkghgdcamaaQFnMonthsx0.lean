-- Written by a program of this session out of the translation; Lean checks it.
import Derived.Test.YtgpphkghgdcamaaProg
import Derived.Below
import Derived.Deep.Draws
import Derived.Deep.AppendLies
import Derived.Maps.AppendAt
import Derived.OwnWalk
import Derived.Laws.BytesArg
import Derived.Laws.MakeOwn
import Derived.Laws.OwnMore
import Derived.Deep.OwnRows
import Derived.Tactics
import Derived.Lib.ConvBytes
import Derived.Laws.Slices
import Derived.WalkKit
import Derived.KernelRfl
import Derived.RowKit3
import Derived.Deep.LoopGhost
import Derived.Deep.QuietTactic
import Derived.BigQuiet
import Derived.WideLaws
import Derived.Deep.DeepCutAuto
import Derived.Deep.CutBlock
import Derived.Deep.RegionHeld3
import Derived.Laws.Rows
import Derived.Lib.AppendStr
import Derived.ArgAppend
import Derived.Laws.IdiomCopy
import Derived.OrdersHeld
import Derived.Laws.BitsLemmas
import Derived.RowKit
import Derived.Test.YtgpphkghgdcamaaOwnW
import Derived.Test.YtgpphkghgdcamaaWWords
import Derived.Test.YtgpphkghgdcamaaWLast
import Derived.Test.YtgpphkghgdcamaaWTab
import Derived.Test.YtgpphkghgdcamaaWFour
import Derived.Test.YtgpphkghgdcamaaWQPut
import Derived.Test.YtgpphkghgdcamaaWApart
import Derived.Test.YtgpphkghgdcamaaWArr
import Derived.Test.YtgpphkghgdcamaaWZeros
import Derived.Test.YtgpphkghgdcamaaWFoot
import Derived.Test.YtgpphkghgdcamaaWKept
import Derived.Test.YtgpphkghgdcamaaWShare
import Derived.Test.YtgpphkghgdcamaaWN
import Derived.Test.YtgpphkghgdcamaaWFootNe
import Derived.Test.YtgpphkghgdcamaaWAt
import Derived.Test.YtgpphkghgdcamaaWEqStruct
import Derived.Test.YtgpphkghgdcamaaWRepsOne
import Derived.Test.YtgpphkghgdcamaaWInv
import Derived.Test.YtgpphkghgdcamaaWInvWords
import Derived.Test.YtgpphkghgdcamaaWGuard
import Derived.Test.YtgpphkghgdcamaaWNEv
import Derived.Test.YtgpphkghgdcamaaWMore
namespace Go.Proofs.Ytgpphkghgdcamaa.QFnMonths
open Go.RowKit Go.Proofs.YtgpphkghgdcamaaW.PrintWords Go.Proofs.YtgpphkghgdcamaaW.PrintLast Go.Proofs.YtgpphkghgdcamaaW.PrintMore
attribute [local go_sem] Instr.field asAgg
attribute [local go_sem] max2_int min2_int max_two min_two max_three min_three max_four min_four   -- for this text's walks alone
set_option linter.unusedVariables false
set_option linter.unusedSimpArgs false



def errW : Option Int → Value
  | none => .nilIface
  | some c => .iface 0 (.int .i64 c)
theorem errW_none : errW none = .nilIface := rfl
theorem errW_some (c : Int) : errW (some c) = .iface 0 (.int .i64 c) := rfl

theorem info3 : (Try.prog.info? 3).map (fun i => (i.zero, i.size, i.bytes)) = some (some (.int .i64 0), 1, 8) := by kernel_rfl
-- the values' own types

end Go.Proofs.Ytgpphkghgdcamaa.QFnMonths
