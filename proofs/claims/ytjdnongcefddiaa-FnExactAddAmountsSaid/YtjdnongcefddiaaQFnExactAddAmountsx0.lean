-- Written by a program of this session out of the translation; Lean checks it.
import Derived.Test.YtjdnongcefddiaaProg
import Derived.Below
import Derived.Deep.Draws
import Derived.Deep.AppendLies
import Derived.Maps.AppendAt
import Derived.OwnWalk
import Derived.Laws.BytesArg
import Derived.Laws.MakeOwn
import Derived.Laws.OwnMore
import Derived.Deep.OwnRows
import Derived.Tactics
import Derived.Lib.ConvBytes
import Derived.Laws.Slices
import Derived.WalkKit
import Derived.KernelRfl
import Derived.RowKit3
import Derived.Deep.LoopGhost
import Derived.Deep.QuietTactic
import Derived.BigQuiet
import Derived.WideLaws
import Derived.Deep.DeepCutAuto
import Derived.Deep.CutBlock
import Derived.Deep.RegionHeld3
import Derived.Laws.Rows
import Derived.Lib.AppendStr
import Derived.ArgAppend
import Derived.Laws.IdiomCopy
import Derived.OrdersHeld
import Derived.Laws.BitsLemmas
import Derived.RowKit
import Derived.Test.YtjdnongcefddiaaOwnW
import Derived.Test.YtjdnongcefddiaaWWords
import Derived.Test.YtjdnongcefddiaaWLast
import Derived.Test.YtjdnongcefddiaaWTab
import Derived.Test.YtjdnongcefddiaaWFour
import Derived.Test.YtjdnongcefddiaaWQPut
import Derived.Test.YtjdnongcefddiaaWApart
import Derived.Test.YtjdnongcefddiaaWArr
import Derived.Test.YtjdnongcefddiaaWZeros
import Derived.Test.YtjdnongcefddiaaWFoot
import Derived.Test.YtjdnongcefddiaaWKept
import Derived.Test.YtjdnongcefddiaaWShare
import Derived.Test.YtjdnongcefddiaaWN
import Derived.Test.YtjdnongcefddiaaWFootNe
import Derived.Test.YtjdnongcefddiaaWAt
import Derived.Test.YtjdnongcefddiaaWEqStruct
import Derived.Test.YtjdnongcefddiaaWRepsOne
import Derived.Test.YtjdnongcefddiaaWInv
import Derived.Test.YtjdnongcefddiaaWInvWords
import Derived.Test.YtjdnongcefddiaaWGuard
import Derived.Test.YtjdnongcefddiaaWNEv
import Derived.Test.YtjdnongcefddiaaWMore
namespace Go.Proofs.Ytjdnongcefddiaa.QFnExactAddAmounts
open Go.RowKit Go.Proofs.YtjdnongcefddiaaW.PrintWords Go.Proofs.YtjdnongcefddiaaW.PrintLast Go.Proofs.YtjdnongcefddiaaW.PrintMore
attribute [local go_sem] Instr.field asAgg
attribute [local go_sem] max2_int min2_int max_two min_two max_three min_three max_four min_four   -- for this text's walks alone
set_option linter.unusedVariables false
set_option linter.unusedSimpArgs false



def errW : Option Int → Value
  | none => .nilIface
  | some c => .iface 0 (.int .i64 c)
theorem errW_none : errW none = .nilIface := rfl
theorem errW_some (c : Int) : errW (some c) = .iface 0 (.int .i64 c) := rfl

theorem info3 : (Try.prog.info? 3).map (fun i => (i.zero, i.size, i.bytes)) = some (some (.int .i64 0), 1, 8) := by kernel_rfl
-- the values' own types

end Go.Proofs.Ytjdnongcefddiaa.QFnExactAddAmounts
