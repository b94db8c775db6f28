-- Written by a program of this session out of the translation; Lean checks it.
import Derived.Test.YtoijhfngihjhiaaDoorProg
import Derived.Below
import Derived.Deep.Draws
import Derived.Deep.AppendLies
import Derived.Maps.AppendAt
import Derived.OwnWalk
import Derived.Laws.BytesArg
import Derived.Laws.MakeOwn
import Derived.Laws.OwnMore
import Derived.Deep.OwnRows
import Derived.Tactics
import Derived.Lib.ConvBytes
import Derived.Laws.Slices
import Derived.WalkKit
import Derived.KernelRfl
import Derived.RowKit3
import Derived.Deep.LoopGhost
import Derived.Deep.QuietTactic
import Derived.BigQuiet
import Derived.WideLaws
import Derived.Deep.DeepCutAuto
import Derived.Deep.CutBlock
import Derived.Deep.RegionHeld3
import Derived.Laws.Rows
import Derived.Lib.AppendStr
import Derived.ArgAppend
import Derived.Laws.IdiomCopy
import Derived.OrdersHeld
import Derived.Laws.BitsLemmas
import Derived.RowKit
import Derived.Test.YtoijhfngihjhiaaDoorOwnW
import Derived.Test.YtoijhfngihjhiaaDoorGlob2
import Derived.Test.YtoijhfngihjhiaaDoorLibD
import Derived.Test.YtoijhfngihjhiaaDoorLibA
import Derived.Test.YtoijhfngihjhiaaDoorWWords
import Derived.Test.YtoijhfngihjhiaaDoorWLast
import Derived.Test.YtoijhfngihjhiaaDoorWTab
import Derived.Test.YtoijhfngihjhiaaDoorWFour
import Derived.Test.YtoijhfngihjhiaaDoorWQPut
import Derived.Test.YtoijhfngihjhiaaDoorWApart
import Derived.Test.YtoijhfngihjhiaaDoorWArr
import Derived.Test.YtoijhfngihjhiaaDoorWZeros
import Derived.Test.YtoijhfngihjhiaaDoorWFoot
import Derived.Test.YtoijhfngihjhiaaDoorWKept
import Derived.Test.YtoijhfngihjhiaaDoorWShare
import Derived.Test.YtoijhfngihjhiaaDoorWN
import Derived.Test.YtoijhfngihjhiaaDoorWFootNe
import Derived.Test.YtoijhfngihjhiaaDoorWAt
import Derived.Test.YtoijhfngihjhiaaDoorWEqStruct
import Derived.Test.YtoijhfngihjhiaaDoorWRepsOne
import Derived.Test.YtoijhfngihjhiaaDoorWInv
import Derived.Test.YtoijhfngihjhiaaDoorWInvWords
import Derived.Test.YtoijhfngihjhiaaDoorWGuard
import Derived.Test.YtoijhfngihjhiaaDoorWNEv
import Derived.Test.YtoijhfngihjhiaaDoorWMore
namespace Go.Proofs.YtoijhfngihjhiaaDoor.QFnExactParseDate
open Go.RowKit Go.Proofs.YtoijhfngihjhiaaDoorW.PrintWords Go.Proofs.YtoijhfngihjhiaaDoorW.PrintLast Go.Proofs.YtoijhfngihjhiaaDoorW.PrintMore
attribute [local go_sem] Instr.field asAgg Own.str_leq Own.str_gtr Own.str_geq
attribute [local go_sem] max2_int min2_int max_two min_two max_three min_three max_four min_four   -- for this text's walks alone
set_option linter.unusedVariables false
set_option linter.unusedSimpArgs false



def errW : Option Int → Value
 | none => .nilIface
 | some c => .iface 0 (.int .i64 c)
theorem errW_none : errW none = .nilIface := rfl
theorem errW_some (c : Int) : errW (some c) = .iface 0 (.int .i64 c) := rfl

-- the values' own types

end Go.Proofs.YtoijhfngihjhiaaDoor.QFnExactParseDate
