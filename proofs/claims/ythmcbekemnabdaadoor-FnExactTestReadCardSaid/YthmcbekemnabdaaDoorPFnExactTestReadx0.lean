-- Written by wip/tools/pp.py, a program of this session over the kit's printer: not the kit's own print
import Derived.Test.YthmcbekemnabdaaDoorProg
import Derived.Below
import Derived.Deep.Draws
import Derived.Deep.AppendLies
import Derived.Maps.AppendAt
import Derived.OwnWalk
import Derived.Laws.BytesArg
import Derived.Laws.MakeOwn
import Derived.Laws.OwnMore
import Derived.Deep.OwnRows
import Derived.Tactics
import Derived.Lib.ConvBytes
import Derived.Laws.Slices
import Derived.WalkKit
import Derived.KernelRfl
import Derived.RowKit3
import Derived.Deep.LoopGhost
import Derived.Deep.QuietTactic
import Derived.BigQuiet
import Derived.WideLaws
import Derived.Deep.DeepCutAuto
import Derived.Deep.CutBlock
import Derived.Deep.RegionHeld3
import Derived.Laws.Rows
import Derived.Lib.AppendStr
import Derived.ArgAppend
import Derived.Laws.IdiomCopy
import Derived.OrdersHeld
import Derived.Laws.BitsLemmas
import Derived.RowKit
import Derived.Test.YthmcbekemnabdaaDoorWWords
import Derived.Test.YthmcbekemnabdaaDoorWLast
import Derived.Test.YthmcbekemnabdaaDoorWTab
import Derived.Test.YthmcbekemnabdaaDoorWFour
import Derived.Test.YthmcbekemnabdaaDoorWQPut
import Derived.Test.YthmcbekemnabdaaDoorWApart
import Derived.Test.YthmcbekemnabdaaDoorWArr
import Derived.Test.YthmcbekemnabdaaDoorWZeros
import Derived.Test.YthmcbekemnabdaaDoorWFoot
import Derived.Test.YthmcbekemnabdaaDoorWKept
import Derived.Test.YthmcbekemnabdaaDoorWShare
import Derived.Test.YthmcbekemnabdaaDoorWN
import Derived.Test.YthmcbekemnabdaaDoorWFootNe
import Derived.Test.YthmcbekemnabdaaDoorWAt
import Derived.Test.YthmcbekemnabdaaDoorWEqStruct
import Derived.Test.YthmcbekemnabdaaDoorWRepsOne
import Derived.Test.YthmcbekemnabdaaDoorWInv
import Derived.Test.YthmcbekemnabdaaDoorWInvWords
import Derived.Test.YthmcbekemnabdaaDoorWGuard
import Derived.Test.YthmcbekemnabdaaDoorWNEv
import Derived.Test.YthmcbekemnabdaaDoorWMore
import Derived.Test.YthmcbekemnabdaaDoorMine
import Derived.Test.YthmcbekemnabdaaDoorCut
import Derived.Test.YthmcbekemnabdaaDoorShelf
import Derived.Lib.AppendIntMem
import Derived.Lib.ItoaLen
import Derived.Lib.Hide
import Derived.Laws.IdiomStrings
import Derived.OwnWalk
import Derived.Lib.OthersKept
import Derived.Laws.RangeAny
import Derived.Lib.TrimU
import Derived.Lib.AtoiAllCases
import Derived.WalkMore
namespace Go.Proofs.YthmcbekemnabdaaDoor.PFnExactTestRead
open Go.RowKit Go.Proofs.YthmcbekemnabdaaDoorW.PrintWords Go.Proofs.YthmcbekemnabdaaDoorW.PrintLast Go.Proofs.YthmcbekemnabdaaDoorW.PrintMore
attribute [local go_sem] max2_int min2_int max_two min_two max_three min_three max_four min_four   -- for this text's walks alone
set_option linter.unusedVariables false
set_option linter.unusedSimpArgs false



def errW:Option Int→Value
 | none=>.nilIface
 | some c=>.iface 0 (.int .i64 c)
theorem errW_none:errW none=.nilIface:=rfl
theorem errW_some (c:Int):errW (some c)=.iface 0 (.int .i64 c):=rfl

-- the values' own types

end Go.Proofs.YthmcbekemnabdaaDoor.PFnExactTestRead
