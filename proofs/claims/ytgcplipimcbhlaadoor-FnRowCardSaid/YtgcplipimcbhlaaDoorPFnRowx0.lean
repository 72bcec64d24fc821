-- Written by wip/tools/pp.py, a program of this session over the kit's printer: not the kit's own print
import Derived.Test.YtgcplipimcbhlaaDoorProg
import Derived.Below
import Derived.Deep.Draws
import Derived.Deep.AppendLies
import Derived.Maps.AppendAt
import Derived.OwnWalk
import Derived.Laws.BytesArg
import Derived.Laws.MakeOwn
import Derived.Laws.OwnMore
import Derived.Deep.OwnRows
import Derived.Tactics
import Derived.Lib.ConvBytes
import Derived.Laws.Slices
import Derived.WalkKit
import Derived.KernelRfl
import Derived.RowKit3
import Derived.Deep.LoopGhost
import Derived.Deep.QuietTactic
import Derived.BigQuiet
import Derived.WideLaws
import Derived.Deep.DeepCutAuto
import Derived.Deep.CutBlock
import Derived.Deep.RegionHeld3
import Derived.Laws.Rows
import Derived.Lib.AppendStr
import Derived.ArgAppend
import Derived.Laws.IdiomCopy
import Derived.OrdersHeld
import Derived.Laws.BitsLemmas
import Derived.RowKit
import Derived.Test.YtgcplipimcbhlaaDoorWWords
import Derived.Test.YtgcplipimcbhlaaDoorWLast
import Derived.Test.YtgcplipimcbhlaaDoorWTab
import Derived.Test.YtgcplipimcbhlaaDoorWFour
import Derived.Test.YtgcplipimcbhlaaDoorWQPut
import Derived.Test.YtgcplipimcbhlaaDoorWApart
import Derived.Test.YtgcplipimcbhlaaDoorWArr
import Derived.Test.YtgcplipimcbhlaaDoorWZeros
import Derived.Test.YtgcplipimcbhlaaDoorWFoot
import Derived.Test.YtgcplipimcbhlaaDoorWKept
import Derived.Test.YtgcplipimcbhlaaDoorWShare
import Derived.Test.YtgcplipimcbhlaaDoorWN
import Derived.Test.YtgcplipimcbhlaaDoorWFootNe
import Derived.Test.YtgcplipimcbhlaaDoorWAt
import Derived.Test.YtgcplipimcbhlaaDoorWEqStruct
import Derived.Test.YtgcplipimcbhlaaDoorWRepsOne
import Derived.Test.YtgcplipimcbhlaaDoorWInv
import Derived.Test.YtgcplipimcbhlaaDoorWInvWords
import Derived.Test.YtgcplipimcbhlaaDoorWGuard
import Derived.Test.YtgcplipimcbhlaaDoorWNEv
import Derived.Test.YtgcplipimcbhlaaDoorWMore
import Derived.Test.YtgcplipimcbhlaaDoorMine
import Derived.Test.YtgcplipimcbhlaaDoorCut
import Derived.Test.YtgcplipimcbhlaaDoorShelf
import Derived.Lib.AppendIntMem
import Derived.Lib.ItoaLen
import Derived.Lib.Hide
import Derived.Laws.IdiomStrings
import Derived.OwnWalk
import Derived.Lib.OthersKept
import Derived.Laws.RangeAny
import Derived.Lib.TrimU
import Derived.Lib.AtoiAllCases
import Derived.WalkMore
namespace Go.Proofs.YtgcplipimcbhlaaDoor.PFnRow
open Go.RowKit Go.Proofs.YtgcplipimcbhlaaDoorW.PrintWords Go.Proofs.YtgcplipimcbhlaaDoorW.PrintLast Go.Proofs.YtgcplipimcbhlaaDoorW.PrintMore
attribute [local go_sem] max2_int min2_int max_two min_two max_three min_three max_four min_four   -- for this text's walks alone
set_option linter.unusedVariables false
set_option linter.unusedSimpArgs false



def errW:Option Int→Value
 | none=>.nilIface
 | some c=>.iface 0 (.int .i64 c)
theorem errW_none:errW none=.nilIface:=rfl
theorem errW_some (c:Int):errW (some c)=.iface 0 (.int .i64 c):=rfl

theorem info3:(Tryd.prog.info? 3).map (fun i=>(i.zero,i.size,i.bytes))=some (some (.int .i64 0),1,8):=by kernel_rfl
theorem info5:(Tryd.prog.info? 5).map (fun i=>(i.zero,i.size,i.bytes))=some (some (.int .u8 0),1,1):=by kernel_rfl
theorem info9:(Tryd.prog.info? 9).map (fun i=>(i.zero,i.size,i.bytes))=some (some (.string ⟨#[]⟩),1,16):=by kernel_rfl
-- the values' own types

end Go.Proofs.YtgcplipimcbhlaaDoor.PFnRow
