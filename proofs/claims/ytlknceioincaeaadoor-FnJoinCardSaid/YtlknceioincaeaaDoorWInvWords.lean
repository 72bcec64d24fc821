-- Written by wip/tools/trim.py, a program of this session, out of the printed words: what these laws name.
import Derived.Test.YtlknceioincaeaaDoorWInv
import Derived.Test.YtlknceioincaeaaDoorWFootNe
namespace Go.Proofs.YtlknceioincaeaaDoorW.PrintWords
open Go.RowKit
end Go.Proofs.YtlknceioincaeaaDoorW.PrintWords
namespace Go.Proofs.YtlknceioincaeaaDoorW.PrintLast
end Go.Proofs.YtlknceioincaeaaDoorW.PrintLast
