-- Written by wip/tools/trim.py, a program of this session, out of the printed words: what these laws name.
import Derived.Test.YtgcplipimcbhlaaDoorWInv
import Derived.Test.YtgcplipimcbhlaaDoorWFootNe
namespace Go.Proofs.YtgcplipimcbhlaaDoorW.PrintWords
open Go.RowKit
end Go.Proofs.YtgcplipimcbhlaaDoorW.PrintWords
namespace Go.Proofs.YtgcplipimcbhlaaDoorW.PrintLast
end Go.Proofs.YtgcplipimcbhlaaDoorW.PrintLast
