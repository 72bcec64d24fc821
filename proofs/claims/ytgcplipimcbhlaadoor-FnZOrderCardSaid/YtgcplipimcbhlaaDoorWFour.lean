-- Written by wip/tools/trim.py, a program of this session, out of the printed words: what these laws name.
import Derived.Test.YtgcplipimcbhlaaDoorWTab
namespace Go.Proofs.YtgcplipimcbhlaaDoorW.PrintLast
end Go.Proofs.YtgcplipimcbhlaaDoorW.PrintLast
