-- Written by wip/tools/trim.py, a program of this session, out of the printed words: what these laws name.
import Derived.Test.YtgcplipimcbhlaaDoorWWords
import Derived.Test.YtgcplipimcbhlaaDoorWLast
namespace Go.Proofs.YtgcplipimcbhlaaDoorW.PrintWords
open Go.RowKit
namespace Kd
end Kd
end Go.Proofs.YtgcplipimcbhlaaDoorW.PrintWords
