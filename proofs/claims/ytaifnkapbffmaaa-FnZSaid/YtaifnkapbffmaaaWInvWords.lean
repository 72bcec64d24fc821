-- Written by wip/tools/trim.py, a program of this session, out of the printed words: what these laws name.
import Derived.Test.YtaifnkapbffmaaaWInv
import Derived.Test.YtaifnkapbffmaaaWFootNe
namespace Go.Proofs.YtaifnkapbffmaaaW.PrintWords
open Go.RowKit
end Go.Proofs.YtaifnkapbffmaaaW.PrintWords
namespace Go.Proofs.YtaifnkapbffmaaaW.PrintLast
end Go.Proofs.YtaifnkapbffmaaaW.PrintLast
