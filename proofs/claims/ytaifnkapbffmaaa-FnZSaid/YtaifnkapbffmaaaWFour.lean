-- Written by wip/tools/trim.py, a program of this session, out of the printed words: what these laws name.
import Derived.Test.YtaifnkapbffmaaaWTab
namespace Go.Proofs.YtaifnkapbffmaaaW.PrintLast
end Go.Proofs.YtaifnkapbffmaaaW.PrintLast
