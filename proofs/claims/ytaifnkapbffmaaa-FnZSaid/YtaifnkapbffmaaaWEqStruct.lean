-- Written by wip/tools/trim.py, a program of this session, out of the printed words: what these laws name.
import Derived.Test.YtaifnkapbffmaaaWWords
import Derived.Laws.StructEq
namespace Go.Proofs.YtaifnkapbffmaaaW.PrintWords
open Go.RowKit
end Go.Proofs.YtaifnkapbffmaaaW.PrintWords
