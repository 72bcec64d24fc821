-- Written by wip/tools/trim.py, a program of this session, out of the printed words: what these laws name.
import Derived.Test.YtlknceioincaeaaDoorWTab
namespace Go.Proofs.YtlknceioincaeaaDoorW.PrintLast
end Go.Proofs.YtlknceioincaeaaDoorW.PrintLast
