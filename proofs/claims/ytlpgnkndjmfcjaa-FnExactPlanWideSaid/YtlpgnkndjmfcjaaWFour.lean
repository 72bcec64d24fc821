-- Written by wip/tools/trim.py, a program of this session, out of the printed words: what these laws name.
import Derived.Test.YtlpgnkndjmfcjaaWTab
namespace Go.Proofs.YtlpgnkndjmfcjaaW.PrintLast
end Go.Proofs.YtlpgnkndjmfcjaaW.PrintLast
