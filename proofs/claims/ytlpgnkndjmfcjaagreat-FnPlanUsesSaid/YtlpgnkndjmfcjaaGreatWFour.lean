-- Written by wip/tools/trim.py, a program of this session, out of the printed words: what these laws name.
import Derived.Test.YtlpgnkndjmfcjaaGreatWTab
namespace Go.Proofs.YtlpgnkndjmfcjaaGreatW.PrintLast
end Go.Proofs.YtlpgnkndjmfcjaaGreatW.PrintLast
