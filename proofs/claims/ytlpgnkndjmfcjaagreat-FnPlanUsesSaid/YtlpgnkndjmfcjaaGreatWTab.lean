-- Written by wip/tools/trim.py, a program of this session, out of the printed words: what these laws name.
import Derived.Test.YtlpgnkndjmfcjaaGreatWLast
import Derived.Test.YtlpgnkndjmfcjaaGreatWWords
namespace Go.Proofs.YtlpgnkndjmfcjaaGreatW.PrintLast
open Go.Proofs.YtlpgnkndjmfcjaaGreatW.PrintWords (Aside0)
end Go.Proofs.YtlpgnkndjmfcjaaGreatW.PrintLast
