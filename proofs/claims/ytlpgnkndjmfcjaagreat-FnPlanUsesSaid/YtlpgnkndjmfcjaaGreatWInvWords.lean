-- Written by wip/tools/trim.py, a program of this session, out of the printed words: what these laws name.
import Derived.Test.YtlpgnkndjmfcjaaGreatWInv
import Derived.Test.YtlpgnkndjmfcjaaGreatWFootNe
namespace Go.Proofs.YtlpgnkndjmfcjaaGreatW.PrintWords
open Go.RowKit
end Go.Proofs.YtlpgnkndjmfcjaaGreatW.PrintWords
namespace Go.Proofs.YtlpgnkndjmfcjaaGreatW.PrintLast
end Go.Proofs.YtlpgnkndjmfcjaaGreatW.PrintLast
