-- Written by wip/tools/trim.py, a program of this session, out of the printed words: what these laws name.
import Derived.Test.YtlpgnkndjmfcjaaWInv
import Derived.Test.YtlpgnkndjmfcjaaWFootNe
namespace Go.Proofs.YtlpgnkndjmfcjaaW.PrintWords
open Go.RowKit
end Go.Proofs.YtlpgnkndjmfcjaaW.PrintWords
namespace Go.Proofs.YtlpgnkndjmfcjaaW.PrintLast
end Go.Proofs.YtlpgnkndjmfcjaaW.PrintLast
