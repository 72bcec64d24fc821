-- Written by wip/tools/trim.py, a program of this session, out of the printed words: what these laws name.
import Derived.Test.YtlpgnkndjmfcjaaWApart
import Derived.Test.YtlpgnkndjmfcjaaWArr
namespace Go.Proofs.YtlpgnkndjmfcjaaW.PrintWords
open Go.RowKit
namespace Kd
end Kd
end Go.Proofs.YtlpgnkndjmfcjaaW.PrintWords
