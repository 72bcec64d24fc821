-- Written by wip/tools/trim.py, a program of this session, out of the printed words: what these laws name.
import Derived.Test.YtlpgnkndjmfcjaaGreatWApart
import Derived.Test.YtlpgnkndjmfcjaaGreatWArr
namespace Go.Proofs.YtlpgnkndjmfcjaaGreatW.PrintWords
open Go.RowKit
namespace Kd
end Kd
end Go.Proofs.YtlpgnkndjmfcjaaGreatW.PrintWords
