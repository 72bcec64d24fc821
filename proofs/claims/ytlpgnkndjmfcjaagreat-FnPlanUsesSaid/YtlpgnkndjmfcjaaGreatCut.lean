-- Written by wip/tools/trim.py, a program of this session, out of the printed words: what these laws name.
/- Words for an append of a cut of a row: what its elements lead to is told without the cut row's own block. No condition of its own. -/
import Derived.Test.YtlpgnkndjmfcjaaGreatWNEv
import Derived.Test.YtlpgnkndjmfcjaaGreatWMore
namespace Go.Proofs.YtlpgnkndjmfcjaaGreatW.PrintWords
open Go.RowKit
namespace Kd
end Kd
end Go.Proofs.YtlpgnkndjmfcjaaGreatW.PrintWords
