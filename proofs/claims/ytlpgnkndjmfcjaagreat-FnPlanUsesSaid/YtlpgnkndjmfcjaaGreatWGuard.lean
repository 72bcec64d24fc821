-- Written by wip/tools/trim.py, a program of this session, out of the printed words: what these laws name.
import Derived.Test.YtlpgnkndjmfcjaaGreatWWords
namespace Go.Proofs.YtlpgnkndjmfcjaaGreatW.PrintWords
open Go.RowKit
end Go.Proofs.YtlpgnkndjmfcjaaGreatW.PrintWords
