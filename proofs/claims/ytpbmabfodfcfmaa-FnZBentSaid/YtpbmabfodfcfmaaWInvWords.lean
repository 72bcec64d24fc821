-- Written by wip/tools/trim.py, a program of this session, out of the printed words: what these laws name.
import Derived.Test.YtpbmabfodfcfmaaWInv
import Derived.Test.YtpbmabfodfcfmaaWFootNe
namespace Go.Proofs.YtpbmabfodfcfmaaW.PrintWords
open Go.RowKit
end Go.Proofs.YtpbmabfodfcfmaaW.PrintWords
namespace Go.Proofs.YtpbmabfodfcfmaaW.PrintLast
end Go.Proofs.YtpbmabfodfcfmaaW.PrintLast
