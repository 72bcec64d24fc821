-- Written by wip/tools/trim.py, a program of this session, out of the printed words: what these laws name.
import Derived.Test.YtpbmabfodfcfmaaWTab
namespace Go.Proofs.YtpbmabfodfcfmaaW.PrintLast
end Go.Proofs.YtpbmabfodfcfmaaW.PrintLast
