-- Written by wip/tools/trim.py, a program of this session, out of the printed words: what these laws name.
import Derived.Test.YtpbmabfodfcfmaaWApart
import Derived.Test.YtpbmabfodfcfmaaWArr
namespace Go.Proofs.YtpbmabfodfcfmaaW.PrintWords
open Go.RowKit
namespace Kd
end Kd
end Go.Proofs.YtpbmabfodfcfmaaW.PrintWords
