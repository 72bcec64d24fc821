-- Written by wip/tools/trim.py, a program of this session, out of the printed words: what these laws name.
import Derived.Test.YtgcplipimcbhlaaGreatDoorWN
namespace Go.Proofs.YtgcplipimcbhlaaGreatDoorW.PrintWords
open Go.RowKit
namespace Kd
end Kd
end Go.Proofs.YtgcplipimcbhlaaGreatDoorW.PrintWords
