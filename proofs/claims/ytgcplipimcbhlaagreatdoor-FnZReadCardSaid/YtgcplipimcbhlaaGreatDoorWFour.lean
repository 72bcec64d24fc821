-- Written by wip/tools/trim.py, a program of this session, out of the printed words: what these laws name.
import Derived.Test.YtgcplipimcbhlaaGreatDoorWTab
namespace Go.Proofs.YtgcplipimcbhlaaGreatDoorW.PrintLast
end Go.Proofs.YtgcplipimcbhlaaGreatDoorW.PrintLast
