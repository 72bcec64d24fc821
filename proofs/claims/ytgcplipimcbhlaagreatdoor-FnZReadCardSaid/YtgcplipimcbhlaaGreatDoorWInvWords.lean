-- Written by wip/tools/trim.py, a program of this session, out of the printed words: what these laws name.
import Derived.Test.YtgcplipimcbhlaaGreatDoorWInv
import Derived.Test.YtgcplipimcbhlaaGreatDoorWFootNe
namespace Go.Proofs.YtgcplipimcbhlaaGreatDoorW.PrintWords
open Go.RowKit
end Go.Proofs.YtgcplipimcbhlaaGreatDoorW.PrintWords
namespace Go.Proofs.YtgcplipimcbhlaaGreatDoorW.PrintLast
end Go.Proofs.YtgcplipimcbhlaaGreatDoorW.PrintLast
