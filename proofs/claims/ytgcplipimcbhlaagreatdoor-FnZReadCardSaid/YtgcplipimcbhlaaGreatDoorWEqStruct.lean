-- Written by wip/tools/trim.py, a program of this session, out of the printed words: what these laws name.
import Derived.Test.YtgcplipimcbhlaaGreatDoorWWords
import Derived.Laws.StructEq
namespace Go.Proofs.YtgcplipimcbhlaaGreatDoorW.PrintWords
open Go.RowKit
end Go.Proofs.YtgcplipimcbhlaaGreatDoorW.PrintWords
