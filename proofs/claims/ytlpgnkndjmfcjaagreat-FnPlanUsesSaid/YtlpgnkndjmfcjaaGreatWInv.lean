-- Written by wip/tools/trim.py, a program of this session, out of the printed words: what these laws name.
import Derived.Test.YtlpgnkndjmfcjaaGreatWTab
namespace Go.Proofs.YtlpgnkndjmfcjaaGreatW.PrintLast
def up (b : Nat → Bool) (i : Nat) : Nat → Bool := fun j => if j = i then true else b j
end Go.Proofs.YtlpgnkndjmfcjaaGreatW.PrintLast
