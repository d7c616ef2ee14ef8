-- Out of the print's words, by wip/tools/trim.py of this repo: what this seat's texts reach.
import Derived.Test.YtkehcgjdgfopdaaWTab
namespace Go.Proofs.YtkehcgjdgfopdaaW.PrintLast
def up (b : Nat → Bool) (i : Nat) : Nat → Bool := fun j => if j = i then true else b j
end Go.Proofs.YtkehcgjdgfopdaaW.PrintLast
