/- Words of the kit's print, shortened by a program of this session (prune2.py); no condition. -/
import Derived.Test.YtiiphlfgdkjjiaaZOwnWLast
import Derived.Test.YtiiphlfgdkjjiaaZOwnWWords
namespace Go.Proofs.YtiiphlfgdkjjiaaW.PrintLast
/-- Number i is listed too. -/
def up (b : Nat → Bool) (i : Nat) : Nat → Bool := fun j => if j = i then true else b j
section
end
end Go.Proofs.YtiiphlfgdkjjiaaW.PrintLast
