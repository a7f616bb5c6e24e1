/- disk's New; no condition. -/
import Derived.LoopTactic
import Derived.Outline
import Derived.Lib.Hide
import Derived.Test.YtiiphlfgdkjjiaaZTellsWApart
import Derived.Test.YtiiphlfgdkjjiaaZTellsQ0
namespace Go.Proofs.Ytiiphlfgdkjjiaa.Q
open Go.RowKit Go.Proofs.YtiiphlfgdkjjiaaW.PrintWords Go.Proofs.YtiiphlfgdkjjiaaW.PrintLast Go.Proofs.YtiiphlfgdkjjiaaW.PrintMore
set_option linter.unusedVariables false
set_option linter.unusedSimpArgs false

def zeros64 : List Int := List.replicate 64 0
/-- The sectors on the way: k of them made. -/
def made (n k : Nat) : List (List Int) := List.replicate k zeros64 ++ List.replicate (n - k) []
end Go.Proofs.Ytiiphlfgdkjjiaa.Q
