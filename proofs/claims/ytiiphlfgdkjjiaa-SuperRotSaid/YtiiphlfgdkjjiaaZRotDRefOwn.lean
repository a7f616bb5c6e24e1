/- The page's Own: the same state in memory of its own, what the sectors lead to apart from what the writes lead to; no condition but that the state isn't greater than a state may be. -/
import Derived.Test.YtiiphlfgdkjjiaaZRotDPut
import Derived.Test.YtiiphlfgdkjjiaaZRotQ0
import Derived.Test.YtiiphlfgdkjjiaaZRotDLand
namespace Go.Proofs.Ytiiphlfgdkjjiaa.Q
open Go.RowKit Go.Proofs.YtiiphlfgdkjjiaaW.PrintWords Go.Proofs.YtiiphlfgdkjjiaaW.PrintLast Go.Proofs.YtiiphlfgdkjjiaaW.PrintMore
set_option linter.unusedVariables false
set_option linter.unusedSimpArgs false

abbrev Wr := S61
end Go.Proofs.Ytiiphlfgdkjjiaa.Q
