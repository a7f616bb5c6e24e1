-- Written by a program of this session (pr2.py) that drives the kit's print. Lean checks it.
import Derived.Test.YtabkdakikfhgmaaQ0
import Derived.Test.YtabkdakikfhgmaaAlive02
namespace Go.Proofs.Ytabkdakikfhgmaa.Q
open Go.RowKit Go.Proofs.YtabkdakikfhgmaaW.PrintWords Go.Proofs.YtabkdakikfhgmaaW.PrintLast Go.Proofs.YtabkdakikfhgmaaW.PrintMore
attribute [local go_sem] max2_int min2_int max_two min_two max_three min_three max_four min_four   -- for this text's walks alone
set_option linter.unusedVariables false
set_option linter.unusedSimpArgs false

-- GIVEN transeptlaw02_alive by Derived.Test.YtabkdakikfhgmaaAlive02

end Go.Proofs.Ytabkdakikfhgmaa.Q
