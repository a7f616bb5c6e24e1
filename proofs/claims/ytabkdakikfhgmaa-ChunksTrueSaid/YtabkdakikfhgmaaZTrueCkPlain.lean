/- What the laws of chunks need, plainly: what a cut tells of each piece; SameBytes; no condition. -/
import Derived.Test.YtabkdakikfhgmaaZTrueCut
import Derived.Test.YtabkdakikfhgmaaZTrueQ17
namespace Go.Proofs.Ytabkdakikfhgmaa.Q
open Go.RowKit Go.Proofs.YtabkdakikfhgmaaW.PrintWords Go.Proofs.YtabkdakikfhgmaaW.PrintLast Go.Proofs.YtabkdakikfhgmaaW.PrintMore
open Go.Proofs.Ytabkdakikfhgmaa.CrcP
set_option linter.unusedVariables false
set_option linter.unusedSimpArgs false

theorem wrapi {i : Int} (h0 : -9223372036854775808 ≤ i) (h1 : i ≤ 9223372036854775807) : wrap64 i = i := by unfold wrap64; omega
end Go.Proofs.Ytabkdakikfhgmaa.Q
