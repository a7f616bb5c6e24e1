/- The pure statement of CrcGoesOn, of bulk at most 1048576, over numbers and lists alone; no condition. Written by a program of this session (row.py). -/
import Derived.Test.YtabkdakikfhgmaaQ8
import Derived.Test.YtabkdakikfhgmaaRead
namespace Go.Proofs.Ytabkdakikfhgmaa.Stm
set_option linter.unusedVariables false
open Go.RowKit Go.Proofs.Ytabkdakikfhgmaa.Q Go.Proofs.Ytabkdakikfhgmaa.Read Go.Proofs.YtabkdakikfhgmaaW.PrintWords
namespace crcGoesOnUpto
def Pure : Prop := ∀ (x0 : List Int) (x1 : List Int), FitsL 1 (fun x => (Lit.int .u8 x).wf = true) x0 → FitsL 1 (fun x => (Lit.int .u8 x).wf = true) x1 → bulkL (fun x => 1) x0 + bulkL (fun x => 1) x1 ≤ 1048576 → transeptlaw02_CrcGoesOn.f x0 x1 = some true
end crcGoesOnUpto
end Go.Proofs.Ytabkdakikfhgmaa.Stm
