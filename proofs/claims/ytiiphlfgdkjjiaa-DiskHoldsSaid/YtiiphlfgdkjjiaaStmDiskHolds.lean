/- The pure statement of DiskHolds, over numbers and lists alone; no condition. Written by a program of this session (row.py). -/
import Derived.Test.YtiiphlfgdkjjiaaDHoldsLaw
import Derived.Test.YtiiphlfgdkjjiaaRead
namespace Go.Proofs.Ytiiphlfgdkjjiaa.Stm
set_option linter.unusedVariables false
open Go.RowKit Go.Proofs.Ytiiphlfgdkjjiaa.Q Go.Proofs.Ytiiphlfgdkjjiaa.Read Go.Proofs.YtiiphlfgdkjjiaaW.PrintWords
namespace diskHolds
def Pure : Prop := ∀ (x0 : Int) (x1 : List Int) (x2 : List (List Int)) (x3 : List Bool), (Lit.int .i64 x0).wf = true → FitsL 8 (fun x => (Lit.int .i64 x).wf = true) x1 → FitsL 24 (fun x => FitsL 1 (fun x => (Lit.int .u8 x).wf = true) x) x2 → FitsL 1 (fun x => True) x3 → ∃ k, transeptlaw04_DiskHolds.f k x0 x1 x2 x3 = some true
end diskHolds
end Go.Proofs.Ytiiphlfgdkjjiaa.Stm
