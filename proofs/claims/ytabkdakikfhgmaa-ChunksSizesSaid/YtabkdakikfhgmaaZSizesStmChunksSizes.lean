/- The pure statement of ChunksSizes, over numbers and lists alone; no condition. Written by a program of this session (row.py). -/
import Derived.Test.YtabkdakikfhgmaaZSizesCkSizesLaw
import Derived.Test.YtabkdakikfhgmaaZSizesRead
namespace Go.Proofs.Ytabkdakikfhgmaa.Stm
set_option linter.unusedVariables false
open Go.RowKit Go.Proofs.Ytabkdakikfhgmaa.Q Go.Proofs.Ytabkdakikfhgmaa.Read Go.Proofs.YtabkdakikfhgmaaW.PrintWords
namespace chunksSizes
def Pure : Prop := ∀ (x0 : List Int) (x1 : Int), FitsL 1 (fun x => (Lit.int .u8 x).wf = true) x0 → (Lit.int .i64 x1).wf = true → ∃ k, transeptlaw18_ChunksSizes.f k x0 x1 = some true
end chunksSizes
end Go.Proofs.Ytabkdakikfhgmaa.Stm
