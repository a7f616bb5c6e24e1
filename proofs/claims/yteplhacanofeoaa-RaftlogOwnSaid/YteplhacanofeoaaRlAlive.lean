/- The page's example comes true; no condition but fuel. -/
import Derived.Test.YteplhacanofeoaaQ6
namespace Go.Proofs.Yteplhacanofeoaa.Q
open Go.RowKit Go.Proofs.YteplhacanofeoaaW.PrintWords Go.Proofs.YteplhacanofeoaaW.PrintLast Go.Proofs.YteplhacanofeoaaW.PrintMore
set_option linter.unusedVariables false
set_option linter.unusedSimpArgs false

theorem alive_f {k : Nat} (hk : 20 ≤ k) : transeptlaw15_alive.f k = some true := by
  obtain ⟨k, rfl⟩ : ∃ j, k = j + 20 := ⟨k - 20, by omega⟩
  clear hk
  have h : transeptlaw15_alive.f 20 = some true := by kernel_rfl
  induction k with
  | zero => exact h
  | succ k ih => exact transeptlaw15_alive.mono _ _ ih
end Go.Proofs.Yteplhacanofeoaa.Q
