/- SuperBack is true of every block and place; no condition. -/
import Derived.Test.YtiiphlfgdkjjiaaZBackStmSuperBack
import Derived.Test.YtiiphlfgdkjjiaaZBackSBackLaw
namespace Go.Proofs.Ytiiphlfgdkjjiaa.Pure
open Go.RowKit Go.Proofs.Ytiiphlfgdkjjiaa.Q Go.Proofs.Ytiiphlfgdkjjiaa.Read Go.Proofs.YtiiphlfgdkjjiaaW.PrintWords Go.Proofs.YtiiphlfgdkjjiaaW.PrintLast Go.Proofs.YtiiphlfgdkjjiaaW.PrintMore Go.Proofs.Ytiiphlfgdkjjiaa.Stm.superBack
theorem SuperBack : Stm.superBack.Pure := by
  intro x b _ hb
  have h := hb
  simp [Lit.wf, IntKind.min, IntKind.max, IntKind.signed, IntKind.bits] at h
  unfold transeptlaw06_SuperBack.f
  rw [if_pos ⟨by omega, by omega⟩]
end Go.Proofs.Ytiiphlfgdkjjiaa.Pure
