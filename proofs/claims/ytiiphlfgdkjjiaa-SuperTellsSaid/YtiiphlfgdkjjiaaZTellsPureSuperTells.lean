/- SuperTells is true of every block and any octets; no condition. -/
import Derived.Test.YtiiphlfgdkjjiaaZTellsStmSuperTells
import Derived.Test.YtiiphlfgdkjjiaaZTellsSTellsLaw
namespace Go.Proofs.Ytiiphlfgdkjjiaa.Pure
open Go.RowKit Go.Proofs.Ytiiphlfgdkjjiaa.Q Go.Proofs.Ytiiphlfgdkjjiaa.Read Go.Proofs.YtiiphlfgdkjjiaaW.PrintWords Go.Proofs.YtiiphlfgdkjjiaaW.PrintLast Go.Proofs.YtiiphlfgdkjjiaaW.PrintMore Go.Proofs.Ytiiphlfgdkjjiaa.Stm.superTells
theorem SuperTells : Stm.superTells.Pure := by
  intro x a b _ ha hb
  refine ⟨0, ?_⟩
  have ho : ∀ l : List Int, FitsL 1 (fun x => (Lit.int .u8 x).wf = true) l → octs l = true := by
    intro l hl
    unfold octs
    rw [List.all_eq_true]
    intro y hy
    have h := hl.2.2 y hy
    simp [Lit.wf, IntKind.min, IntKind.max, IntKind.signed, IntKind.bits] at h
    exact decide_eq_true (by omega)
  unfold transeptlaw06_SuperTells.f
  rw [if_pos ⟨ho a ha, ho b hb⟩]
end Go.Proofs.Ytiiphlfgdkjjiaa.Pure
