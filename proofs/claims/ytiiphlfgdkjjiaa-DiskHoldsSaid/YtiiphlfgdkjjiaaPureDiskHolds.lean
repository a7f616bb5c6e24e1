/- DiskHolds is true of every number of sectors, lists of sectors and data, and kept writes; no condition. -/
import Derived.Test.YtiiphlfgdkjjiaaStmDiskHolds
import Derived.Test.YtiiphlfgdkjjiaaDHoldsLaw
namespace Go.Proofs.Ytiiphlfgdkjjiaa.Pure
open Go.RowKit Go.Proofs.Ytiiphlfgdkjjiaa.Q Go.Proofs.Ytiiphlfgdkjjiaa.Read Go.Proofs.YtiiphlfgdkjjiaaW.PrintWords Go.Proofs.YtiiphlfgdkjjiaaW.PrintLast Go.Proofs.YtiiphlfgdkjjiaaW.PrintMore Go.Proofs.Ytiiphlfgdkjjiaa.Stm.diskHolds
theorem DiskHolds : Stm.diskHolds.Pure := by
  intro x0 x1 x2 x3 h0 h1 h2 _
  obtain ⟨_, h1, _⟩ := h1
  obtain ⟨_, h2, _⟩ := h2
  have := wf_i64 h0
  refine ⟨0, ?_⟩
  unfold transeptlaw04_DiskHolds.f
  rw [if_pos]
  simp only [okHo, Bool.and_eq_true, decide_eq_true_eq]
  exact ⟨⟨⟨by omega, by omega⟩, by omega⟩, by omega⟩
end Go.Proofs.Ytiiphlfgdkjjiaa.Pure
