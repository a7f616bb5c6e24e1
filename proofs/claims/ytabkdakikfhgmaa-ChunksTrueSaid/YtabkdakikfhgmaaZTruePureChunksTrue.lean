/- ChunksTrue is true of any pieces; no condition. -/
import Derived.Test.YtabkdakikfhgmaaZTrueStmChunksTrue
import Derived.Test.YtabkdakikfhgmaaZTrueCkTrueLaw
namespace Go.Proofs.Ytabkdakikfhgmaa.Pure
open Go.RowKit Go.Proofs.Ytabkdakikfhgmaa.Q Go.Proofs.Ytabkdakikfhgmaa.Read Go.Proofs.YtabkdakikfhgmaaW.PrintWords Go.Proofs.YtabkdakikfhgmaaW.PrintLast Go.Proofs.YtabkdakikfhgmaaW.PrintMore Go.Proofs.Ytabkdakikfhgmaa.Stm.chunksTrue
theorem ChunksTrue : Stm.chunksTrue.Pure := by
  intro l hl
  refine ⟨0, ?_⟩
  have ho : l.all okC = true := by
    rw [List.all_eq_true]
    intro x hx
    obtain ⟨_, _, _, hd⟩ := hl.2.2 x hx
    unfold okC
    rw [Bool.and_eq_true]
    refine ⟨?_, decide_eq_true (by have := hd.2.1; omega)⟩
    unfold octs
    rw [List.all_eq_true]
    intro y hy
    have h := hd.2.2 y hy
    simp [Lit.wf, IntKind.min, IntKind.max, IntKind.signed, IntKind.bits] at h
    exact decide_eq_true (by omega)
  unfold transeptlaw18_ChunksTrue.f
  rw [if_pos ho]
end Go.Proofs.Ytabkdakikfhgmaa.Pure
