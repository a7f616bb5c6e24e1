/- ChunksSizes is true of any octets and any size; no condition. -/
import Derived.Test.YtabkdakikfhgmaaZSizesStmChunksSizes
import Derived.Test.YtabkdakikfhgmaaZSizesCkSizesLaw
namespace Go.Proofs.Ytabkdakikfhgmaa.Pure
open Go.RowKit Go.Proofs.Ytabkdakikfhgmaa.Q Go.Proofs.Ytabkdakikfhgmaa.Read Go.Proofs.YtabkdakikfhgmaaW.PrintWords Go.Proofs.YtabkdakikfhgmaaW.PrintLast Go.Proofs.YtabkdakikfhgmaaW.PrintMore Go.Proofs.Ytabkdakikfhgmaa.Stm.chunksSizes
theorem ChunksSizes : Stm.chunksSizes.Pure := by
  intro a x ha _
  refine ⟨0, ?_⟩
  have ho : octs a = true := by
    unfold octs
    rw [List.all_eq_true]
    intro y hy
    have h := ha.2.2 y hy
    simp [Lit.wf, IntKind.min, IntKind.max, IntKind.signed, IntKind.bits] at h
    exact decide_eq_true (by omega)
  unfold transeptlaw18_ChunksSizes.f
  rw [if_pos ho]
end Go.Proofs.Ytabkdakikfhgmaa.Pure
