/- VoteNewer is true for every six numbers: of two logs one is at least as new as the other, both only if they end alike, and what is newer than a newer one is newer; no condition. -/
import Derived.Test.YtcghdohlgihkhaaPVoteNewerx2
namespace Go.Proofs.Ytcghdohlgihkhaa.Pure
open Go.RowKit Go.Proofs.Ytcghdohlgihkhaa.PVoteNewer Go.Proofs.YtcghdohlgihkhaaW.PrintWords Go.Proofs.YtcghdohlgihkhaaW.PrintLast

theorem alive_true : transeptlaw16_alive.f 10 = some true := by decide +kernel

theorem VoteNewer : transeptlaw16_VoteNewer.Pure := by
  intro a0 a1 a2 a3 a4 a5 _ _ _ _ _ _
  refine ⟨10, ?_⟩
  unfold transeptlaw16_VoteNewer.f
  rw [alive_true]
  simp only [Option.bind_some, if_true]
  unfold vote_Newer.f transeptlaw16_VoteNewer.j0
  by_cases h1 : a1 = a3
  · by_cases h2 : a0 = a2
    · subst h1 h2
      simp [vote_Newer.f]
      split <;> simp
    · subst h1
      have h2' : ¬ a2 = a0 := fun h => h2 h.symm
      by_cases h3 : a2 ≤ a0
      · have h4 : ¬ a0 ≤ a2 := by omega
        simp [vote_Newer.f, h2, h3, h4]
        split <;> (simp; try omega)
      · have h4 : a0 ≤ a2 := by omega
        simp [h2, h3, h4]
  · have h1' : ¬ a3 = a1 := fun h => h1 h.symm
    by_cases h3 : a3 < a1
    · have h4 : ¬ a1 < a3 := by omega
      simp [vote_Newer.f, h1, h1', h3, h4]
      by_cases h5 : a3 = a5
      · subst h5
        simp [h1, h3]
      · by_cases h6 : a5 < a3
        · have h7 : ¬ a1 = a5 := by omega
          have h8 : a5 < a1 := by omega
          simp [h5, h6, h7, h8]
        · simp [h5, h6]
    · have h4 : a1 < a3 := by omega
      simp [h1, h1', h3, h4]

end Go.Proofs.Ytcghdohlgihkhaa.Pure
