/- VoteTurns is true for every state and every list of terms: the state's term is the greatest that was told, a vote is lost just where the term goes up; no condition. -/
import Derived.Test.YtcghdohlgihkhaaStmVoteTurns
import Derived.Test.YtcghdohlgihkhaaVote
namespace Go.Proofs.Ytcghdohlgihkhaa.Pure
open Go.RowKit Go.Proofs.Ytcghdohlgihkhaa.Q Go.Proofs.Ytcghdohlgihkhaa.Read Go.Proofs.YtcghdohlgihkhaaW.PrintWords Go.Proofs.YtcghdohlgihkhaaW.PrintLast Go.Proofs.YtcghdohlgihkhaaW.PrintMore

theorem vt_loop (l : List Int) (hl : l.length ≤ 140737488351232) (d : Nat) : ∀ (k i : Nat) (t : Int) (h : Bool) (f : Int), i ≤ l.length → l.length - i = d → d + 2 < k → transeptlaw16_VoteTurns.l0 k l i t h f = some true := by
  induction d with
  | zero =>
    intro k i t h f hi hd hk
    obtain ⟨k, rfl⟩ : ∃ m, k = m + 1 := ⟨k - 1, by omega⟩
    simp only [transeptlaw16_VoteTurns.l0]
    rw [if_neg (by omega)]
  | succ d ih =>
    intro k i t h f hi hd hk
    obtain ⟨k, rfl⟩ : ∃ m, k = m + 1 := ⟨k - 1, by omega⟩
    have hn : wrap64 ((i : Int) + 1) = (i : Int) + 1 := by unfold wrap64; omega
    have go : ∀ t h f, transeptlaw16_VoteTurns.l0 k l ((i : Int) + 1) t h f = some true := fun t h f => by
      rw [show (i : Int) + 1 = ((i + 1 : Nat) : Int) from by omega]
      exact ih k (i + 1) t h f (by omega) (by omega) (by omega)
    simp only [transeptlaw16_VoteTurns.l0]
    rw [if_pos (by omega), if_pos (by omega), vturn_ge (by omega), hn]
    simp only [Option.bind_some, transeptlaw16_num.f]
    generalize rd l (i : Int) = x
    by_cases h1 : okState t h f
    · by_cases h2 : 0 ≤ x ∧ x ≤ 1099511627776
      · by_cases h3 : x ≤ t
        · have hm : mx t x = t := by unfold mx; split <;> omega
          have h4 : ¬ t < x := by omega
          simp [h1, h2, h3, hm, h4, go]
        · have hm : mx t x = x := by unfold mx; split <;> omega
          have h4 : t < x := by omega
          simp [h1, h2, h3, hm, h4, go]
      · simp [h1, h2, go]
    · simp [h1, go]

theorem VoteTurns : Stm.voteTurns.Pure := by
  intro s l _ fl
  refine ⟨l.length + 12, ?_⟩
  unfold transeptlaw16_VoteTurns.f
  rw [valive (by omega)]
  simp only [Option.bind_some, if_true]
  have := fl.2.1
  exact vt_loop l (by omega) l.length _ 0 _ _ _ (by omega) (by omega) (by omega)
end Go.Proofs.Ytcghdohlgihkhaa.Pure
