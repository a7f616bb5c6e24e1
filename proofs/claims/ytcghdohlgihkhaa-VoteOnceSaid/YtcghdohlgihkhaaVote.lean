/- What the vote's functions come to, on plain numbers; no condition. -/
import Derived.Test.YtcghdohlgihkhaaQ3
namespace Go.Proofs.Ytcghdohlgihkhaa.Pure
open Go.RowKit Go.Proofs.Ytcghdohlgihkhaa.Q Go.Proofs.YtcghdohlgihkhaaW.PrintWords Go.Proofs.YtcghdohlgihkhaaW.PrintLast Go.Proofs.YtcghdohlgihkhaaW.PrintMore

theorem valive10 : transeptlaw16_alive.f 10 = some true := by decide +kernel
theorem valive {k : Nat} (h : 10 ≤ k) : transeptlaw16_alive.f k = some true := at_rounds transeptlaw16_alive.mono h valive10
theorem vinside (k : Nat) (m x : Int) : vote_inside.f (k + 2) m [x] = some (decide (0 ≤ x ∧ x ≤ m)) := by
  have hw : wrap64 (0 + 1) = 1 := by unfold wrap64; omega
  have hr : rd [x] 0 = x := rfl
  simp only [vote_inside.f, vote_inside.l0, List.length_cons, List.length_nil]
  rw [if_pos (by decide), if_pos (by decide), if_pos (by decide), hr, hw]
  by_cases h1 : x < 0
  · rw [if_pos h1]; simp; omega
  · rw [if_neg h1]
    by_cases h2 : x > m
    · rw [if_pos h2]; simp; omega
    · rw [if_neg h2, if_neg (by decide)]; simp; omega
theorem vterms (k : Nat) (x : Int) : vote_terms.f (k + 2) [x] = some (decide (0 ≤ x ∧ x ≤ 1099511627776)) := by
  unfold vote_terms.f; rw [vinside]; rfl
theorem vnodes (k : Nat) (x : Int) : vote_nodes.f (k + 2) [x] = some (decide (0 ≤ x ∧ x ≤ 8)) := by
  unfold vote_nodes.f; rw [vinside]; rfl
/-- May a state be? -/
def okState (t : Int) (h : Bool) (f : Int) : Prop := (0 ≤ t ∧ t ≤ 1099511627776) ∧ (0 ≤ f ∧ f ≤ 8) ∧ (h = true ∨ f = 0)
instance (t : Int) (h : Bool) (f : Int) : Decidable (okState t h f) := by unfold okState; infer_instance
theorem vcheck (k : Nat) (t : Int) (h : Bool) (f : Int) : vote_Check.f (k + 2) t h f = some (if okState t h f then 0 else 9) := by
  unfold vote_Check.f okState
  rw [vterms, vnodes]
  simp only [Option.bind_some]
  by_cases h1 : 0 ≤ t ∧ t ≤ 1099511627776
  · by_cases h2 : 0 ≤ f ∧ f ≤ 8
    · cases h
      · by_cases h3 : f = 0 <;> simp [h1, h2, h3]
      · simp [h1, h2]
    · simp [h1, h2]
  · simp [h1]
theorem vturn (k : Nat) (t : Int) (h : Bool) (f x : Int) : vote_Turn.f (k + 2) t h f x =
    some (if okState t h f then (if 0 ≤ x ∧ x ≤ 1099511627776 then (if x ≤ t then (t, h, f, false, 0) else (x, false, 0, true, 0)) else (0, false, 0, false, 4)) else (0, false, 0, false, 9)) := by
  unfold vote_Turn.f
  rw [vcheck, vterms]
  simp only [Option.bind_some]
  by_cases h1 : okState t h f
  · by_cases h2 : 0 ≤ x ∧ x ≤ 1099511627776
    · by_cases h3 : x ≤ t <;> simp [h1, h2, h3]
    · simp [h1, h2]
  · simp [h1]
theorem vturn_ge {k : Nat} (hk : 2 ≤ k) (t : Int) (h : Bool) (f x : Int) : vote_Turn.f k t h f x =
    some (if okState t h f then (if 0 ≤ x ∧ x ≤ 1099511627776 then (if x ≤ t then (t, h, f, false, 0) else (x, false, 0, true, 0)) else (0, false, 0, false, 4)) else (0, false, 0, false, 9)) := by
  obtain ⟨k, rfl⟩ : ∃ m, k = m + 2 := ⟨k - 2, by omega⟩
  exact vturn k t h f x
end Go.Proofs.Ytcghdohlgihkhaa.Pure
