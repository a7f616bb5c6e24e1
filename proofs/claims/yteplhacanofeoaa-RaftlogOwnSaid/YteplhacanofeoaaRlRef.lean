/- What the page's functions answer is what raftlog's do; no condition but fuel and what a machine holds. -/
import Derived.Test.YteplhacanofeoaaRlFun
import Derived.Test.YteplhacanofeoaaQ21
import Derived.Test.YteplhacanofeoaaQ21
import Derived.Test.YteplhacanofeoaaQ14
import Derived.Test.YteplhacanofeoaaQ21
import Derived.Test.YteplhacanofeoaaQ22
import Derived.Test.YteplhacanofeoaaQ16
namespace Go.Proofs.Yteplhacanofeoaa.Q
open Go.RowKit Go.Proofs.YteplhacanofeoaaW.PrintWords Go.Proofs.YteplhacanofeoaaW.PrintLast Go.Proofs.YteplhacanofeoaaW.PrintMore
set_option linter.unusedVariables false
set_option linter.unusedSimpArgs false

section
variable {b bt : Int} {xs : List Ent} {i : Int} {k : Nat}
theorem refTerm_in (hb : 0 ≤ b ∧ b ≤ 1099511627776) (hl : xs.length ≤ 4096) (hi : b ≤ i ∧ i ≤ b + (xs.length : Int)) : transeptref15_term.f b bt xs i = some (tat b bt xs i) := by
  unfold transeptref15_term.f tat
  by_cases h : i = b
  · rw [if_pos h, if_pos h]
  · rw [if_neg h, if_neg h, wrapi (i := i - b) (by omega) (by omega), wrapi (by omega) (by omega), if_pos (by omega), if_pos (by omega)]
theorem refEnd_ok (hb : 0 ≤ b ∧ b ≤ 1099511627776) (hl : xs.length ≤ 4096) : transeptref15_End.f b bt xs = some (b + (xs.length : Int)) := by
  unfold transeptref15_End.f; rw [wrapi (by omega) (by omega)]

theorem refLast_f (hf : FitL xs) (hk : xs.length + 3 ≤ k) : transeptref15_Last.f k b bt xs = some (lastP b bt xs) := by
  have h1 := hf.1
  unfold transeptref15_Last.f lastP
  rw [refCheck b bt (by omega) hk, Option.bind_some]
  by_cases h : okLog b bt xs = true
  · obtain ⟨p1, p2, _, _, _, p3, _⟩ := okLog_parts h
    rw [if_pos h, if_pos rfl, if_pos h, refEnd_ok ⟨p1, p2⟩ p3, Option.bind_some, Option.bind_some, refTerm_in ⟨p1, p2⟩ p3 (by omega), Option.bind_some]
  · rw [if_neg h, if_neg (by decide), if_neg h]
theorem refTerm_f (hf : FitL xs) (hw : -9223372036854775808 ≤ i ∧ i ≤ 9223372036854775807) (hk : xs.length + 3 ≤ k) : transeptref15_Term.f k b bt xs i = some (termP b bt xs i) := by
  have h1 := hf.1
  unfold transeptref15_Term.f termP
  rw [refCheck b bt (by omega) hk, Option.bind_some]
  by_cases h : okLog b bt xs = true
  · obtain ⟨p1, p2, _, _, _, p3, _⟩ := okLog_parts h
    rw [if_pos h, if_pos rfl, if_pos h]
    by_cases h2 : i < b
    · rw [if_pos h2, if_neg (by omega)]
    · rw [if_neg h2, refEnd_ok ⟨p1, p2⟩ p3, Option.bind_some]
      by_cases h3 : i > b + (xs.length : Int)
      · rw [if_pos h3, if_neg (by omega)]
      · rw [if_neg h3, refTerm_in ⟨p1, p2⟩ p3 (by omega), Option.bind_some, if_pos (by omega)]
  · rw [if_neg h, if_neg (by decide), if_neg h]
theorem refAppend_f (hf : FitL xs) (t : Int) (d : List Int) (hk : xs.length + 5 ≤ k) : transeptref15_Append.f k b bt xs t d = some (appendP b bt xs t d) := by
  have h1 := hf.1
  unfold transeptref15_Append.f appendP
  rw [refCheck b bt (by omega) (by omega), Option.bind_some]
  by_cases h : okLog b bt xs = true
  · obtain ⟨p1, p2, _, _, _, p3, _⟩ := okLog_parts h
    rw [if_pos h, if_pos rfl, if_pos h]
    obtain ⟨k, rfl⟩ : ∃ j, k = j + 2 := ⟨k - 2, by omega⟩
    have hbad : transeptref15_Append.j0 (k + 2) true b bt xs t d = some (0, 0, [], 151) := by simp only [transeptref15_Append.j0]; rw [if_true]
    by_cases h2 : t < 1
    · have ha : addP b bt xs t d = 151 := by
        unfold addP
        rw [if_pos (.inl (by split <;> omega))]
      rw [if_pos h2, hbad, ha, if_neg (by decide)]
    · rw [if_neg h2, refEnd_ok ⟨p1, p2⟩ p3, Option.bind_some, refTerm_in ⟨p1, p2⟩ p3 (by omega), Option.bind_some]
      by_cases h3 : t < tat b bt xs (b + (xs.length : Int))
      · have ha : addP b bt xs t d = 151 := by
          unfold addP
          rw [if_pos (.inl (by split <;> omega))]
        rw [if_pos h3, hbad, ha, if_neg (by decide)]
      · rw [if_neg h3]
        by_cases h4 : t > 1099511627776
        · have ha : addP b bt xs t d = 151 := by
            unfold addP
            rw [if_pos (.inr h4)]
          rw [decide_eq_true h4, hbad, ha, if_neg (by decide)]
        · rw [decide_eq_false h4]
          simp only [transeptref15_Append.j0]
          rw [if_neg (by decide)]
          have h5 : ¬ (t < (if tat b bt xs (b + (xs.length : Int)) < 1 then 1 else tat b bt xs (b + (xs.length : Int))) ∨ t > 1099511627776) := by
            rintro (h | h)
            · split at h <;> omega
            · omega
          by_cases h6 : d.length > 4096
          · rw [if_pos (by omega), addP_5 h5 h6]; rfl
          · rw [if_neg (by omega)]
            by_cases h7 : xs.length ≥ 4096
            · rw [if_pos (by omega), addP_51 h5 h6 (.inl h7)]
              simp only [transeptref15_Append.j1]
              rw [if_true]; rfl
            · rw [if_neg (by omega), refEnd_ok ⟨p1, p2⟩ p3, Option.bind_some]
              simp only [transeptref15_Append.j1]
              by_cases h8 : b + (xs.length : Int) ≥ 1099511627776
              · rw [if_pos (by simpa using h8), addP_51 h5 h6 (.inr h8)]; rfl
              · rw [if_neg (by simpa using h8), addP_0 h5 h6 (fun h => Or.elim h h7 h8), if_pos rfl, own hf (by omega), Option.bind_some, copied (by omega), Option.bind_some, if_pos (by omega)]
  · rw [if_neg h, if_neg (by decide), if_neg h]
theorem refFrom_f (hf : FitL xs) {n : Int} (hw : -9223372036854775808 ≤ i ∧ i ≤ 9223372036854775807) (hk : xs.length + 5 ≤ k) : transeptref15_From.f k b bt xs i n = some (fromP b bt xs i n) := by
  have h1 := hf.1
  unfold transeptref15_From.f fromP
  rw [refCheck b bt (by omega) (by omega), Option.bind_some]
  by_cases h : okLog b bt xs = true
  · obtain ⟨p1, p2, _, _, _, p3, _⟩ := okLog_parts h
    rw [if_pos h, if_pos rfl, if_pos h]
    obtain ⟨k, rfl⟩ : ∃ j, k = j + 1 := ⟨k - 1, by omega⟩
    have hbad : transeptref15_From.j0 (k + 1) i n true b bt xs = some ([], 71) := by simp only [transeptref15_From.j0]; rw [if_true]
    by_cases h2 : i ≤ b
    · rw [if_pos h2, hbad, if_pos (.inl h2)]
    · rw [if_neg h2, refEnd_ok ⟨p1, p2⟩ p3, Option.bind_some, wrapi (i := b + (xs.length : Int) + 1) (by omega) (by omega)]
      by_cases h3 : i > b + (xs.length : Int) + 1
      · rw [decide_eq_true h3, hbad, if_pos (.inr h3)]
      · rw [decide_eq_false h3, if_neg (by omega)]
        simp only [transeptref15_From.j0]
        rw [if_neg (by decide)]
        by_cases h4 : n < 0
        · rw [if_pos h4, if_pos h4]
        · rw [if_neg h4, if_neg h4, wrapi (i := i - b) (by omega) (by omega), wrapi (i := i - b - 1) (by omega) (by omega), wrapi (i := (xs.length : Int) - (i - b - 1)) (by omega) (by omega)]
          have hmn : mn n ((xs.length : Int) - (i - b - 1)) = if ((xs.length : Int) - (i - b - 1)) < n then ((xs.length : Int) - (i - b - 1)) else n := rfl
          have hm0 : 0 ≤ mn n ((xs.length : Int) - (i - b - 1)) := by rw [hmn]; split <;> omega
          have hm1 : mn n ((xs.length : Int) - (i - b - 1)) ≤ (xs.length : Int) - (i - b - 1) := by rw [hmn]; split <;> omega
          have hm2 : mn n ((xs.length : Int) - (i - b - 1)) = n ∨ (mn n ((xs.length : Int) - (i - b - 1)) = (xs.length : Int) - (i - b - 1) ∧ (xs.length : Int) - (i - b - 1) < n) := by rw [hmn]; split <;> omega
          generalize mn n ((xs.length : Int) - (i - b - 1)) = m at hm0 hm1 hm2 ⊢
          rw [wrapi (i := i - b - 1 + m) (by omega) (by omega), if_pos (by omega), if_pos (by omega), if_pos (by omega)]
          have e : (xs.take (i - b - 1 + m).toNat).drop (i - b - 1).toNat = (xs.drop (i - b - 1).toNat).take n.toNat := by
            rw [List.drop_take]
            have e2 : (i - b - 1 + m).toNat - (i - b - 1).toNat = m.toNat := by omega
            rw [e2]
            rcases hm2 with rfl | ⟨h5, h6⟩
            · rfl
            · rw [List.take_of_length_le (by rw [List.length_drop]; omega), List.take_of_length_le (by rw [List.length_drop]; omega)]
          rw [e, own ((hf.drop _).take _) (by rw [List.length_take, List.length_drop]; omega), Option.bind_some]
  · rw [if_neg h, if_neg (by decide), if_neg h]
theorem refCompact_f (hf : FitL xs) (hw : -9223372036854775808 ≤ i ∧ i ≤ 9223372036854775807) (hk : xs.length + 5 ≤ k) : transeptref15_Compact.f k b bt xs i = some (compactP b bt xs i) := by
  have h1 := hf.1
  unfold transeptref15_Compact.f compactP
  rw [refCheck b bt (by omega) (by omega), Option.bind_some]
  by_cases h : okLog b bt xs = true
  · obtain ⟨p1, p2, _, _, _, p3, _⟩ := okLog_parts h
    rw [if_pos h, if_pos rfl, if_pos h]
    obtain ⟨k, rfl⟩ : ∃ j, k = j + 1 := ⟨k - 1, by omega⟩
    have hbad : transeptref15_Compact.j0 (k + 1) i true b bt xs = some (0, 0, [], 71) := by simp only [transeptref15_Compact.j0]; rw [if_true]
    by_cases h2 : i < b
    · rw [if_pos h2, hbad, if_neg (by omega)]
    · rw [if_neg h2, refEnd_ok ⟨p1, p2⟩ p3, Option.bind_some]
      by_cases h3 : i > b + (xs.length : Int)
      · rw [decide_eq_true h3, hbad, if_neg (by omega)]
      · rw [decide_eq_false h3, if_pos (by omega)]
        simp only [transeptref15_Compact.j0]
        rw [if_neg (by decide), refTerm_in ⟨p1, p2⟩ p3 (by omega), Option.bind_some, wrapi (by omega) (by omega), if_pos (by omega), if_pos (by omega), own (hf.drop _) (by rw [List.length_drop]; omega), Option.bind_some]
  · rw [if_neg h, if_neg (by decide), if_neg h]
theorem alike_f (hf : FitL xs) (hk : xs.length + fuel xs ≤ k) : transeptlaw15_Alike.f k b bt xs b bt xs = some 0 := by
  unfold transeptlaw15_Alike.f
  rw [if_pos rfl, if_pos rfl, sameEntries hf hk, Option.bind_some, if_pos rfl]
end
end Go.Proofs.Yteplhacanofeoaa.Q
