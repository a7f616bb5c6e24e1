/- What raftlog's functions and the page's answer, plainly: of any log, any number; no condition but fuel and what a machine holds. -/
import Derived.Test.YteplhacanofeoaaRlPlain
import Derived.Test.YteplhacanofeoaaQ19
import Derived.Test.YteplhacanofeoaaQ17
import Derived.Test.YteplhacanofeoaaQ17
import Derived.Test.YteplhacanofeoaaQ19
import Derived.Test.YteplhacanofeoaaQ11
namespace Go.Proofs.Yteplhacanofeoaa.Q
open Go.RowKit Go.Proofs.YteplhacanofeoaaW.PrintWords Go.Proofs.YteplhacanofeoaaW.PrintLast Go.Proofs.YteplhacanofeoaaW.PrintMore
set_option linter.unusedVariables false
set_option linter.unusedSimpArgs false

theorem okLog_parts {b bt : Int} {xs : List Ent} (h : okLog b bt xs = true) : 0 ≤ b ∧ b ≤ 1099511627776 ∧ 0 ≤ bt ∧ bt ≤ 1099511627776 ∧ (0 < b ∨ bt = 0) ∧ xs.length ≤ 4096 ∧ b + (xs.length : Int) ≤ 1099511627776 := by
  unfold okLog at h
  rw [Bool.and_eq_true] at h
  exact of_decide_eq_true h.1
theorem okLog_good {b bt : Int} {xs : List Ent} (h : okLog b bt xs = true) : goodFrom (if bt < 1 then 1 else bt) xs = true := by
  unfold okLog at h
  rw [Bool.and_eq_true] at h
  exact h.2
/-- The term of an entry that is there, or Base. -/
def tat (b bt : Int) (xs : List Ent) (i : Int) : Int := if i = b then bt else (rd_T28 xs (i - b - 1)).f0
section
variable {b bt : Int} {xs : List Ent} {i : Int} {k : Nat}
theorem term_in (hb : 0 ≤ b ∧ b ≤ 1099511627776) (hl : xs.length ≤ 4096) (hi : b ≤ i ∧ i ≤ b + (xs.length : Int)) : raftlog_Log_term.f b bt xs i = some (tat b bt xs i, true) := by
  unfold raftlog_Log_term.f tat
  rw [wrapi (by omega) (by omega)]
  by_cases h : i = b
  · rw [if_pos (by omega), if_pos h]
  · rw [if_neg (by omega), if_neg (by omega), if_neg (by omega), wrapi (by omega) (by omega), if_pos (by omega), if_pos (by omega), if_neg h]
theorem term_out (hb : 0 ≤ b ∧ b ≤ 1099511627776) (hl : xs.length ≤ 4096) (hw : -9223372036854775808 ≤ i ∧ i ≤ 9223372036854775807) (hi : i < b ∨ b + (xs.length : Int) < i) : raftlog_Log_term.f b bt xs i = some (0, false) := by
  unfold raftlog_Log_term.f
  have h1 : wrap64 (i - b) < 0 ∨ wrap64 (i - b) > (xs.length : Int) := by unfold wrap64; omega
  rw [if_neg (by omega)]
  by_cases h : wrap64 (i - b) < 0
  · rw [if_pos h]
  · rw [if_neg h, if_pos (by omega)]
theorem end_ok (hb : 0 ≤ b ∧ b ≤ 1099511627776) (hl : xs.length ≤ 4096) : raftlog_Log_end.f b bt xs = some (b + (xs.length : Int)) := by
  unfold raftlog_Log_end.f; rw [wrapi (by omega) (by omega)]
def lastP (b bt : Int) (xs : List Ent) : Int × Int × Int := if okLog b bt xs = true then (b + (xs.length : Int), tat b bt xs (b + (xs.length : Int)), 0) else (0, 0, 9)
theorem last_f (hf : FitL xs) (hk : xs.length + 3 ≤ k) : raftlog_Last.f k b bt xs = some (lastP b bt xs) := by
  have h1 := hf.1
  unfold raftlog_Last.f lastP
  rw [check b bt (by omega) hk, Option.bind_some]
  by_cases h : okLog b bt xs = true
  · obtain ⟨p1, p2, _, _, _, p3, _⟩ := okLog_parts h
    rw [if_pos h, if_pos rfl, if_pos h, end_ok ⟨p1, p2⟩ p3, Option.bind_some, term_in ⟨p1, p2⟩ p3 (by omega), Option.bind_some, Option.bind_some]
  · rw [if_neg h, if_neg (by decide), if_neg h]
def termP (b bt : Int) (xs : List Ent) (i : Int) : Int × Int := if okLog b bt xs = true then (if b ≤ i ∧ i ≤ b + (xs.length : Int) then (tat b bt xs i, 0) else (0, 71)) else (0, 9)
theorem term_f (hf : FitL xs) (hw : -9223372036854775808 ≤ i ∧ i ≤ 9223372036854775807) (hk : xs.length + 3 ≤ k) : raftlog_Term.f k b bt xs i = some (termP b bt xs i) := by
  have h1 := hf.1
  unfold raftlog_Term.f termP
  rw [check b bt (by omega) hk, Option.bind_some]
  by_cases h : okLog b bt xs = true
  · obtain ⟨p1, p2, _, _, _, p3, _⟩ := okLog_parts h
    rw [if_pos h, if_pos rfl, if_pos h]
    by_cases hi : b ≤ i ∧ i ≤ b + (xs.length : Int)
    · rw [term_in ⟨p1, p2⟩ p3 hi, Option.bind_some, if_pos hi, if_pos rfl]
    · rw [term_out ⟨p1, p2⟩ p3 hw (by omega), Option.bind_some, if_neg hi, if_neg (by decide)]
  · rw [if_neg h, if_neg (by decide), if_neg h]
/-! ### Append -/
def addP (b bt : Int) (xs : List Ent) (t : Int) (d : List Int) : Int := if t < (if tat b bt xs (b + (xs.length : Int)) < 1 then 1 else tat b bt xs (b + (xs.length : Int))) ∨ t > 1099511627776 then 151 else if d.length > 4096 then 5 else if xs.length ≥ 4096 ∨ b + (xs.length : Int) ≥ 1099511627776 then 51 else 0
theorem addP_151 {t : Int} {d : List Int} (h : (t < (if tat b bt xs (b + (xs.length : Int)) < 1 then 1 else tat b bt xs (b + (xs.length : Int))) ∨ t > 1099511627776)) : addP b bt xs t d = 151 := by unfold addP; exact if_pos h
theorem addP_5 {t : Int} {d : List Int} (h : ¬ (t < (if tat b bt xs (b + (xs.length : Int)) < 1 then 1 else tat b bt xs (b + (xs.length : Int))) ∨ t > 1099511627776)) (h2 : d.length > 4096) : addP b bt xs t d = 5 := by unfold addP; rw [if_neg h]; exact if_pos h2
theorem addP_51 {t : Int} {d : List Int} (h : ¬ (t < (if tat b bt xs (b + (xs.length : Int)) < 1 then 1 else tat b bt xs (b + (xs.length : Int))) ∨ t > 1099511627776)) (h2 : ¬ d.length > 4096) (h3 : xs.length ≥ 4096 ∨ b + (xs.length : Int) ≥ 1099511627776) : addP b bt xs t d = 51 := by unfold addP; rw [if_neg h, if_neg h2]; exact if_pos h3
theorem addP_0 {t : Int} {d : List Int} (h : ¬ (t < (if tat b bt xs (b + (xs.length : Int)) < 1 then 1 else tat b bt xs (b + (xs.length : Int))) ∨ t > 1099511627776)) (h2 : ¬ d.length > 4096) (h3 : ¬ (xs.length ≥ 4096 ∨ b + (xs.length : Int) ≥ 1099511627776)) : addP b bt xs t d = 0 := by unfold addP; rw [if_neg h, if_neg h2]; exact if_neg h3
theorem add_f (hb : 0 ≤ b ∧ b ≤ 1099511627776) (hl : xs.length ≤ 4096) (t : Int) (d : List Int) : log_add.f b bt xs t d = some (if addP b bt xs t d = 0 then (0, xs ++ [⟨t, d⟩]) else (addP b bt xs t d, xs)) := by
  unfold log_add.f
  rw [end_ok hb hl, Option.bind_some, term_in hb hl (by omega), Option.bind_some]
  by_cases h1 : t < (if tat b bt xs (b + (xs.length : Int)) < 1 then 1 else tat b bt xs (b + (xs.length : Int)))
  · rw [addP_151 (.inl h1), if_pos h1]; rfl
  · rw [if_neg h1]
    by_cases h2 : t > 1099511627776
    · rw [addP_151 (.inr h2), if_pos h2]; rfl
    · rw [if_neg h2]
      have h12 := fun h : _ ∨ _ => Or.elim h h1 h2
      by_cases h3 : d.length > 4096
      · rw [addP_5 h12 h3, if_pos (by omega)]; rfl
      · rw [if_neg (by omega)]
        by_cases h4 : xs.length ≥ 4096
        · rw [addP_51 h12 h3 (.inl h4), if_pos (by omega)]; rfl
        · rw [if_neg (by omega)]
          by_cases h5 : b + (xs.length : Int) ≥ 1099511627776
          · rw [addP_51 h12 h3 (.inr h5), if_pos h5]; rfl
          · rw [addP_0 h12 h3 (fun h => Or.elim h h4 h5), if_neg h5, if_pos rfl]
def appendP (b bt : Int) (xs : List Ent) (t : Int) (d : List Int) : Int × Int × List Ent × Int := if okLog b bt xs = true then (if addP b bt xs t d = 0 then (b, bt, xs ++ [⟨t, d⟩], 0) else (0, 0, [], addP b bt xs t d)) else (0, 0, [], 9)
theorem append_f (hf : FitL xs) (t : Int) (d : List Int) (hk : xs.length + 3 ≤ k) : raftlog_Append.f k b bt xs t d = some (appendP b bt xs t d) := by
  have h1 := hf.1
  unfold raftlog_Append.f appendP
  rw [check b bt (by omega) hk, Option.bind_some]
  by_cases h : okLog b bt xs = true
  · obtain ⟨p1, p2, _, _, _, p3, _⟩ := okLog_parts h
    rw [if_pos h, if_pos rfl, if_pos h, clone_fit hf, Option.bind_some, add_f ⟨p1, p2⟩ p3, Option.bind_some]
    by_cases h2 : addP b bt xs t d = 0
    · rw [if_pos h2, if_pos rfl, if_pos h2]
    · rw [if_neg h2, if_neg h2, if_neg h2]
  · rw [if_neg h, if_neg (by decide), if_neg h]
/-! ### From -/
def fromP (b bt : Int) (xs : List Ent) (i n : Int) : List Ent × Int := if okLog b bt xs = true then (if i ≤ b ∨ i > b + (xs.length : Int) + 1 then ([], 71) else if n < 0 then ([], 4) else ((xs.drop (i - b - 1).toNat).take n.toNat, 0)) else ([], 9)
theorem from_f (hf : FitL xs) {n : Int} (hw : -9223372036854775808 ≤ i ∧ i ≤ 9223372036854775807) (hk : xs.length + 3 ≤ k) : raftlog_From.f k b bt xs i n = some (fromP b bt xs i n) := by
  have h1 := hf.1
  unfold raftlog_From.f fromP
  rw [check b bt (by omega) hk, Option.bind_some]
  by_cases h : okLog b bt xs = true
  · obtain ⟨p1, p2, _, _, _, p3, _⟩ := okLog_parts h
    rw [if_pos h, if_pos rfl, if_pos h]
    obtain ⟨k, rfl⟩ : ∃ j, k = j + 1 := ⟨k - 1, by omega⟩
    have hbad : ∀ x, raftlog_From.j0 (k + 1) n x true b bt xs = some ([], 71) := by intro x; simp only [raftlog_From.j0]; rw [if_true]
    by_cases h2 : i ≤ b ∨ i > b + (xs.length : Int) + 1
    · rw [if_pos h2]
      have h3 : wrap64 (wrap64 (i - b) - 1) < 0 ∨ wrap64 (wrap64 (i - b) - 1) > (xs.length : Int) := by unfold wrap64; omega
      by_cases h4 : wrap64 (wrap64 (i - b) - 1) < 0
      · rw [if_pos h4, hbad]
      · rw [if_neg h4, decide_eq_true (by omega), hbad]
    · rw [if_neg h2, wrapi (i := i - b) (by omega) (by omega), wrapi (by omega) (by omega), if_neg (by omega), decide_eq_false (by omega)]
      simp only [raftlog_From.j0]
      rw [if_neg (by decide)]
      by_cases h3 : n < 0
      · rw [if_pos h3, if_pos h3]
      · rw [if_neg h3, if_neg h3, if_pos (by omega), if_pos (by omega), Option.bind_some]
        have hlen : (xs.drop (i - b - 1).toNat).length = xs.length - (i - b - 1).toNat := List.length_drop
        have hmn : mn n ((xs.drop (i - b - 1).toNat).length : Int) = if ((xs.drop (i - b - 1).toNat).length : Int) < n then ((xs.drop (i - b - 1).toNat).length : Int) else n := rfl
        have e : (xs.drop (i - b - 1).toNat).take (mn n ((xs.drop (i - b - 1).toNat).length : Int)).toNat = (xs.drop (i - b - 1).toNat).take n.toNat := by
          rw [hmn]
          split
          · rw [List.take_of_length_le (by omega), List.take_of_length_le (by omega)]
          · rfl
        rw [if_pos (by rw [hmn]; split <;> omega), if_pos (by rw [hmn]; split <;> omega), e, clone_fit ((hf.drop _).take _), Option.bind_some]
  · rw [if_neg h, if_neg (by decide), if_neg h]
/-! ### Compact -/
def compactP (b bt : Int) (xs : List Ent) (i : Int) : Int × Int × List Ent × Int := if okLog b bt xs = true then (if b ≤ i ∧ i ≤ b + (xs.length : Int) then (i, tat b bt xs i, xs.drop (i - b).toNat, 0) else (0, 0, [], 71)) else (0, 0, [], 9)
theorem compact_f (hf : FitL xs) (hw : -9223372036854775808 ≤ i ∧ i ≤ 9223372036854775807) (hk : xs.length + 3 ≤ k) : raftlog_Compact.f k b bt xs i = some (compactP b bt xs i) := by
  have h1 := hf.1
  unfold raftlog_Compact.f compactP
  rw [check b bt (by omega) hk, Option.bind_some]
  by_cases h : okLog b bt xs = true
  · obtain ⟨p1, p2, _, _, _, p3, _⟩ := okLog_parts h
    rw [if_pos h, if_pos rfl, if_pos h]
    by_cases hi : b ≤ i ∧ i ≤ b + (xs.length : Int)
    · rw [term_in ⟨p1, p2⟩ p3 hi, Option.bind_some, if_pos hi, if_pos rfl, wrapi (by omega) (by omega), if_pos (by omega), if_pos (by omega), clone_fit (hf.drop _), Option.bind_some]
    · rw [term_out ⟨p1, p2⟩ p3 hw (by omega), Option.bind_some, if_neg hi, if_neg (by decide)]
  · rw [if_neg h, if_neg (by decide), if_neg h]
theorem of_f (hf : FitL xs) (hk : xs.length + 1 ≤ k) : transeptlaw15_Of.f k b bt xs = some (b, bt, xs) := by
  unfold transeptlaw15_Of.f
  rw [copyEntries hf hk, Option.bind_some]
end
end Go.Proofs.Yteplhacanofeoaa.Q
