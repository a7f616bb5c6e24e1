/- What a log becomes by a piece of the log that it is a beginning of; no condition. -/
import Derived.Test.YteplhacanofeoaaRlDrop
namespace Go.Proofs.Yteplhacanofeoaa.Q
open Go.RowKit Go.Proofs.YteplhacanofeoaaW.PrintWords Go.Proofs.YteplhacanofeoaaW.PrintLast Go.Proofs.YteplhacanofeoaaW.PrintMore
set_option linter.unusedVariables false
set_option linter.unusedSimpArgs false

theorem goodFrom_take {xs : List Ent} : ∀ {a : Int} (n : Nat), goodFrom a xs = true → goodFrom a (xs.take n) = true := by
  induction xs with
  | nil => intro a n h; simpa using h
  | cons y ys ih =>
    intro a n h
    cases n with
    | zero => simp [goodFrom]
    | succ n =>
      simp only [goodFrom, Bool.and_eq_true, List.take_succ_cons] at h ⊢
      exact ⟨h.1, ih n h.2⟩
theorem okLog_take {xs : List Ent} (h : okLog 0 0 xs = true) (n : Nat) : okLog 0 0 (xs.take n) = true := by
  have hp := okLog_parts h
  have hg := okLog_good h
  unfold okLog
  rw [Bool.and_eq_true, decide_eq_true_eq, List.length_take]
  exact ⟨by omega, goodFrom_take n hg⟩
theorem rd_take {xs : List Ent} {n : Nat} {j : Nat} (hj : j < n) (hjl : j < xs.length) : rd_T28 (xs.take n) (j : Int) = xs[j] := by
  rw [rd_at (by rw [List.length_take]; omega), List.getElem_take]
/-- The term ahead of entry p. -/
theorem tat_take {L : List Ent} {p f : Nat} (hp : p ≤ L.length) (hf : f ≤ p) : tat 0 0 (L.take p) (f : Int) = tat 0 0 L (f : Int) := by
  unfold tat
  by_cases h : (f : Int) = 0
  · rw [if_pos h, if_pos h]
  · rw [if_neg h, if_neg h]
    obtain ⟨g, rfl⟩ : ∃ g, f = g + 1 := ⟨f - 1, by omega⟩
    rw [show ((g + 1 : Nat) : Int) - 0 - 1 = (g : Int) by omega, rd_take (by omega) (by omega), rd_at (by omega)]
section
variable {L : List Ent} (hok : okLog 0 0 L = true)
include hok
theorem tat_le {p : Nat} (hp : p < L.length) : (if tat 0 0 L (p : Int) < 1 then 1 else tat 0 0 L (p : Int)) ≤ L[p].f0 := by
  have hg := okLog_good hok
  rw [if_pos (by decide)] at hg
  have h1 := goodFrom_mem hg L[p] (List.getElem_mem hp)
  unfold tat
  by_cases h : (p : Int) = 0
  · rw [if_pos h, if_pos (by decide)]; exact h1.1
  · rw [if_neg h]
    obtain ⟨g, rfl⟩ : ∃ g, p = g + 1 := ⟨p - 1, by omega⟩
    rw [show ((g + 1 : Nat) : Int) - 0 - 1 = (g : Int) by omega, rd_at (by omega)]
    have h2 := goodFrom_drop (j := g) (by omega) hg
    rw [List.drop_eq_getElem_cons hp] at h2
    simp only [goodFrom, Bool.and_eq_true, decide_eq_true_eq] at h2
    split <;> omega
theorem go_take : ∀ (m f p : Nat), f ≤ p → p ≤ L.length → f + m ≤ L.length → acc_go 0 0 ((L.take (f + m)).drop f) (f : Int) (L.take p) = some (0, ((f + m : Nat) : Int), L.take (max p (f + m))) := by
  have hq := okLog_parts hok
  have hg := okLog_good hok
  rw [if_pos (by decide)] at hg
  intro m
  induction m with
  | zero =>
    intro f p hfp hp hl
    rw [Nat.add_zero, List.drop_of_length_le (by rw [List.length_take]; omega)]
    unfold acc_go
    rw [show max p f = p by omega]
  | succ m ih =>
    intro f p hfp hp hl
    have hfl : f < L.length := by omega
    rw [show f + (m + 1) = (f + 1) + m by omega]
    have hlt : f < (L.take ((f + 1) + m)).length := by rw [List.length_take]; omega
    have hpl : (L.take p).length = p := by rw [List.length_take]; omega
    rw [List.drop_eq_getElem_cons hlt, List.getElem_take]
    unfold acc_go
    rw [wrapi (i := (f : Int) + 1) (by omega) (by omega)]
    by_cases h : f + 1 ≤ p
    · rw [term_in (by omega) (by omega) (by omega), Option.bind_some]
      have ht : tat 0 0 (L.take p) ((f : Int) + 1) = L[f].f0 := by
        have h1 := tat_take hp h
        rw [Int.natCast_add, Int.natCast_one] at h1
        rw [h1]
        unfold tat
        rw [if_neg (by omega), show (f : Int) + 1 - 0 - 1 = (f : Int) by omega, rd_at hfl]
      rw [if_pos ⟨rfl, ht⟩]
      have h2 := ih (f + 1) p h hp (by omega)
      rw [Int.natCast_add, Int.natCast_one] at h2
      exact h2
    · obtain rfl : f = p := by omega
      rw [term_out (by omega) (by omega) (by omega) (by omega), Option.bind_some, if_neg (by rintro ⟨h, _⟩; cases h), wrapi (i := (f : Int) + 1 - 1) (by omega) (by omega), wrapi (i := (f : Int) + 1 - 1 - 0) (by omega) (by omega), if_pos (by omega)]
      rw [show ((f : Int) + 1 - 1 - 0).toNat = f by omega, List.take_take, Nat.min_self, add_f (by omega) (by omega)]
      have hm := goodFrom_mem hg L[f] (List.getElem_mem hfl)
      have ha : addP 0 0 (L.take f) L[f].f0 L[f].f1 = 0 := by
        refine addP_0 ?_ (by omega) (by omega)
        rw [hpl, Int.zero_add, tat_take hp (Nat.le_refl _)]
        have := tat_le hok hfl
        omega
      rw [if_pos ha, Option.bind_some, if_pos rfl]
      show acc_go 0 0 _ _ (L.take f ++ [L[f]]) = _
      rw [take_snoc hfl]
      have h2 := ih (f + 1) (f + 1) (Nat.le_refl _) (by omega) (by omega)
      rw [Int.natCast_add, Int.natCast_one] at h2
      rw [h2]
      congr 4
      omega
/-- Accept, of a piece of the log. -/
theorem accept_take {f t p k : Nat} (hft : f ≤ t) (ht : t ≤ L.length) (hp : p ≤ L.length) (hf : FitL L) (hk : L.length + 3 ≤ k) :
    raftlog_Accept.f k 0 0 (L.take p) (f : Int) (tat 0 0 L (f : Int)) ((L.take t).drop f) = some (if f ≤ p then (0, 0, L.take (max p t), (t : Int), 0) else (0, 0, [], 0, 152)) := by
  have hq := okLog_parts hok
  have hpl : (L.take p).length = p := by rw [List.length_take]; omega
  unfold raftlog_Accept.f
  rw [check 0 0 (by omega) (by omega), Option.bind_some, if_pos (okLog_take hok p), if_pos rfl, if_neg (by omega), if_neg (by omega), clone_fit (hf.take p), Option.bind_some, wrapi (by omega) (by omega), if_neg (by omega)]
  unfold acc_rest
  by_cases h : f ≤ p
  · rw [if_pos h, term_in (by omega) (by omega) (by omega), Option.bind_some, if_pos rfl, if_pos (tat_take hp h)]
    have h1 := go_take hok (t - f) f p h hp (by omega)
    rw [show f + (t - f) = t by omega] at h1
    rw [h1, Option.bind_some, if_pos rfl]
  · rw [if_neg h, term_out (by omega) (by omega) (by omega) (by omega), Option.bind_some, if_neg (by decide)]
end
end Go.Proofs.Yteplhacanofeoaa.Q
