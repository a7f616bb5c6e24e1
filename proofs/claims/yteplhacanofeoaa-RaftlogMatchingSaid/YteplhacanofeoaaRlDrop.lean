/- What is left behind a snapshot, plainly; no condition. -/
import Derived.Test.YteplhacanofeoaaRlFun
namespace Go.Proofs.Yteplhacanofeoaa.Q
open Go.RowKit Go.Proofs.YteplhacanofeoaaW.PrintWords Go.Proofs.YteplhacanofeoaaW.PrintLast Go.Proofs.YteplhacanofeoaaW.PrintMore
set_option linter.unusedVariables false
set_option linter.unusedSimpArgs false

theorem goodFrom_mem {xs : List Ent} : ∀ {a : Int}, goodFrom a xs = true → ∀ x ∈ xs, a ≤ x.f0 ∧ x.f0 ≤ 1099511627776 ∧ x.f1.length ≤ 4096 := by
  induction xs with
  | nil => intro a _ x hx; cases hx
  | cons y ys ih =>
    intro a h x hx
    simp only [goodFrom, Bool.and_eq_true, decide_eq_true_eq] at h
    rcases List.mem_cons.1 hx with rfl | hx
    · exact ⟨h.1.1.1, h.1.1.2, h.1.2⟩
    · have := ih h.2 x hx; exact ⟨by omega, this.2⟩
theorem goodFrom_drop {xs : List Ent} : ∀ {a : Int} {j : Nat} (hj : j < xs.length), goodFrom a xs = true → goodFrom xs[j].f0 (xs.drop (j + 1)) = true := by
  induction xs with
  | nil => intro a j hj _; simp at hj
  | cons y ys ih =>
    intro a j hj h
    simp only [goodFrom, Bool.and_eq_true, decide_eq_true_eq] at h
    cases j with
    | zero => simpa using h.2
    | succ j => simpa using ih (j := j) (by simpa using hj) h.2
theorem rd_drop {xs : List Ent} {n : Nat} {j : Int} (hj : 0 ≤ j) : rd_T28 (xs.drop n) j = rd_T28 xs ((n : Int) + j) := by
  unfold rd_T28
  rw [List.getD_eq_getElem?_getD, List.getD_eq_getElem?_getD, List.getElem?_drop]
  congr 3
  omega
theorem tat_drop {b bt i j : Int} {xs : List Ent} (hi : b ≤ i ∧ i ≤ b + (xs.length : Int)) (hj : i ≤ j) : tat i (tat b bt xs i) (xs.drop (i - b).toNat) j = tat b bt xs j := by
  by_cases h : j = i
  · subst h
    rw [show tat j (tat b bt xs j) (xs.drop (j - b).toNat) j = tat b bt xs j from if_pos rfl]
  · have h1 : tat i (tat b bt xs i) (xs.drop (i - b).toNat) j = (rd_T28 (xs.drop (i - b).toNat) (j - i - 1)).f0 := if_neg h
    have h2 : tat b bt xs j = (rd_T28 xs (j - b - 1)).f0 := if_neg (by omega)
    rw [h1, h2, rd_drop (by omega)]
    congr 2
    omega
theorem okLog_drop {b bt i : Int} {xs : List Ent} (h : okLog b bt xs = true) (hi : b ≤ i ∧ i ≤ b + (xs.length : Int)) : okLog i (tat b bt xs i) (xs.drop (i - b).toNat) = true := by
  have hp := okLog_parts h
  have hg := okLog_good h
  by_cases hib : i = b
  · subst hib
    have h1 : tat i bt xs i = bt := if_pos rfl
    rw [h1, Int.sub_self]
    exact h
  · have hlt : (i - b - 1).toNat < xs.length := by omega
    have h1 : tat b bt xs i = xs[(i - b - 1).toNat].f0 := by
      rw [show tat b bt xs i = (rd_T28 xs (i - b - 1)).f0 from if_neg hib]
      have h2 := rd_at hlt
      rw [show (((i - b - 1).toNat : Nat) : Int) = i - b - 1 by omega] at h2
      rw [h2]
    have h2 := goodFrom_drop hlt hg
    rw [show (i - b - 1).toNat + 1 = (i - b).toNat by omega] at h2
    have h3 := goodFrom_mem hg xs[(i - b - 1).toNat] (List.getElem_mem hlt)
    have h4 : 1 ≤ xs[(i - b - 1).toNat].f0 := by have := h3.1; split at this <;> omega
    unfold okLog
    rw [h1, Bool.and_eq_true, decide_eq_true_eq, List.length_drop]
    refine ⟨by omega, ?_⟩
    rw [if_neg (by omega)]
    exact h2
end Go.Proofs.Yteplhacanofeoaa.Q
