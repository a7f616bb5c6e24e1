/- RaftlogOwn is true of every log and entry; no condition. -/
import Derived.Test.YteplhacanofeoaaStmRaftlogOwn
import Derived.Test.YteplhacanofeoaaRlRef
import Derived.Test.YteplhacanofeoaaRlAlive
namespace Go.Proofs.Yteplhacanofeoaa.Pure
open Go.RowKit Go.Proofs.Yteplhacanofeoaa.Q Go.Proofs.Yteplhacanofeoaa.Read Go.Proofs.YteplhacanofeoaaW.PrintWords Go.Proofs.YteplhacanofeoaaW.PrintLast Go.Proofs.YteplhacanofeoaaW.PrintMore Go.Proofs.Yteplhacanofeoaa.Stm.raftlogOwn
set_option linter.unusedVariables false
set_option linter.unusedSimpArgs false

theorem fit_of {xs : List Ent} (h : FitsL 32 (fun x => fits28 x) xs) : FitL xs := by
  obtain ⟨_, h2, h3⟩ := h
  exact ⟨by omega, fun x hx => by have := (h3 x hx).2.2.1; omega⟩
theorem append_cases {b bt : Int} {xs : List Ent} {t : Int} {d : List Int} (h : FitL xs) (hd : d.length < 140737488355328) : FitL (appendP b bt xs t d).2.2.1 ∧ ((appendP b bt xs t d).2.2.2 ≠ 0 → (appendP b bt xs t d).2.2.1 = []) := by
  have hn : FitL ([] : List Ent) := ⟨by decide, fun x hx => by cases hx⟩
  unfold appendP
  split
  · rename_i hok
    have hl := (okLog_parts hok).2.2.2.2.2.1
    split
    · refine ⟨⟨by simp only [List.length_append, List.length_cons, List.length_nil]; omega, fun x hx => ?_⟩, fun h => absurd rfl h⟩
      rcases List.mem_append.1 hx with hx | hx
      · exact h.2 x hx
      · rw [List.mem_singleton.1 hx]; exact hd
    · exact ⟨hn, fun _ => rfl⟩
  · exact ⟨hn, fun _ => rfl⟩
theorem RaftlogOwn : Stm.raftlogOwn.Pure := by
  intro x0 x1 h0 h1
  obtain ⟨b, bt, xs⟩ := x0
  obtain ⟨t, d⟩ := x1
  have hf : FitL xs := fit_of h0.2.2
  have hd : d.length < 140737488355328 := by have := h1.2.2.1; dsimp only at this; omega
  obtain ⟨hfa, hnil⟩ := append_cases (b := b) (bt := bt) (t := t) hf hd
  obtain ⟨k, hk⟩ : ∃ k, k = xs.length + fuel xs + ((appendP b bt xs t d).2.2.1.length + fuel (appendP b bt xs t d).2.2.1) + d.length + 100 := ⟨_, rfl⟩
  refine ⟨k, ?_⟩
  unfold transeptlaw15_RaftlogOwn.f
  dsimp only
  rw [alive_f (by omega), Option.bind_some, if_pos rfl, of_f hf (by omega), Option.bind_some]
  dsimp only
  rw [copyBytes hd, Option.bind_some, append_f hf t d (by omega), Option.bind_some]
  by_cases he : (appendP b bt xs t d).2.2.2 = 0
  · have hs : okSp k xs d = true := by
      have hl := hf.1
      simp only [okSp, Bool.and_eq_true, decide_eq_true_eq, List.all_eq_true]
      exact ⟨⟨⟨by omega, by omega⟩, by omega⟩, fun x hx => ⟨by have := fuel_mem hx; omega, by have := hf.2 x hx; omega⟩⟩
    rw [if_pos he, refAppend_f hf t d (by omega), Option.bind_some, alike_f hfa (by omega), Option.bind_some, if_pos hs]
    rfl
  · rw [if_neg he, hnil he]
    rfl
end Go.Proofs.Yteplhacanofeoaa.Pure
