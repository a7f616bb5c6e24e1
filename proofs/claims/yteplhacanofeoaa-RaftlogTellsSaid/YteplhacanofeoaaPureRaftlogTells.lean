/- RaftlogTells is true of every log, entry and numbers; no condition. -/
import Derived.Test.YteplhacanofeoaaStmRaftlogTells
import Derived.Test.YteplhacanofeoaaRlRef
import Derived.Test.YteplhacanofeoaaRlAlive
namespace Go.Proofs.Yteplhacanofeoaa.Pure
open Go.RowKit Go.Proofs.Yteplhacanofeoaa.Q Go.Proofs.Yteplhacanofeoaa.Read Go.Proofs.YteplhacanofeoaaW.PrintWords Go.Proofs.YteplhacanofeoaaW.PrintLast Go.Proofs.YteplhacanofeoaaW.PrintMore Go.Proofs.Yteplhacanofeoaa.Stm.raftlogTells

theorem fit_of {xs : List Ent} (h : FitsL 32 (fun x => fits28 x) xs) : FitL xs := by
  obtain ⟨_, h2, h3⟩ := h
  exact ⟨by omega, fun x hx => by have := (h3 x hx).2.2.1; omega⟩
theorem fit_append {xs : List Ent} {t : Int} {d : List Int} (h : FitL xs) (hl : xs.length ≤ 4096) (hd : d.length < 140737488355328) : FitL (xs ++ [⟨t, d⟩]) := by
  refine ⟨by simp only [List.length_append, List.length_cons, List.length_nil]; omega, fun x hx => ?_⟩
  rcases List.mem_append.1 hx with hx | hx
  · exact h.2 x hx
  · rw [List.mem_singleton.1 hx]; exact hd
theorem fit_nil : FitL [] := ⟨by decide, fun x hx => by cases hx⟩
theorem fit_appendP {b bt : Int} {xs : List Ent} {t : Int} {d : List Int} (h : FitL xs) (hd : d.length < 140737488355328) : FitL (appendP b bt xs t d).2.2.1 := by
  unfold appendP
  split
  · rename_i hok
    split
    · exact fit_append h (okLog_parts hok).2.2.2.2.2.1 hd
    · exact fit_nil
  · exact fit_nil
theorem fit_fromP {b bt : Int} {xs : List Ent} {i n : Int} (h : FitL xs) : FitL (fromP b bt xs i n).1 := by
  unfold fromP
  split
  · split
    · exact fit_nil
    · split
      · exact fit_nil
      · exact (h.drop _).take _
  · exact fit_nil
theorem fit_compactP {b bt : Int} {xs : List Ent} {i : Int} (h : FitL xs) : FitL (compactP b bt xs i).2.2.1 := by
  unfold compactP
  split
  · split
    · exact h.drop _
    · exact fit_nil
  · exact fit_nil
theorem RaftlogTells : Stm.raftlogTells.Pure := by
  intro x0 x1 x2 x3 h0 h1 h2 h3
  obtain ⟨b, bt, xs⟩ := x0
  obtain ⟨t, d⟩ := x1
  have hf : FitL xs := fit_of h0.2.2
  have hd : d.length < 140737488355328 := by have := h1.2.2.1; dsimp only at this; omega
  have hw2 := wf_i64 h2
  have hfa := fit_appendP (b := b) (bt := bt) (t := t) hf hd
  have hff := fit_fromP (b := b) (bt := bt) (i := x2) (n := x3) hf
  have hfc := fit_compactP (b := b) (bt := bt) (i := x2) hf
  obtain ⟨k, hk⟩ : ∃ k, k = xs.length + fuel xs + ((appendP b bt xs t d).2.2.1.length + fuel (appendP b bt xs t d).2.2.1) + ((fromP b bt xs x2 x3).1.length + fuel (fromP b bt xs x2 x3).1) + ((compactP b bt xs x2).2.2.1.length + fuel (compactP b bt xs x2).2.2.1) + 100 := ⟨_, rfl⟩
  refine ⟨k, ?_⟩
  unfold transeptlaw15_RaftlogTells.f
  dsimp only
  rw [of_f hf (by omega), Option.bind_some]
  dsimp only
  rw [last_f hf (by omega), Option.bind_some, refLast_f hf (by omega), Option.bind_some, term_f hf hw2 (by omega), Option.bind_some, refTerm_f hf hw2 (by omega), Option.bind_some, append_f hf t d (by omega), Option.bind_some, refAppend_f hf t d (by omega), Option.bind_some,
    from_f hf hw2 (by omega), Option.bind_some, refFrom_f hf hw2 (by omega), Option.bind_some, compact_f hf hw2 (by omega), Option.bind_some, refCompact_f hf hw2 (by omega), Option.bind_some]
  simp only [transeptlaw15_num.f, Option.bind_some, if_true]
  rw [alike_f hfa (by omega), Option.bind_some, if_pos rfl, sameEntries hff (by omega), Option.bind_some, if_pos rfl, alike_f hfc (by omega), Option.bind_some, if_pos rfl, check b bt (by have := hf.1; omega) (by omega), Option.bind_some, refCheck b bt (by have := hf.1; omega) (by omega), Option.bind_some, if_pos rfl, alike_f hf (by omega), Option.bind_some, if_pos rfl, alive_f (by omega), Option.bind_some]
end Go.Proofs.Yteplhacanofeoaa.Pure
