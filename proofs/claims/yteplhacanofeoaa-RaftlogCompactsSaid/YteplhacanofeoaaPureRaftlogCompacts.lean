/- RaftlogCompacts is true of every log and number; no condition. -/
import Derived.Test.YteplhacanofeoaaStmRaftlogCompacts
import Derived.Test.YteplhacanofeoaaRlDrop
import Derived.Test.YteplhacanofeoaaRlAlive
namespace Go.Proofs.Yteplhacanofeoaa.Pure
open Go.RowKit Go.Proofs.Yteplhacanofeoaa.Q Go.Proofs.Yteplhacanofeoaa.Read Go.Proofs.YteplhacanofeoaaW.PrintWords Go.Proofs.YteplhacanofeoaaW.PrintLast Go.Proofs.YteplhacanofeoaaW.PrintMore Go.Proofs.Yteplhacanofeoaa.Stm.raftlogCompacts

theorem fit_of {xs : List Ent} (h : FitsL 32 (fun x => fits28 x) xs) : FitL xs := by
  obtain ⟨_, h2, h3⟩ := h
  exact ⟨by omega, fun x hx => by have := (h3 x hx).2.2.1; omega⟩
set_option maxRecDepth 100000 in
theorem loop {b bt i : Int} {xs : List Ent} (hf : FitL xs) (hok : okLog b bt xs = true) (hi : b ≤ i ∧ i ≤ b + (xs.length : Int)) : ∀ (m k : Nat) (x : Int), b ≤ x → x + (m : Int) = b + (xs.length : Int) + 1 → m + (xs.length + fuel (((xs.drop (i - b).toNat).take 5000)) + 5010) ≤ k →
    transeptlaw15_RaftlogCompacts.l0 k i (b + (xs.length : Int)) x b bt xs i (tat b bt xs i) (xs.drop (i - b).toNat) = some true := by
  have hp := okLog_parts hok
  have hok2 := okLog_drop hok hi
  have hld : (xs.drop (i - b).toNat).length = xs.length - (i - b).toNat := List.length_drop
  intro m
  induction m with
  | zero =>
    intro k x hx hm hk
    obtain ⟨k, rfl⟩ : ∃ j, k = j + 1 := ⟨k - 1, by omega⟩
    simp only [transeptlaw15_RaftlogCompacts.l0]
    have e1 : fromP i (tat b bt xs i) (xs.drop (i - b).toNat) (i + 1) 5000 = ((xs.drop (i - b).toNat).take 5000, 0) := by
      unfold fromP
      rw [if_pos hok2, if_neg (by omega), if_neg (by decide), show (i + 1 - i - 1).toNat = 0 by omega, List.drop_zero]
      rfl
    have e2 : fromP b bt xs (i + 1) 5000 = ((xs.drop (i - b).toNat).take 5000, 0) := by
      unfold fromP
      rw [if_pos hok, if_neg (by omega), if_neg (by decide), show (i + 1 - b - 1).toNat = (i - b).toNat by omega]
      rfl
    rw [if_neg (by omega), wrapi (by omega) (by omega), from_f (hf.drop _) (by omega) (by omega), Option.bind_some, of_f hf (by omega), Option.bind_some]
    dsimp only
    rw [from_f hf (by omega) (by omega), Option.bind_some, e1, e2]
    dsimp only
    rw [if_pos rfl, sameEntries ((hf.drop _).take _) (by rw [List.length_take]; omega), Option.bind_some]
  | succ m ih =>
    intro k x hx hm hk
    obtain ⟨k, rfl⟩ : ∃ j, k = j + 1 := ⟨k - 1, by omega⟩
    simp only [transeptlaw15_RaftlogCompacts.l0]
    have hn := ih k (x + 1) (by omega) (by omega) (by omega)
    rw [if_pos (by omega), of_f hf (by omega), Option.bind_some]
    dsimp only
    rw [term_f hf (by omega) (by omega), Option.bind_some, term_f (hf.drop _) (by omega) (by omega), Option.bind_some, wrapi (i := x + 1) (by omega) (by omega)]
    have e1 : termP b bt xs x = (tat b bt xs x, 0) := by unfold termP; rw [if_pos hok, if_pos (by omega)]
    by_cases h : x < i
    · have e2 : termP i (tat b bt xs i) (xs.drop (i - b).toNat) x = (0, 71) := by unfold termP; rw [if_pos hok2, if_neg (by omega)]
      rw [if_pos h, e1, e2]
      simp only [transeptlaw15_num.f, Option.bind_some, if_true]
      rw [if_neg (by omega)]
      exact hn
    · have e2 : termP i (tat b bt xs i) (xs.drop (i - b).toNat) x = (tat b bt xs x, 0) := by unfold termP; rw [if_pos hok2, if_pos (by omega), tat_drop hi (by omega)]
      rw [if_neg h, if_pos (by omega), e1, e2]
      simp only [transeptlaw15_num.f, Option.bind_some, if_true]
      exact hn
theorem RaftlogCompacts : Stm.raftlogCompacts.Pure := by
  intro x0 i h0 h1
  obtain ⟨b, bt, xs⟩ := x0
  have hf : FitL xs := fit_of h0.2.2
  have hw := wf_i64 h1
  obtain ⟨k, hk⟩ : ∃ k, k = (xs.length + 2) + (xs.length + fuel (((xs.drop (i - b).toNat).take 5000)) + 5010) + 100 := ⟨_, rfl⟩
  refine ⟨k, ?_⟩
  unfold transeptlaw15_RaftlogCompacts.f
  dsimp only
  rw [alive_f (by omega), Option.bind_some, if_pos rfl, of_f hf (by omega), Option.bind_some]
  dsimp only
  rw [compact_f hf hw (by omega), Option.bind_some]
  simp only [transeptlaw15_num.f, Option.bind_some]
  by_cases hok : okLog b bt xs = true
  · by_cases hi : b ≤ i ∧ i ≤ b + (xs.length : Int)
    · have hp := okLog_parts hok
      have hok2 := okLog_drop hok hi
      have hld : (xs.drop (i - b).toNat).length = xs.length - (i - b).toNat := List.length_drop
      have ec : compactP b bt xs i = (i, tat b bt xs i, xs.drop (i - b).toNat, 0) := by unfold compactP; rw [if_pos hok, if_pos hi]
      have e1 : lastP b bt xs = (b + (xs.length : Int), tat b bt xs (b + (xs.length : Int)), 0) := by unfold lastP; rw [if_pos hok]
      have e2 : lastP i (tat b bt xs i) (xs.drop (i - b).toNat) = (b + (xs.length : Int), tat b bt xs (b + (xs.length : Int)), 0) := by
        unfold lastP
        rw [if_pos hok2, hld, show i + ((xs.length - (i - b).toNat : Nat) : Int) = b + (xs.length : Int) by omega, tat_drop hi (by omega)]
      rw [ec]
      dsimp only
      rw [if_pos rfl]
      rw [last_f hf (by omega), Option.bind_some, last_f (hf.drop _) (by omega), Option.bind_some, e1, e2]
      dsimp only
      rw [if_pos (by unfold wrap64; omega), if_pos rfl, bne_self_eq_false]
      obtain ⟨k, rfl⟩ : ∃ j, k = j + 1 := ⟨k - 1, by omega⟩
      simp only [transeptlaw15_RaftlogCompacts.j0]
      rw [if_neg (by decide)]
      exact loop hf hok hi (xs.length + 1) k b (by omega) (by omega) (by omega)
    · have ec : compactP b bt xs i = (0, 0, [], 71) := by unfold compactP; rw [if_pos hok, if_neg hi]
      rw [ec]
      rfl
  · have ec : compactP b bt xs i = (0, 0, [], 9) := by unfold compactP; rw [if_neg hok]
    rw [ec]
    rfl
end Go.Proofs.Yteplhacanofeoaa.Pure
