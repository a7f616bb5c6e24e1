/- RaftlogCopies is true of every list of entries and number; no condition. -/
import Derived.Test.YteplhacanofeoaaStmRaftlogCopies
import Derived.Test.YteplhacanofeoaaRlAcc
import Derived.Test.YteplhacanofeoaaRlAlive
namespace Go.Proofs.Yteplhacanofeoaa.Pure
open Go.RowKit Go.Proofs.Yteplhacanofeoaa.Q Go.Proofs.Yteplhacanofeoaa.Read Go.Proofs.YteplhacanofeoaaW.PrintWords Go.Proofs.YteplhacanofeoaaW.PrintLast Go.Proofs.YteplhacanofeoaaW.PrintMore Go.Proofs.Yteplhacanofeoaa.Stm.raftlogCopies

theorem fit_of {xs : List Ent} (h : FitsL 32 (fun x => fits28 x) xs) : FitL xs := by
  obtain ⟨_, h2, h3⟩ := h
  exact ⟨by omega, fun x hx => by have := (h3 x hx).2.2.1; omega⟩
theorem tmod_lt (a : Int) {b : Int} (h : 0 < b) : -b < Int.tmod a b ∧ Int.tmod a b < b := ⟨Int.lt_tmod_of_pos a h, Int.tmod_lt_of_pos a h⟩
theorem piece (xs : List Ent) (a n : Nat) : (xs.drop a).take n = (xs.take (min (a + n) xs.length)).drop a := by
  rw [List.drop_take]
  by_cases h2 : a + n ≤ xs.length
  · rw [Nat.min_eq_left h2, Nat.add_sub_cancel_left]
  · rw [Nat.min_eq_right (by omega), List.take_of_length_le (by rw [List.length_drop]; omega), List.take_of_length_le (by rw [List.length_drop]; omega)]
theorem take_max {xs : List Ent} {a : Nat} (h : a < xs.length) (n : Nat) : xs.take (max a (min (a + n) xs.length)) = xs.take (a + n) := by
  by_cases h2 : a + n ≤ xs.length
  · rw [Nat.min_eq_left h2, Nat.max_eq_right (by omega)]
  · rw [Nat.min_eq_right (by omega), Nat.max_eq_right (by omega), List.take_of_length_le (Nat.le_refl _), List.take_of_length_le (by omega)]
theorem mn_min (a b : Nat) : mn (a : Int) (b : Int) = ((min a b : Nat) : Int) := by
  unfold mn
  by_cases h : (b : Int) < (a : Int)
  · rw [if_pos h, Nat.min_eq_right (by omega)]
  · rw [if_neg h, Nat.min_eq_left (by omega)]
theorem w0 : wrap64 0 = 0 := wrapi (i := 0) (by omega) (by omega)
theorem w00 : wrap64 (wrap64 (0 + 0) + 0) = 0 := by
  rw [Int.add_zero, Int.add_zero, w0, w0]
theorem numf (x : Int) : transeptlaw15_num.f x = some x := rfl
theorem loop {xs : List Ent} {n : Nat} (hf : FitL xs) (hok : okLog 0 0 xs = true) (hl : xs.length ≤ 60) (hn : 1 ≤ n ∧ n ≤ 9) : ∀ (m k a : Nat), xs.length ≤ a + m → a ≤ 200 → m + (xs.length + fuel xs + 10) ≤ k →
    transeptlaw15_RaftlogCopies.l0 k xs (n : Int) (a : Int) 0 0 xs 0 0 (xs.take a) = some true := by
  have hq := okLog_parts hok
  intro m
  induction m with
  | zero =>
    intro k a hm ha hk
    obtain ⟨k, rfl⟩ : ∃ j, k = j + 1 := ⟨k - 1, by omega⟩
    simp only [transeptlaw15_RaftlogCopies.l0]
    rw [if_neg (by omega), List.take_of_length_le (by omega), sameEntries hf (by omega), Option.bind_some]
  | succ m ih =>
    intro k a hm ha hk
    obtain ⟨k, rfl⟩ : ∃ j, k = j + 1 := ⟨k - 1, by omega⟩
    simp only [transeptlaw15_RaftlogCopies.l0]
    by_cases h : a < xs.length
    · have hwr : wrap64 ((a : Int) + (n : Int)) = ((a + n : Nat) : Int) := by rw [wrapi (by omega) (by omega)]; exact (Int.natCast_add a n).symm
      have hih := ih k (a + n) (by omega) (by omega) (by omega)
      have hw1 : wrap64 ((a : Int) + 1) = (a : Int) + 1 := wrapi (by omega) (by omega)
      have e1 : fromP 0 0 xs ((a : Int) + 1) (n : Int) = ((xs.drop a).take n, 0) := by
        unfold fromP
        rw [if_pos hok, if_neg (by omega), if_neg (by omega), show ((a : Int) + 1 - 0 - 1).toNat = a by omega, Int.toNat_natCast]
      have e2 : termP 0 0 xs (a : Int) = (tat 0 0 xs (a : Int), 0) := by
        unfold termP
        rw [if_pos hok, if_pos (by omega)]
      have h0 : (a : Int) < (xs.length : Int) := by omega
      have hfr := from_f (b := 0) (bt := 0) (i := (a : Int) + 1) (n := (n : Int)) hf (by omega) (k := k) (by omega)
      have hte := term_f (b := 0) (bt := 0) (i := (a : Int)) hf (by omega) (k := k) (by omega)
      have hk3 : xs.length + 3 ≤ k := by omega
      have e3 := piece xs a n
      have e4 := accept_take hok (f := a) (t := min (a + n) xs.length) (p := a) (k := k) (Nat.le_min.2 ⟨Nat.le_add_right _ _, Nat.le_of_lt h⟩) (Nat.min_le_right _ _) (Nat.le_of_lt h) hf hk3
      have e5 : mn ((a + n : Nat) : Int) (xs.length : Int) = ((min (a + n) xs.length : Nat) : Int) := mn_min _ _
      rw [if_pos h0, hw1, hfr, Option.bind_some, hte, Option.bind_some, e1, e2]
      dsimp only
      rw [e3, e4, if_pos (Nat.le_refl _), Option.bind_some]
      dsimp only
      rw [numf, Option.bind_some, Option.bind_some, Option.bind_some, if_pos w00, hwr, e5, if_pos rfl]
      have e6 := take_max h n
      rw [e6]
      exact hih
    · rw [if_neg (by omega), List.take_of_length_le (by omega), sameEntries hf (by omega), Option.bind_some]
theorem RaftlogCopies : Stm.raftlogCopies.Pure := by
  intro xs a h0 h1
  have hf : FitL xs := fit_of h0
  have hw := wf_i64 h1
  obtain ⟨k, hk⟩ : ∃ k, k = xs.length + (xs.length + fuel xs + 10) + 100 := ⟨_, rfl⟩
  refine ⟨k + 1, ?_⟩
  unfold transeptlaw15_RaftlogCopies.f
  rw [alive_f (by omega), Option.bind_some, if_pos rfl, copyEntries hf (by omega), Option.bind_some, check 0 0 (by have := hf.1; omega) (by omega), Option.bind_some]
  simp only [transeptlaw15_num.f, Option.bind_some, transeptlaw15_RaftlogCopies.j0]
  have t1 := tmod_lt a (b := 9) (by decide)
  have t2 := tmod_lt (Int.tmod a 9 + 9) (b := 9) (by decide)
  have t3 : 0 ≤ Int.tmod (Int.tmod a 9 + 9) 9 := Int.tmod_nonneg _ (by omega)
  rw [wrapi (i := Int.tmod a 9 + 9) (by omega) (by omega), wrapi (i := 1 + Int.tmod (Int.tmod a 9 + 9) 9) (by omega) (by omega)]
  by_cases hok : okLog 0 0 xs = true
  · rw [if_pos hok, if_pos rfl]
    by_cases hl : (xs.length : Int) > 60
    · rw [if_pos (by simpa using hl), if_pos hl]
    · rw [if_neg (by simpa using hl)]
      obtain ⟨n, hn⟩ : ∃ n : Nat, (n : Int) = 1 + Int.tmod (Int.tmod a 9 + 9) 9 := ⟨(1 + Int.tmod (Int.tmod a 9 + 9) 9).toNat, by omega⟩
      rw [← hn]
      exact loop hf hok (by omega) (by omega) xs.length k 0 (by omega) (by omega) (by omega)
  · rw [if_neg hok, if_neg (by decide), if_true]
    by_cases hl : (xs.length : Int) > 60
    · rw [if_pos hl]
    · rw [if_neg hl, refCheck 0 0 (by have := hf.1; omega) (by omega), Option.bind_some, if_neg hok]
      rfl
end Go.Proofs.Yteplhacanofeoaa.Pure
