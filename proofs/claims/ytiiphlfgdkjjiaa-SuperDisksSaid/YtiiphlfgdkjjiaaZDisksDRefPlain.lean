/- What the page's Check and Alike compute, in plain Lean; conditions: the lists are no longer than a machine holds. -/
import Derived.Test.YtiiphlfgdkjjiaaZDisksDPlain
import Derived.Test.YtiiphlfgdkjjiaaZDisksDRef
import Derived.Test.YtiiphlfgdkjjiaaZDisksQ25
namespace Go.Proofs.Ytiiphlfgdkjjiaa.Q
open Go.RowKit Go.Proofs.YtiiphlfgdkjjiaaW.PrintWords Go.Proofs.YtiiphlfgdkjjiaaW.PrintLast Go.Proofs.YtiiphlfgdkjjiaaW.PrintMore
set_option linter.unusedVariables false
set_option linter.unusedSimpArgs false

theorem toWs_drop {l1 : List Wp} {i : Nat} (h : i < l1.length) : (toWs l1).drop i = toW l1[i] :: (toWs l1).drop (i + 1) := by
  have hl : i < (toWs l1).length := by rw [toWs_length]; exact h
  rw [List.drop_eq_getElem_cons hl, toWs_at h]
  rfl
theorem pcheck_l1 {l0 : List (List Int)} {l1 : List Wp} (hf : l1.length < 4611686018427387904) : ∀ (m k i : Nat), i + m = l1.length → m + 1 ≤ k → transeptref04_Check.l1 k (i : Int) l0 l1 = some (if ((toWs l1).drop i).all (okW l0.length) = true then 0 else 9) := by
  intro m
  induction m with
  | zero =>
    intro k i hi hk
    obtain ⟨k, rfl⟩ : ∃ j, k = j + 1 := ⟨k - 1, by omega⟩
    rw [transeptref04_Check.l1, if_neg (by omega), List.drop_eq_nil_of_le (by rw [toWs_length]; omega)]
    rfl
  | succ m ih =>
    intro k i hi hk
    obtain ⟨k, rfl⟩ : ∃ j, k = j + 1 := ⟨k - 1, by omega⟩
    have hlt : i < l1.length := by omega
    rw [transeptref04_Check.l1, if_pos (by omega), if_pos (by omega), rdP_at hlt, wrap_s i (by omega), toWs_drop hlt, List.all_cons]
    by_cases h1 : l1[i].f0 < 0
    · rw [if_pos h1]
      have : okW l0.length (toW l1[i]) = false := by
        show (decide (0 ≤ l1[i].f0) && decide (l1[i].f0 < (l0.length : Int)) && decide (l1[i].f1.length = 64)) = false
        rw [decide_eq_false (show ¬ 0 ≤ l1[i].f0 by omega)]
        rfl
      rw [this]; rfl
    · rw [if_neg h1]
      by_cases h2 : l1[i].f0 ≥ (l0.length : Int)
      · rw [if_pos h2]
        have : okW l0.length (toW l1[i]) = false := by
          show (decide (0 ≤ l1[i].f0) && decide (l1[i].f0 < (l0.length : Int)) && decide (l1[i].f1.length = 64)) = false
          rw [decide_eq_false (show ¬ l1[i].f0 < (l0.length : Int) by omega), Bool.and_false]
          rfl
        rw [this]; rfl
      · rw [if_neg h2]
        by_cases h3 : l1[i].f1.length = 64
        · rw [if_pos (by omega), ih k (i + 1) (by omega) (by omega)]
          have : okW l0.length (toW l1[i]) = true := by
            show (decide (0 ≤ l1[i].f0) && decide (l1[i].f0 < (l0.length : Int)) && decide (l1[i].f1.length = 64)) = true
            rw [decide_eq_true (show 0 ≤ l1[i].f0 by omega), decide_eq_true (show l1[i].f0 < (l0.length : Int) by omega), decide_eq_true h3]
            rfl
          rw [this, Bool.true_and]
        · rw [if_neg (by omega)]
          have : okW l0.length (toW l1[i]) = false := by
            show (decide (0 ≤ l1[i].f0) && decide (l1[i].f0 < (l0.length : Int)) && decide (l1[i].f1.length = 64)) = false
            rw [decide_eq_false h3, Bool.and_false]
          rw [this]; rfl
theorem pcheck_l0 {l0 : List (List Int)} {l1 : List Wp} (hf0 : l0.length < 4611686018427387904) (hf : l1.length < 4611686018427387904) : ∀ (m k i : Nat), i + m = l0.length → m + l1.length + 2 ≤ k → transeptref04_Check.l0 k (i : Int) l0 l1 = some (if ((l0.drop i).all (fun b => decide (b.length = 64)) && (toWs l1).all (okW l0.length)) = true then 0 else 9) := by
  intro m
  induction m with
  | zero =>
    intro k i hi hk
    obtain ⟨k, rfl⟩ : ∃ j, k = j + 1 := ⟨k - 1, by omega⟩
    rw [transeptref04_Check.l0, if_neg (by omega), List.drop_eq_nil_of_le (by omega)]
    have := pcheck_l1 (l0 := l0) hf l1.length k 0 (by omega) (by omega)
    rw [List.drop_zero] at this
    rw [show ((0 : Nat) : Int) = 0 from rfl] at this
    rw [this]
    simp
  | succ m ih =>
    intro k i hi hk
    obtain ⟨k, rfl⟩ : ∃ j, k = j + 1 := ⟨k - 1, by omega⟩
    have hlt : i < l0.length := by omega
    rw [transeptref04_Check.l0, if_pos (by omega), if_pos (by omega), rdL_at hlt, wrap_s i (by omega), List.drop_eq_getElem_cons hlt, List.all_cons]
    by_cases h : l0[i].length = 64
    · rw [if_pos (by omega), ih k (i + 1) (by omega) (by omega), decide_eq_true h, Bool.true_and]
    · rw [if_neg (by omega), decide_eq_false h]
      rfl
theorem pcheck_f {l0 : List (List Int)} {l1 : List Wp} {k : Nat} (hf0 : l0.length < 4611686018427387904) (hf : l1.length < 4611686018427387904) (hk : l0.length + l1.length + 4 ≤ k) : transeptref04_Check.f k l0 l1 = some (if okS l0 (toWs l1) = true then 0 else 9) := by
  obtain ⟨k, rfl⟩ : ∃ j, k = j + 1 := ⟨k - 1, by omega⟩
  have h0 := pcheck_l0 hf0 hf l0.length k 0 (by omega) (by omega)
  rw [List.drop_zero, show ((0 : Nat) : Int) = 0 from rfl] at h0
  have hw : (toWs l1).all (okW l0.length) = (toWs l1).all (fun x => decide (0 ≤ x.f0) && decide (x.f0 < (l0.length : Int)) && decide (x.f1.length = 64)) := rfl
  unfold transeptref04_Check.f
  by_cases h1 : (l0.length : Int) < 1
  · rw [if_pos h1, transeptref04_Check.j0, if_pos rfl]
    have d1 : decide (1 ≤ l0.length) = false := decide_eq_false (by omega)
    rw [okS, d1]
    simp
  · rw [if_neg h1]
    have d1 : decide (1 ≤ l0.length) = true := decide_eq_true (by omega)
    by_cases h2 : (l0.length : Int) > 1024
    · have d2 : decide (l0.length ≤ 1024) = false := decide_eq_false (by omega)
      rw [if_pos h2, transeptref04_Check.j0, if_pos rfl, okS, d1, d2]
      simp
    · have d2 : decide (l0.length ≤ 1024) = true := decide_eq_true (by omega)
      rw [if_neg h2, transeptref04_Check.j0]
      by_cases h3 : (l1.length : Int) > 4096
      · have d3 : decide ((toWs l1).length ≤ 4096) = false := decide_eq_false (by rw [toWs_length]; omega)
        rw [if_pos (decide_eq_true h3), okS, d1, d2, d3]
        simp
      · have d3 : decide ((toWs l1).length ≤ 4096) = true := decide_eq_true (by rw [toWs_length]; omega)
        rw [if_neg (by rw [decide_eq_false h3]; decide), h0, okS, d1, d2, d3, hw]
        simp
theorem sameLists_l0 {a : List (List Int)} {M : Nat} (hf : a.length < 4611686018427387904) (hM : M < 4611686018427387904) (hb : ∀ b ∈ a, b.length ≤ M) : ∀ (m k i : Nat), i + m = a.length → m + M + 1 ≤ k → transeptplain_SameLists.l0 k a a (i : Int) = some true := by
  intro m
  induction m with
  | zero =>
    intro k i hi hk
    obtain ⟨k, rfl⟩ : ∃ j, k = j + 1 := ⟨k - 1, by omega⟩
    rw [transeptplain_SameLists.l0, if_neg (by omega)]
  | succ m ih =>
    intro k i hi hk
    obtain ⟨k, rfl⟩ : ∃ j, k = j + 1 := ⟨k - 1, by omega⟩
    have h1 : i < a.length := by omega
    have hb1 := hb _ (List.getElem_mem h1)
    rw [transeptplain_SameLists.l0, if_pos (by omega), if_pos (by omega), if_pos (by omega), rdL_at h1, same_f (by omega) (by omega), Option.bind_some, if_pos (decide_eq_true rfl), wrap_s i (by omega)]
    exact ih k (i + 1) (by omega) (by omega)
theorem sameLists_f {a : List (List Int)} {M k : Nat} (hf : a.length < 4611686018427387904) (hM : M < 4611686018427387904) (hb : ∀ b ∈ a, b.length ≤ M) (hk : a.length + M + 1 ≤ k) : transeptplain_SameLists.f k a a = some true := by
  unfold transeptplain_SameLists.f
  rw [if_pos rfl]
  exact sameLists_l0 hf hM hb a.length k 0 (by omega) hk
theorem alike_l0 {a : List (List Int)} {ws : List Wp} {M : Nat} (hf : ws.length < 4611686018427387904) (hM : M < 4611686018427387904) (hb : ∀ x ∈ ws, x.f1.length ≤ M) : ∀ (m k i : Nat), i + m = ws.length → m + M + 1 ≤ k → transeptlaw04_Alike.l0 k (i : Int) a (toWs ws) a ws = some 0 := by
  intro m
  induction m with
  | zero =>
    intro k i hi hk
    obtain ⟨k, rfl⟩ : ∃ j, k = j + 1 := ⟨k - 1, by omega⟩
    rw [transeptlaw04_Alike.l0, toWs_length, if_neg (by omega)]
  | succ m ih =>
    intro k i hi hk
    obtain ⟨k, rfl⟩ : ∃ j, k = j + 1 := ⟨k - 1, by omega⟩
    have h1 : i < ws.length := by omega
    have hb1 := hb _ (List.getElem_mem h1)
    rw [transeptlaw04_Alike.l0, toWs_length, if_pos (by omega), if_pos (by omega), if_pos (by omega), rdP_at h1, rdW_at (by rw [toWs_length]; exact h1), toWs_at h1]
    dsimp only
    rw [if_pos rfl, same_f (by omega) (by omega), Option.bind_some, if_pos (decide_eq_true rfl), wrap_s i (by omega)]
    exact ih k (i + 1) (by omega) (by omega)
theorem alike_f {a : List (List Int)} {ws : List Wp} {M k : Nat} (hf0 : a.length < 4611686018427387904) (hf : ws.length < 4611686018427387904) (hM : M < 4611686018427387904) (hb0 : ∀ b ∈ a, b.length ≤ M) (hb : ∀ x ∈ ws, x.f1.length ≤ M) (hk : a.length + ws.length + M + 3 ≤ k) : transeptlaw04_Alike.f k a (toWs ws) a ws = some 0 := by
  obtain ⟨k, rfl⟩ : ∃ j, k = j + 1 := ⟨k - 1, by omega⟩
  unfold transeptlaw04_Alike.f
  rw [sameLists_f hf0 hM hb0 (by omega), Option.bind_some, if_pos rfl, transeptlaw04_Alike.j0, if_neg (by rw [toWs_length]; simp)]
  exact alike_l0 hf hM hb ws.length k 0 (by omega) (by omega)
end Go.Proofs.Ytiiphlfgdkjjiaa.Q
