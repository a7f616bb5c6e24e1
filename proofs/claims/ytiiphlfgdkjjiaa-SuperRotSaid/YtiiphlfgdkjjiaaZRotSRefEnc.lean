/- transeptref06.Encode: a block's sector by the page; no condition. -/
import Derived.Test.YtiiphlfgdkjjiaaZRotSEnc
import Derived.Test.YtiiphlfgdkjjiaaZRotCrcA
import Derived.Test.YtiiphlfgdkjjiaaZRotQ0
import Derived.Test.YtiiphlfgdkjjiaaZRotQ15
namespace Go.Proofs.Ytiiphlfgdkjjiaa.Q
open Go.RowKit Go.Proofs.YtiiphlfgdkjjiaaW.PrintWords Go.Proofs.YtiiphlfgdkjjiaaW.PrintLast Go.Proofs.YtiiphlfgdkjjiaaW.PrintMore
open Go.Proofs.Ytiiphlfgdkjjiaa.CrcP
set_option linter.unusedVariables false
set_option linter.unusedSimpArgs false

theorem refcheck_l0 {l : List Int} (h8 : l.length ≤ 8) : ∀ (m k i : Nat), i + m = l.length → m + 1 ≤ k → transeptref06_Check.l0 k l (i : Int) = some (if (l.drop i).all numOk = true then 0 else 4) := by
  intro m
  induction m with
  | zero =>
    intro k i hi hk
    obtain ⟨k, rfl⟩ : ∃ j, k = j + 1 := ⟨k - 1, by omega⟩
    rw [transeptref06_Check.l0, if_neg (by omega), List.drop_of_length_le (by omega)]
    rfl
  | succ m ih =>
    intro k i hi hk
    obtain ⟨k, rfl⟩ : ∃ j, k = j + 1 := ⟨k - 1, by omega⟩
    have hlt : i < l.length := by omega
    have hd : l.drop i = l[i] :: l.drop (i + 1) := List.drop_eq_getElem_cons hlt
    have hrd : rd l (i : Int) = l[i] := by rw [rd, Int.toNat_natCast, List.getD_eq_getElem?_getD, List.getElem?_eq_getElem hlt]; rfl
    have hw : wrap64 ((i : Int) + 1) = ((i + 1 : Nat) : Int) := by unfold wrap64; omega
    rw [transeptref06_Check.l0, if_pos (by omega), if_pos (Int.natCast_nonneg _), hrd, hw, hd, List.all_cons]
    have hn := ih k (i + 1) (by omega) (by omega)
    by_cases h0 : l[i] < 0
    · have hx : numOk l[i] = false := by unfold numOk; rw [decide_eq_false (by omega)]; rfl
      rw [if_pos h0, hx, Bool.false_and]; rfl
    · rw [if_neg h0]
      by_cases h1 : l[i] > 1099511627776
      · have hx : numOk l[i] = false := by unfold numOk; rw [decide_eq_false (show ¬ l[i] ≤ 1099511627776 by omega), Bool.and_false]
        rw [if_pos h1, hx, Bool.false_and]; rfl
      · have hx : numOk l[i] = true := by unfold numOk; rw [decide_eq_true (by omega), decide_eq_true (by omega)]; rfl
        rw [if_neg h1, hx, Bool.true_and]
        exact hn
end Go.Proofs.Ytiiphlfgdkjjiaa.Q
