/- disk, plainly: what Check, asked, Of and the comparisons answer, over lists; no condition but that a loop's fuel is enough and that lists are no longer than a machine holds. -/
import Derived.Lib.SliceRun
import Derived.Lib.Hide
import Derived.LoopTactic
import Derived.Outline
import Derived.Laws.IdiomCopy
import Derived.Test.YtiiphlfgdkjjiaaZTellsDGet
import Derived.Test.YtiiphlfgdkjjiaaZTellsQ0
import Derived.Test.YtiiphlfgdkjjiaaZTellsWApart
import Derived.Test.YtiiphlfgdkjjiaaZTellsDNew
import Derived.Test.YtiiphlfgdkjjiaaZTellsQ24
import Derived.Test.YtiiphlfgdkjjiaaZTellsDAlive
namespace Go.Proofs.Ytiiphlfgdkjjiaa.Q
open Go.RowKit Go.Proofs.YtiiphlfgdkjjiaaW.PrintWords Go.Proofs.YtiiphlfgdkjjiaaW.PrintLast Go.Proofs.YtiiphlfgdkjjiaaW.PrintMore
set_option linter.unusedVariables false
set_option linter.unusedSimpArgs false

theorem wrapi {i : Int} (h0 : -9223372036854775808 ≤ i) (h1 : i ≤ 9223372036854775807) : wrap64 i = i := by unfold wrap64; omega
theorem wrap_s (i : Nat) (h : i < 4611686018427387904) : wrap64 ((i : Int) + 1) = ((i + 1 : Nat) : Int) := by rw [wrapi (by omega) (by omega)]; omega
theorem sameBytes_l0 {a b : List Int} (hl : a.length = b.length) (hf : a.length < 4611686018427387904) : ∀ (m k i : Nat), i + m = a.length → m + 1 ≤ k → transeptplain_SameBytes.l0 k a b (i : Int) = some (decide (a.drop i = b.drop i)) := by
  intro m
  induction m with
  | zero =>
    intro k i hi hk
    obtain ⟨k, rfl⟩ : ∃ j, k = j + 1 := ⟨k - 1, by omega⟩
    rw [transeptplain_SameBytes.l0, if_neg (by omega), List.drop_eq_nil_of_le (by omega), List.drop_eq_nil_of_le (by omega)]
    rfl
  | succ m ih =>
    intro k i hi hk
    obtain ⟨k, rfl⟩ : ∃ j, k = j + 1 := ⟨k - 1, by omega⟩
    have h1 : i < a.length := by omega
    have h2 : i < b.length := by omega
    have e1 : rd a (i : Int) = a[i] := by rw [rd, Int.toNat_natCast, List.getD_eq_getElem?_getD, List.getElem?_eq_getElem h1]; rfl
    have e2 : rd b (i : Int) = b[i] := by rw [rd, Int.toNat_natCast, List.getD_eq_getElem?_getD, List.getElem?_eq_getElem h2]; rfl
    rw [transeptplain_SameBytes.l0, if_pos (by omega), if_pos (by omega), if_pos (by omega), e1, e2, wrap_s i (by omega), List.drop_eq_getElem_cons h1, List.drop_eq_getElem_cons h2]
    by_cases h : a[i] = b[i]
    · rw [if_pos h, ih k (i + 1) (by omega) (by omega)]
      congr 1
      rw [decide_eq_decide, List.cons.injEq]
      exact ⟨fun e => ⟨h, e⟩, fun e => e.2⟩
    · rw [if_neg h, decide_eq_false (fun e => h (List.cons.inj e).1)]
theorem same_f {a b : List Int} {k : Nat} (hf : a.length < 4611686018427387904) (hk : a.length + 1 ≤ k) : transeptplain_SameBytes.f k a b = some (decide (a = b)) := by
  unfold transeptplain_SameBytes.f
  by_cases h : a.length = b.length
  · rw [if_pos (by omega)]
    have := sameBytes_l0 h hf a.length k 0 (by omega) hk
    rw [List.drop_zero, List.drop_zero] at this
    exact this
  · rw [if_neg (by omega), decide_eq_false (fun e => h (by rw [e]))]
end Go.Proofs.Ytiiphlfgdkjjiaa.Q
