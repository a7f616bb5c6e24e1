/- CopyBytes, SameBytes and Spoil, plainly; no condition but that a text is short. -/
import Derived.Test.YtiiphlfgdkjjiaaZOwnQ20
import Derived.Test.YtiiphlfgdkjjiaaZOwnQ24
import Derived.Test.YtiiphlfgdkjjiaaZOwnQ30
namespace Go.Proofs.Ytiiphlfgdkjjiaa.Q
open Go.RowKit Go.Proofs.YtiiphlfgdkjjiaaW.PrintWords Go.Proofs.YtiiphlfgdkjjiaaW.PrintLast Go.Proofs.YtiiphlfgdkjjiaaW.PrintMore
set_option linter.unusedVariables false
set_option linter.unusedSimpArgs false

theorem copyS {l : List Int} (h : l.length < 140737488355328) : transeptplain_CopyBytes.f l = some l := by
  unfold transeptplain_CopyBytes.f
  rw [if_pos (by simpa using h)]
  rfl
theorem wrapS1 (i : Nat) (h : i < 4611686018427387904) : wrap64 ((i : Int) + 1) = ((i + 1 : Nat) : Int) := by unfold wrap64; omega
theorem sameS_l0 {a b : List Int} (hl : a.length = b.length) (hf : a.length < 4611686018427387904) : ∀ (m k i : Nat), i + m = a.length → m + 1 ≤ k → transeptplain_SameBytes.l0 k a b (i : Int) = some (decide (a.drop i = b.drop i)) := by
  intro m
  induction m with
  | zero =>
    intro k i hi hk
    obtain ⟨k, rfl⟩ : ∃ j, k = j + 1 := ⟨k - 1, by omega⟩
    rw [transeptplain_SameBytes.l0, if_neg (by omega), List.drop_eq_nil_of_le (by omega), List.drop_eq_nil_of_le (by omega)]
    rfl
  | succ m ih =>
    intro k i hi hk
    obtain ⟨k, rfl⟩ : ∃ j, k = j + 1 := ⟨k - 1, by omega⟩
    have h1 : i < a.length := by omega
    have h2 : i < b.length := by omega
    have e1 : rd a (i : Int) = a[i] := by rw [rd, Int.toNat_natCast, List.getD_eq_getElem?_getD, List.getElem?_eq_getElem h1]; rfl
    have e2 : rd b (i : Int) = b[i] := by rw [rd, Int.toNat_natCast, List.getD_eq_getElem?_getD, List.getElem?_eq_getElem h2]; rfl
    rw [transeptplain_SameBytes.l0, if_pos (by omega), if_pos (by omega), if_pos (by omega), e1, e2, wrapS1 i (by omega), List.drop_eq_getElem_cons h1, List.drop_eq_getElem_cons h2]
    by_cases h : a[i] = b[i]
    · rw [if_pos h, ih k (i + 1) (by omega) (by omega)]
      congr 1
      rw [decide_eq_decide, List.cons.injEq]
      exact ⟨fun e => ⟨h, e⟩, fun e => e.2⟩
    · rw [if_neg h, decide_eq_false (fun e => h (List.cons.inj e).1)]
theorem sameS {a b : List Int} {k : Nat} (hf : a.length < 4611686018427387904) (hk : a.length + 1 ≤ k) : transeptplain_SameBytes.f k a b = some (decide (a = b)) := by
  unfold transeptplain_SameBytes.f
  by_cases h : a.length = b.length
  · rw [if_pos (by omega)]
    have := sameS_l0 h hf a.length k 0 (by omega) hk
    rw [List.drop_zero, List.drop_zero] at this
    exact this
  · rw [if_neg (by omega), decide_eq_false (fun e => h (by rw [e]))]
theorem spoilS_l0 : ∀ (m k : Nat) (l : List Int) (i : Nat), i + m = l.length → l.length < 4611686018427387904 → m + 1 ≤ k → ∃ r, transeptplain_Spoil.l0 k l (i : Int) = some r := by
  intro m
  induction m with
  | zero =>
    intro k l i hi hl hk
    obtain ⟨k, rfl⟩ : ∃ j, k = j + 1 := ⟨k - 1, by omega⟩
    exact ⟨l, by rw [transeptplain_Spoil.l0, if_neg (by omega)]⟩
  | succ m ih =>
    intro k l i hi hl hk
    obtain ⟨k, rfl⟩ : ∃ j, k = j + 1 := ⟨k - 1, by omega⟩
    rw [transeptplain_Spoil.l0, if_pos (by omega), if_pos (by omega), wrapS1 i (by omega)]
    exact ih k _ (i + 1) (by rw [List.length_set]; omega) (by rw [List.length_set]; exact hl) (by omega)
theorem spoilS {k : Nat} {l : List Int} (hl : l.length < 4611686018427387904) (hk : l.length + 1 ≤ k) : ∃ r, transeptplain_Spoil.f k l = some r := spoilS_l0 l.length k l 0 (by omega) hl (by omega)
end Go.Proofs.Ytiiphlfgdkjjiaa.Q
