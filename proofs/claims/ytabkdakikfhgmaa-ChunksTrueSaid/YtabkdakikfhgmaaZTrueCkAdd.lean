/- chunks.Add, plainly: what it answers where it says OK; no condition but that octets are octets and rows no longer than a machine holds. -/
import Derived.Test.YtabkdakikfhgmaaZTrueCkPlain
import Derived.Test.YtabkdakikfhgmaaZTrueQ18
namespace Go.Proofs.Ytabkdakikfhgmaa.Q
open Go.RowKit Go.Proofs.YtabkdakikfhgmaaW.PrintWords Go.Proofs.YtabkdakikfhgmaaW.PrintLast Go.Proofs.YtabkdakikfhgmaaW.PrintMore
open Go.Proofs.Ytabkdakikfhgmaa.CrcP
set_option linter.unusedVariables false
set_option linter.unusedSimpArgs false

structure AddOk (D0 : List Int) (T' S' O : Int) (C : List Int) (q1 : Int) (q3 : List Int) (is : Bool) (e : Int) : Prop where
  octs : octs q3 = true
  short : q3.length ≤ 1048576
  fits : e = 0 → (q3.length : Int) ≤ q1
  whole : e = 0 → is = decide ((q3.length : Int) = q1 ∧ O + (C.length : Int) = q1 ∧ (O = 0 ∨ O = (D0.length : Int)))
  said : e = 0 → is = true → q1 = T' ∧ crc_Sum.f q3 = some S'
  most : (0 ≤ O ∧ O + (C.length : Int) ≤ 1048576) ∨ e ≠ 0
theorem addok_err {D0 : List Int} {T' S' O : Int} {C : List Int} {e : Int} (he : e ≠ 0) : AddOk D0 T' S' O C 0 [] false e :=
  ⟨rfl, by simp, fun h => absurd h he, fun h => absurd h he, fun h => absurd h he, .inr he⟩
theorem octs_app {a b : List Int} (ha : octs a = true) (hb : octs b = true) : octs (a ++ b) = true := by
  unfold octs at *
  rw [List.all_append, ha, hb]; rfl
theorem add_j4 {T S O have_ : Int} {D C D0 : List Int} {b : Bool} (hD : octs D = true) (hC : octs C = true) (h1 : have_ = (D.length : Int)) (h2 : 0 ≤ O) (h3 : O ≤ have_) (h4 : O + (C.length : Int) ≤ T) (h5 : T ≤ 1048576) (h6 : (D.length : Int) ≤ T) (h7 : O = 0 → D = []) (h8 : O ≠ 0 → D = D0) :
    ∃ q1 q2 q3 is e, chunks_Add.j4 1 have_ b T S D T S O C = some (q1, q2, q3, is, e) ∧ AddOk D0 T S O C q1 q3 is e := by
  by_cases hb : b = true
  · exact ⟨_, _, _, _, _, by rw [chunks_Add.j4, if_pos hb], addok_err (by decide)⟩
  by_cases hlt : O < have_
  · refine ⟨_, _, _, _, _, by rw [chunks_Add.j4, if_neg hb, if_pos hlt], hD, by omega, fun _ => h6, fun _ => ?_, fun _ h => (by cases h), .inl ⟨by omega, by omega⟩⟩
    refine (decide_eq_false ?_).symm
    rintro ⟨_, _, h | h⟩
    · have := h7 h
      rw [this, List.length_nil] at h1
      omega
    · by_cases h0 : O = 0
      · have := h7 h0
        rw [this, List.length_nil] at h1
        omega
      · rw [← h8 h0] at h
        omega
  · have he : O = (D.length : Int) := by omega
    have hroom : D.length + C.length < 140737488355328 := by omega
    have hl : ((D ++ C).length : Int) = O + (C.length : Int) := by rw [List.length_append]; omega
    have ho := octs_app hD hC
    by_cases hs : ((D ++ C).length : Int) < T
    · refine ⟨_, _, _, _, _, by rw [chunks_Add.j4, if_neg hb, if_neg hlt, if_pos hroom, Option.bind_some, if_pos hs], ho, by omega, fun _ => by omega, fun _ => ?_, fun _ h => (by cases h), .inl ⟨by omega, by omega⟩⟩
      exact (decide_eq_false (fun h => by omega)).symm
    · have hsum : crc_Sum.f (D ++ C) = some ((csum (nats (D ++ C)) : Nat) : Int) := by unfold crc_Sum.f; rw [if_pos ho]
      by_cases hc : ((csum (nats (D ++ C)) : Nat) : Int) = S
      · refine ⟨_, _, _, _, _, by rw [chunks_Add.j4, if_neg hb, if_neg hlt, if_pos hroom, Option.bind_some, if_neg hs, hsum, Option.bind_some, if_pos hc], ho, by omega, fun _ => by omega, fun _ => ?_, fun _ _ => ⟨rfl, by rw [hsum, hc]⟩, .inl ⟨by omega, by omega⟩⟩
        refine (decide_eq_true ⟨by omega, by omega, ?_⟩).symm
        by_cases h0 : O = 0
        · exact .inl h0
        · exact .inr (by rw [← h8 h0]; exact he)
      · exact ⟨_, _, _, _, _, by rw [chunks_Add.j4, if_neg hb, if_neg hlt, if_pos hroom, Option.bind_some, if_neg hs, hsum, Option.bind_some, if_neg hc], addok_err (by decide)⟩
theorem add_j2 {T S T' S' O : Int} {D C D0 : List Int} (hD : octs D = true) (hC : octs C = true) (h2 : 0 ≤ O) (h4 : O + (C.length : Int) ≤ T') (h5 : T' ≤ 1048576) (h6 : (D.length : Int) ≤ T) (h7 : O = 0 → D = []) (h8 : O ≠ 0 → D = D0) :
    ∃ q1 q2 q3 is e, chunks_Add.j2 3 T S D T' S' O C = some (q1, q2, q3, is, e) ∧ AddOk D0 T' S' O C q1 q3 is e := by
  by_cases ht : T = T'
  · subst ht
    by_cases hs : S = S'
    · subst hs
      by_cases ho : O > (D.length : Int)
      · exact ⟨_, _, _, _, _, by rw [chunks_Add.j2, if_pos rfl, if_pos rfl, chunks_Add.j3, if_pos (decide_eq_true ho)], addok_err (by decide)⟩
      · have hn : ¬ decide (O > (D.length : Int)) = true := by rw [decide_eq_true_eq]; exact ho
        by_cases hl : O < (D.length : Int)
        · obtain ⟨q1, q2, q3, is, e, h, g⟩ := add_j4 (S := S) (b := decide ((wrap64 (O + (C.length : Int))) > (D.length : Int))) hD hC rfl h2 (by omega) h4 h5 h6 h7 h8
          exact ⟨q1, q2, q3, is, e, by rw [chunks_Add.j2, if_pos rfl, if_pos rfl, chunks_Add.j3, if_neg hn, if_pos hl]; exact h, g⟩
        · obtain ⟨q1, q2, q3, is, e, h, g⟩ := add_j4 (S := S) (b := false) hD hC rfl h2 (by omega) h4 h5 h6 h7 h8
          exact ⟨q1, q2, q3, is, e, by rw [chunks_Add.j2, if_pos rfl, if_pos rfl, chunks_Add.j3, if_neg hn, if_neg hl]; exact h, g⟩
    · exact ⟨_, _, _, _, _, by rw [chunks_Add.j2, if_pos rfl, if_neg hs, chunks_Add.j3, if_pos rfl], addok_err (by decide)⟩
  · exact ⟨_, _, _, _, _, by rw [chunks_Add.j2, if_neg ht, chunks_Add.j3, if_pos rfl], addok_err (by decide)⟩
theorem add_j0 {T S T' S' O : Int} {D C : List Int} {b : Bool} (hD : octs D = true) (hC : octs C = true) (hDl : D.length ≤ 1048576) (hCl : C.length < 140737488355328) (h6 : b = false → (D.length : Int) ≤ T) :
    ∃ q1 q2 q3 is e, chunks_Add.j0 5 b T S D T' S' O C = some (q1, q2, q3, is, e) ∧ AddOk D T' S' O C q1 q3 is e := by
  by_cases hb : b = true
  · exact ⟨_, _, _, _, _, by rw [chunks_Add.j0, if_pos hb], addok_err (by decide)⟩
  by_cases c1 : T' < 0
  · exact ⟨_, _, _, _, _, by rw [chunks_Add.j0, if_neg hb, if_pos c1, chunks_Add.j1, if_pos rfl], addok_err (by decide)⟩
  by_cases c2 : T' > 1048576
  · exact ⟨_, _, _, _, _, by rw [chunks_Add.j0, if_neg hb, if_neg c1, if_pos c2, chunks_Add.j1, if_pos rfl], addok_err (by decide)⟩
  by_cases c3 : O < 0
  · exact ⟨_, _, _, _, _, by rw [chunks_Add.j0, if_neg hb, if_neg c1, if_neg c2, if_pos c3, chunks_Add.j1, if_pos rfl], addok_err (by decide)⟩
  by_cases c4 : O > T'
  · exact ⟨_, _, _, _, _, by rw [chunks_Add.j0, if_neg hb, if_neg c1, if_neg c2, if_neg c3, if_pos c4, chunks_Add.j1, if_pos rfl], addok_err (by decide)⟩
  have hw : wrap64 (O + (C.length : Int)) = O + (C.length : Int) := wrapi (by omega) (by omega)
  by_cases c5 : O + (C.length : Int) > T'
  · exact ⟨_, _, _, _, _, by rw [chunks_Add.j0, if_neg hb, if_neg c1, if_neg c2, if_neg c3, if_neg c4, hw, chunks_Add.j1, if_pos (decide_eq_true c5)], addok_err (by decide)⟩
  have hn : ¬ decide (O + (C.length : Int) > T') = true := by rw [decide_eq_true_eq]; exact c5
  have hcl : bytes_Clone.f D = some D := by unfold bytes_Clone.f; rw [if_pos (by omega)]
  by_cases c6 : O = 0
  · obtain ⟨q1, q2, q3, is, e, h, g⟩ := add_j2 (T := T') (S := S') (T' := T') (S' := S') (D := []) (D0 := D) (O := O) rfl hC (by omega) (by omega) (by omega) (by simp; omega) (fun _ => rfl) (fun h => absurd c6 h)
    exact ⟨q1, q2, q3, is, e, by rw [chunks_Add.j0, if_neg hb, if_neg c1, if_neg c2, if_neg c3, if_neg c4, hw, chunks_Add.j1, if_neg hn, hcl, Option.bind_some, if_pos c6]; exact h, g⟩
  · obtain ⟨q1, q2, q3, is, e, h, g⟩ := add_j2 (T := T) (S := S) (T' := T') (S' := S') (D0 := D) (O := O) hD hC (by omega) (by omega) (by omega) (h6 (by simpa using hb)) (fun h => absurd h c6) (fun _ => rfl)
    exact ⟨q1, q2, q3, is, e, by rw [chunks_Add.j0, if_neg hb, if_neg c1, if_neg c2, if_neg c3, if_neg c4, hw, chunks_Add.j1, if_neg hn, hcl, Option.bind_some, if_neg c6]; exact h, g⟩
theorem add_good (T S T' S' O : Int) (D C : List Int) (hD : octs D = true) (hC : octs C = true) (hDl : D.length ≤ 1048576) (hCl : C.length < 140737488355328) :
    ∃ q1 q2 q3 is e, chunks_Add.f 5 T S D T' S' O C = some (q1, q2, q3, is, e) ∧ AddOk D T' S' O C q1 q3 is e := by
  unfold chunks_Add.f
  by_cases c1 : T < 0
  · rw [if_pos c1]
    exact add_j0 hD hC hDl hCl (fun h => by cases h)
  rw [if_neg c1]
  by_cases c2 : T > 1048576
  · rw [if_pos c2]
    exact add_j0 hD hC hDl hCl (fun h => by cases h)
  rw [if_neg c2]
  exact add_j0 hD hC hDl hCl (fun h => by have := of_decide_eq_false h; omega)
end Go.Proofs.Ytabkdakikfhgmaa.Q
