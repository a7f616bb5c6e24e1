/- slices.Max of octets, walked; no condition but that the row is not empty. -/
import Derived.Test.YtiiphlfgdkjjiaaZDisksSLib
namespace Go.Proofs.Ytiiphlfgdkjjiaa.Q
open Go.RowKit Go.Proofs.YtiiphlfgdkjjiaaW.PrintWords Go.Proofs.YtiiphlfgdkjjiaaW.PrintLast Go.Proofs.YtiiphlfgdkjjiaaW.PrintMore
set_option linter.unusedVariables false
set_option linter.unusedSimpArgs false
attribute [local go_sem] max2_int min2_int max_two min_two

def mxo (l : List Int) : Int := l.foldl (fun m x => if m < x then x else m) 0
theorem mxo_snoc (l : List Int) (x : Int) : mxo (l ++ [x]) = if mxo l < x then x else mxo l := by unfold mxo; rw [List.foldl_append]; rfl
theorem mxo_pos (l : List Int) (h : ∀ x ∈ l, 0 ≤ x) : decide (0 < mxo l) = l.any (fun x => decide (x ≠ 0)) := by
  suffices hs : ∀ (l : List Int) (m : Int), 0 ≤ m → (∀ x ∈ l, 0 ≤ x) → decide (0 < l.foldl (fun m x => if m < x then x else m) m) = (decide (0 < m) || l.any (fun x => decide (x ≠ 0))) by
    have := hs l 0 (by omega) h
    rw [decide_eq_false (show ¬ (0 : Int) < 0 by omega), Bool.false_or] at this
    exact this
  intro l
  induction l with
  | nil => intro m _ _; exact (Bool.or_false _).symm
  | cons y l ih =>
    intro m hm hl
    have hy := hl y (by simp)
    rw [List.foldl_cons, List.any_cons]
    by_cases c : m < y
    · rw [if_pos c, ih y hy (fun x hx => hl x (by simp [hx])), decide_eq_true (show 0 < y by omega), decide_eq_true (show y ≠ 0 by omega)]
      simp
    · rw [if_neg c, ih m hm (fun x hx => hl x (by simp [hx]))]
      by_cases c2 : 0 < m
      · rw [decide_eq_true c2]; simp
      · rw [decide_eq_false c2, decide_eq_false (show ¬ y ≠ 0 by omega)]; simp

set_option maxHeartbeats 2000000 in
set_option maxRecDepth 100000 in
theorem max_any (A : Option Addr) (c : Nat) (l : List Int) (w : World) (hr : Kd.C (Kd.int .u8) w A l.length l) (hp : 0 < l.length) (h0 : ∀ x ∈ l, 0 ≤ x) :
    Calls Try.prog 66 #[.slice A l.length c] w fun e w' => e = .returned (.int .u8 (mxo l)) ∧ w' = w := by
  obtain ⟨ad, rfl, hx0⟩ := Kd.at_int hr 0 (by omega) (by omega)
  rw [Int.toNat_zero, show ad.add 0 = ad from by unfold Addr.add; rw [if_pos rfl]] at hx0
  have hlen : l.length ≤ 9223372036854775807 := hr.2.1
  have h1 : mxo (l.take 1) = rd l 0 := by
    obtain ⟨y, t, rfl⟩ : ∃ y t, l = y :: t := by cases l with | nil => simp at hp | cons y t => exact ⟨y, t, rfl⟩
    have hy := h0 y (by simp)
    show (if (0 : Int) < y then y else 0) = y
    split <;> omega
  have HR := Aside0.mk hr
  have H1 := Aside0.mk h1
  have hnl : ((l.length : Int) < 1) = False := by simp; omega
  have hnb : decide ((l.length : Int) < 1) = false := decide_eq_false (by omega)
  obtain ⟨n, hn⟩ : ∃ n, n = l.length := ⟨_, rfl⟩
  have HN := Aside0.mk hn
  rw [← hn] at hnl hnb hp hlen ⊢
  have hpi : (0 : Int) < (n : Int) := by omega
  clear hr h1 hn h0 hnl
  go_enter Try.func66, Try.ntmps66
  go_wp2_with fail
  go_loop [3, 4] (fun m i => ∃ k : Nat, 0 < k ∧ k ≤ n ∧ i = .int .i64 k ∧ m = .int .u8 (mxo (l.take k))) (fun _ i => n - (intOf i).toNat)
  case atStart => exact ⟨1, by omega, by omega, rfl, by rw [H1.out]⟩
  case round =>
    clear hx0
    obtain ⟨k, hk0, hk, rfl, rfl⟩ := hrel
    by_cases hlt : k < n
    · obtain ⟨ad', e', hx⟩ := Kd.at_int HR.out (k : Int) (by omega) (by rw [← HN.out]; omega)
      cases e'
      rw [Int.toNat_natCast] at hx
      go_wp2_with fail
      go_round
      case rel => exact ⟨k + 1, by omega, by omega, by go_num, by rw [List.take_succ_eq_append_getElem (by rw [← HN.out]; exact hlt), mxo_snoc, rd, Int.toNat_natCast, List.getD_eq_getElem?_getD, List.getElem?_eq_getElem (by rw [← HN.out]; exact hlt)]; rfl⟩
      case measure => simp [intOf]; omega
    · obtain rfl : k = n := by omega
      go_wp2_with fail
      go_ret
      exact ⟨by rw [List.take_of_length_le (by rw [← HN.out]; exact Nat.le_refl _)]; rfl, rfl⟩
end Go.Proofs.Ytiiphlfgdkjjiaa.Q
