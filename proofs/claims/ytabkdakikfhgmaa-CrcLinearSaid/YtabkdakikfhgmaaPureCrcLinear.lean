/- CrcLinear is true for every three texts: the sum of the three, bit by bit exclusive or, is that of their sums; no condition. -/
import Derived.Test.YtabkdakikfhgmaaQ5
import Derived.Test.YtabkdakikfhgmaaOcts
namespace Go.Proofs.Ytabkdakikfhgmaa.Pure
open Go.RowKit Go.Proofs.Ytabkdakikfhgmaa.Q Go.Proofs.YtabkdakikfhgmaaW.PrintWords Go.Proofs.YtabkdakikfhgmaaW.PrintLast Go.Proofs.YtabkdakikfhgmaaW.PrintMore
open Go.Proofs.Ytabkdakikfhgmaa.CrcP

theorem alive02 : transeptlaw02_alive.f = some true := rfl
/-- the three texts, bit by bit, so far -/
def xors (l0 l1 l2 : List Int) (n : Nat) : List Nat := List.zipWith (· ^^^ ·) (List.zipWith (· ^^^ ·) ((nats l0).take n) ((nats l1).take n)) ((nats l2).take n)
theorem xors_succ {l0 l1 l2 : List Int} {i : Nat} (h0 : i < l0.length) (h1 : i < l1.length) (h2 : i < l2.length) :
    xors l0 l1 l2 (i + 1) = xors l0 l1 l2 i ++ [(nats l0).getD i 0 ^^^ (nats l1).getD i 0 ^^^ (nats l2).getD i 0] := by
  have g : ∀ (l : List Int) (h : i < l.length), (nats l).take (i + 1) = (nats l).take i ++ [(nats l).getD i 0] := by
    intro l h
    have h' : i < (nats l).length := by rw [nats_length]; exact h
    rw [List.take_succ_eq_append_getElem h', List.getD_eq_getElem?_getD, List.getElem?_eq_getElem h']
    rfl
  unfold xors
  rw [g l0 h0, g l1 h1, g l2 h2, List.zipWith_append, List.zipWith_append]
  · rfl
  · simp [nats]; omega
  · simp [nats]; omega

theorem loop (l0 l1 l2 : List Int) (o0 : octs l0 = true) (o1 : octs l1 = true) (o2 : octs l2 = true) (hn : l0.length ≤ 140737488351232) (n : Nat) (n0 : n ≤ l0.length) (n1 : n ≤ l1.length) (n2 : n ≤ l2.length) (d : Nat) :
    ∀ (k i : Nat) (x8 : List Int), i ≤ n → n - i = d → d < k → octs x8 = true → nats x8 = xors l0 l1 l2 i → x8.length = i →
      transeptlaw02_CrcLinear.l0 k l0 l1 l2 n x8 i = some true := by
  induction d with
  | zero =>
    intro k i x8 hi hd hk ho hx hl
    obtain ⟨k, rfl⟩ : ∃ m, k = m + 1 := ⟨k - 1, by omega⟩
    obtain rfl : i = n := by omega
    simp only [transeptlaw02_CrcLinear.l0]
    rw [if_neg (by omega), sum_f ho]
    simp only [Option.bind_some, Int.toNat_natCast]
    rw [if_pos (by omega), if_pos (by omega), sum_f (octs_take o0 i)]
    simp only [Option.bind_some]
    rw [if_pos (by omega), sum_f (octs_take o1 i)]
    simp only [Option.bind_some]
    rw [if_pos (by omega), sum_f (octs_take o2 i)]
    simp only [Option.bind_some]
    have t : ∀ l : List Int, nats (l.take i) = (nats l).take i := fun l => List.map_take
    have hc := csum_three ((nats l0).take i) ((nats l1).take i) ((nats l2).take i) (by simp [nats]; omega) (by simp [nats]; omega)
    rw [u32_xor_nat _ _ (csum_lt (octs_take o0 i)) (csum_lt (octs_take o1 i)), u32_xor_nat _ _ (Nat.xor_lt_two_pow (n := 32) (csum_lt (octs_take o0 i)) (csum_lt (octs_take o1 i))) (csum_lt (octs_take o2 i)), hx, t, t, t, ← hc]
    unfold xors
    simp
  | succ d ih =>
    intro k i x8 hi hd hk ho hx hl
    obtain ⟨k, rfl⟩ : ∃ m, k = m + 1 := ⟨k - 1, by omega⟩
    have hlt : i < n := by omega
    obtain ⟨e0, b0⟩ := rd_cast o0 i (by omega)
    obtain ⟨e1, b1⟩ := rd_cast o1 i (by omega)
    obtain ⟨e2, b2⟩ := rd_cast o2 i (by omega)
    simp only [transeptlaw02_CrcLinear.l0]
    rw [if_pos (by omega), if_pos (by omega), if_pos (by omega), if_pos (by omega), if_pos (by omega), if_pos (by omega), wrap_in (by omega) (by omega)]
    have hx8 : bits .xor .u8 (bits .xor .u8 (rd l0 (i : Int)) (rd l1 (i : Int))) (rd l2 (i : Int)) = (((nats l0).getD i 0 ^^^ (nats l1).getD i 0 ^^^ (nats l2).getD i 0 : Nat) : Int) := by
      rw [e0, e1, e2, u8_xor_nat _ _ b0 b1, u8_xor_nat _ _ (xor_lt8 b0 b1) b2]
    rw [hx8]
    have := ih k (i + 1) (x8 ++ [(((nats l0).getD i 0 ^^^ (nats l1).getD i 0 ^^^ (nats l2).getD i 0 : Nat) : Int)]) (by omega) (by omega) (by omega)
      (octs_append ho (octs_iff.2 (by intro x hx; rw [List.mem_singleton] at hx; subst hx; have := xor_lt8 (xor_lt8 b0 b1) b2; omega)))
      (by rw [nats_append, hx, xors_succ (by omega) (by omega) (by omega)]; rfl) (by simp [hl])
    exact this

theorem CrcLinear : transeptlaw02_CrcLinear.Pure := by
  intro l0 l1 l2 _ h0 w0 _ h1 w1 _ h2 w2
  refine ⟨l0.length + 1, ?_⟩
  unfold transeptlaw02_CrcLinear.f
  rw [alive02]
  simp only [Option.bind_some, if_true]
  obtain ⟨n, hn, n0, n1, n2⟩ : ∃ n : Nat, mn (mn (l0.length : Int) (l1.length : Int)) (l2.length : Int) = (n : Int) ∧ n ≤ l0.length ∧ n ≤ l1.length ∧ n ≤ l2.length := by
    refine ⟨min (min l0.length l1.length) l2.length, ?_, by omega, by omega, by omega⟩
    unfold mn
    split <;> split <;> omega
  rw [hn]
  exact loop l0 l1 l2 (octs_of_wf w0) (octs_of_wf w1) (octs_of_wf w2) (by omega) n n0 n1 n2 n _ 0 [] (by omega) (by omega) (by omega) rfl rfl rfl
end Go.Proofs.Ytabkdakikfhgmaa.Pure
