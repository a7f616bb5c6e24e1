/- CrcParts is true for every text and every list of cuts: a text summed in any pieces has one sum; no condition. -/
import Derived.Test.YtabkdakikfhgmaaQ6
import Derived.Test.YtabkdakikfhgmaaOcts
namespace Go.Proofs.Ytabkdakikfhgmaa.Pure
open Go.RowKit Go.Proofs.Ytabkdakikfhgmaa.Q Go.Proofs.YtabkdakikfhgmaaW.PrintWords Go.Proofs.YtabkdakikfhgmaaW.PrintLast Go.Proofs.YtabkdakikfhgmaaW.PrintMore
open Go.Proofs.Ytabkdakikfhgmaa.CrcP

theorem parts_alive : transeptlaw02_alive.f = some true := rfl
theorem cut_range (x : Int) : 0 ≤ Int.tmod (wrap64 (Int.tmod x 7 + 7)) 7 ∧ Int.tmod (wrap64 (Int.tmod x 7 + 7)) 7 < 7 := by
  have h1 : -7 < Int.tmod x 7 ∧ Int.tmod x 7 < 7 := by
    have := Int.tmod_lt_of_pos x (b := 7) (by omega)
    have := Int.lt_tmod_of_pos x (b := 7) (by omega)
    omega
  rw [wrap_in (by omega) (by omega)]
  have h2 := Int.tmod_nonneg 7 (a := Int.tmod x 7 + 7) (by omega)
  have h3 := Int.tmod_lt_of_pos (Int.tmod x 7 + 7) (b := 7) (by omega)
  omega
theorem split_nats (l : List Int) (a : Nat) : nats (l.take a) ++ nats (l.drop a) = nats l := by rw [← nats_append, List.take_append_drop]

theorem loop (l0 l1 : List Int) (o0 : octs l0 = true) (hn : l0.length ≤ 140737488351232) (d : Nat) :
    ∀ (k i a : Nat), i ≤ l1.length → l1.length - i = d → d < k → a ≤ l0.length →
      transeptlaw02_CrcParts.l0 k l0 l1 ((csum (nats (l0.take a)) : Nat) : Int) a i = some true := by
  induction d with
  | zero =>
    intro k i a hi hd hk ha
    obtain ⟨k, rfl⟩ : ∃ m, k = m + 1 := ⟨k - 1, by omega⟩
    simp only [transeptlaw02_CrcParts.l0]
    rw [if_neg (by omega), if_pos (by omega), if_pos (by omega), Int.toNat_natCast, ext_f (csum_lt (octs_take o0 a)) (octs_drop o0 a), sum_f o0]
    simp only [Option.bind_some]
    rw [show cext (csum (nats (l0.take a))) (nats (l0.drop a)) = csum (nats l0) from by rw [← split_nats l0 a]; exact (cext_append 0 _ _).symm]
    simp
  | succ d ih =>
    intro k i a hi hd hk ha
    obtain ⟨k, rfl⟩ : ∃ m, k = m + 1 := ⟨k - 1, by omega⟩
    simp only [transeptlaw02_CrcParts.l0]
    rw [if_pos (by omega)]
    by_cases h100 : (i : Int) < 100
    · have hc := cut_range (rd l1 (i : Int))
      obtain ⟨z, hz⟩ : ∃ z, Int.tmod (wrap64 (Int.tmod (rd l1 (i : Int)) 7 + 7)) 7 = z := ⟨_, rfl⟩
      rw [hz] at hc ⊢
      rw [wrap_in (i := (a : Int) + z) (by omega) (by omega)]
      obtain ⟨b, hb, hb1, hb2⟩ : ∃ b : Nat, mn ((a : Int) + z) (l0.length : Int) = (b : Int) ∧ a ≤ b ∧ b ≤ l0.length := by
        unfold mn
        split
        · exact ⟨l0.length, rfl, by omega, by omega⟩
        · exact ⟨((a : Int) + z).toNat, by omega, by omega, by omega⟩
      rw [hb, if_pos h100, if_pos (by omega), if_pos (by omega), if_pos (by omega), if_pos (by omega), wrap_in (i := (i : Int) + 1) (by omega) (by omega)]
      simp only [Int.toNat_natCast]
      rw [ext_f (csum_lt (octs_take o0 a)) (octs_drop (octs_take o0 b) a)]
      simp only [Option.bind_some]
      have e : cext (csum (nats (l0.take a))) (nats ((l0.take b).drop a)) = csum (nats (l0.take b)) := by
        have := split_nats (l0.take b) a
        rw [List.take_take, Nat.min_eq_left hb1] at this
        rw [← this]
        exact (cext_append 0 _ _).symm
      rw [e]
      exact ih k (i + 1) b (by omega) (by omega) (by omega) hb2
    · rw [if_neg h100, if_pos (by omega), if_pos (by omega), Int.toNat_natCast, ext_f (csum_lt (octs_take o0 a)) (octs_drop o0 a), sum_f o0]
      simp only [Option.bind_some]
      rw [show cext (csum (nats (l0.take a))) (nats (l0.drop a)) = csum (nats l0) from by rw [← split_nats l0 a]; exact (cext_append 0 _ _).symm]
      simp

theorem CrcParts : transeptlaw02_CrcParts.Pure := by
  intro l0 l1 _ h0 w0 _ h1 w1
  refine ⟨l1.length + 1, ?_⟩
  unfold transeptlaw02_CrcParts.f
  rw [parts_alive]
  simp only [Option.bind_some, if_true]
  rw [sum_f (l := []) rfl]
  exact loop l0 l1 (octs_of_wf w0) (by omega) l1.length _ 0 0 (by omega) (by omega) (by omega) (by omega)
end Go.Proofs.Ytabkdakikfhgmaa.Pure
