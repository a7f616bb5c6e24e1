/- CrcFinds is true for every text, place and word: up to 32 bits in a row that are turned are told; no condition. -/
import Derived.Test.YtabkdakikfhgmaaQ6
import Derived.Test.YtabkdakikfhgmaaOcts
namespace Go.Proofs.Ytabkdakikfhgmaa.Pure
open Go.RowKit Go.Proofs.Ytabkdakikfhgmaa.Q Go.Proofs.YtabkdakikfhgmaaW.PrintWords Go.Proofs.YtabkdakikfhgmaaW.PrintLast Go.Proofs.YtabkdakikfhgmaaW.PrintMore
open Go.Proofs.Ytabkdakikfhgmaa.CrcP

theorem finds_alive : transeptlaw02_alive.f = some true := rfl
/-- The text c is b, but that of the first i bits of t, from bit p on, those that are set are turned. -/
def Turned (b c : List Int) (p t i : Nat) : Prop := octs c = true ∧ c.length = b.length ∧ ∀ j, j < 8 * b.length →
  ((nats c).getD (j / 8) 0).testBit (j % 8) = (((nats b).getD (j / 8) 0).testBit (j % 8) ^^ (decide (p ≤ j) && (decide (j < p + i) && t.testBit (j - p))))
theorem Turned.start {b : List Int} (h : octs b = true) (p t : Nat) : Turned b b p t 0 := by
  refine ⟨h, rfl, fun j _ => ?_⟩
  by_cases hp : p ≤ j
  · have : decide (j < p + 0) = false := by simp; omega
    rw [this]; simp
  · have : decide (p ≤ j) = false := by simp; omega
    rw [this]; simp
theorem Turned.skip {b c : List Int} {p t i : Nat} (h : Turned b c p t i) (ht : t.testBit i = false) : Turned b c p t (i + 1) := by
  refine ⟨h.1, h.2.1, fun j hj => ?_⟩
  rw [h.2.2 j hj]
  by_cases e : j = p + i
  · subst e
    have : p + i - p = i := by omega
    rw [this, ht]; simp
  · have : decide (j < p + (i + 1)) = decide (j < p + i) := by
      by_cases hl : j < p + i
      · simp [hl]; omega
      · simp [hl]; omega
    rw [this]
theorem Turned.turn {b c : List Int} {p t i : Nat} (h : Turned b c p t i) (ht : t.testBit i = true) (hi : p + i < 8 * b.length) :
    Turned b (c.set ((p + i) / 8) (((nats c).getD ((p + i) / 8) 0 ^^^ 2 ^ ((p + i) % 8) : Nat) : Int)) p t (i + 1) := by
  have hlt : (p + i) / 8 < c.length := by rw [h.2.1]; omega
  have hb := (rd_cast h.1 _ hlt).2
  have hp2 : 2 ^ ((p + i) % 8) < 256 := by
    have := Nat.pow_lt_pow_right (a := 2) (by decide) (show (p + i) % 8 < 8 by omega)
    simpa using this
  have hx := xor_lt8 hb hp2
  refine ⟨octs_iff.2 fun x hx' => ?_, by rw [List.length_set]; exact h.2.1, fun j hj => ?_⟩
  · rcases List.mem_or_eq_of_mem_set hx' with hm | rfl
    · exact octs_iff.1 h.1 x hm
    · omega
  · have hn : nats (c.set ((p + i) / 8) (((nats c).getD ((p + i) / 8) 0 ^^^ 2 ^ ((p + i) % 8) : Nat) : Int)) = (nats c).set ((p + i) / 8) ((nats c).getD ((p + i) / 8) 0 ^^^ 2 ^ ((p + i) % 8)) := by
      unfold nats
      rw [List.map_set]
      rfl
    rw [hn]
    have hlt' : (p + i) / 8 < (nats c).length := by rw [nats_length]; exact hlt
    by_cases e8 : j / 8 = (p + i) / 8
    · have g : ((nats c).set ((p + i) / 8) ((nats c).getD ((p + i) / 8) 0 ^^^ 2 ^ ((p + i) % 8))).getD (j / 8) 0 = (nats c).getD (j / 8) 0 ^^^ 2 ^ ((p + i) % 8) := by
        rw [e8, List.getD_eq_getElem?_getD, List.getElem?_set_self hlt']; rfl
      rw [g, Nat.testBit_xor, h.2.2 j hj, Nat.testBit_two_pow]
      by_cases e : j = p + i
      · subst e
        have h1 : p + i - p = i := by omega
        rw [h1, ht]
        have h2 : decide (p ≤ p + i) = true := by simp
        have h3 : decide (p + i < p + i) = false := by simp
        have h4 : decide (p + i < p + (i + 1)) = true := by simp
        rw [h2, h3, h4]; simp
      · have h1 : decide ((p + i) % 8 = j % 8) = false := by simp; omega
        have h2 : decide (j < p + (i + 1)) = decide (j < p + i) := by
          by_cases hl : j < p + i
          · simp [hl]; omega
          · simp [hl]; omega
        rw [h1, h2]; simp
    · have g : ((nats c).set ((p + i) / 8) ((nats c).getD ((p + i) / 8) 0 ^^^ 2 ^ ((p + i) % 8))).getD (j / 8) 0 = (nats c).getD (j / 8) 0 := by
        rw [List.getD_eq_getElem?_getD, List.getElem?_set_ne (fun h => e8 h.symm), ← List.getD_eq_getElem?_getD]
      rw [g, h.2.2 j hj]
      have h2 : decide (j < p + (i + 1)) = decide (j < p + i) := by
        by_cases hl : j < p + i
        · simp [hl]; omega
        · simp [hl]; omega
      rw [h2]

theorem bit_set (t i : Nat) (ht : t < 4294967296) (hi : i < 32) : (bits .and .u32 (shr .u32 (t : Int) (i : Int)) 1 = 1) ↔ t.testBit i = true := by
  have h1 : shr .u32 (t : Int) (i : Int) = ((t / 2 ^ i : Nat) : Int) := by
    unfold shr
    have : min (i : Int).toNat IntKind.u32.bits = i := by
      have : IntKind.u32.bits = 32 := rfl
      rw [this]; omega
    rw [this]; simp
  have h2 : t / 2 ^ i < 4294967296 := Nat.lt_of_le_of_lt (Nat.div_le_self _ _) ht
  have h3 := u32_and_nat (t / 2 ^ i) 1 h2 (by omega)
  rw [show ((1 : Nat) : Int) = 1 from rfl] at h3
  rw [h1, h3, Nat.and_one_is_mod, Nat.testBit_eq_decide_div_mod_eq]
  constructor
  · intro h; simp; omega
  · intro h; simp at h; omega
theorem one_shl (r : Nat) (hr : r < 8) : shl .u8 1 (r : Int) = ((2 ^ r : Nat) : Int) := by
  rcases (by omega : r = 0 ∨ r = 1 ∨ r = 2 ∨ r = 3 ∨ r = 4 ∨ r = 5 ∨ r = 6 ∨ r = 7) with rfl | rfl | rfl | rfl | rfl | rfl | rfl | rfl <;> decide

theorem loop (b : List Int) (ob : octs b = true) (p t : Nat) (hp : p + 32 ≤ 8 * b.length) (hn : b.length ≤ 140737488351232) (ht : t < 4294967296) (h0 : t ≠ 0) (d : Nat) :
    ∀ (k i : Nat) (c : List Int), i ≤ 32 → 32 - i = d → d < k → Turned b c p t i → transeptlaw02_CrcFinds.l0 k b p t c i = some true := by
  induction d with
  | zero =>
    intro k i c hi hd hk hT
    obtain ⟨k, rfl⟩ : ∃ m, k = m + 1 := ⟨k - 1, by omega⟩
    obtain rfl : i = 32 := by omega
    simp only [transeptlaw02_CrcFinds.l0]
    rw [if_neg (by omega), sum_f hT.1, sum_f ob]
    simp only [Option.bind_some]
    have hne := csum_burst (nats b) (nats c) (octs_lt ob) (octs_lt hT.1) (by rw [nats_length, nats_length, hT.2.1]) p t (by rw [nats_length]; exact hp) ht h0 (fun j hj => by
      rw [nats_length] at hj
      rw [hT.2.2 j hj]
      by_cases hl : j < p + 32
      · simp [hl]
      · have : t.testBit (j - p) = false := Nat.testBit_lt_two_pow (Nat.lt_of_lt_of_le ht (by
          have := Nat.pow_le_pow_right (n := 2) (by decide) (show 32 ≤ j - p by omega)
          simpa using this))
        rw [this]; simp)
    rw [Option.some_inj, bne_iff_ne]
    omega
  | succ d ih =>
    intro k i c hi hd hk hT
    obtain ⟨k, rfl⟩ : ∃ m, k = m + 1 := ⟨k - 1, by omega⟩
    have hlt : i < 32 := by omega
    simp only [transeptlaw02_CrcFinds.l0]
    rw [if_pos (by omega), if_pos (by omega), wrap_in (i := (i : Int) + 1) (by omega) (by omega), wrap_in (i := (p : Int) + (i : Int)) (by omega) (by omega)]
    by_cases hb : t.testBit i = true
    · have hd8 : Int.tdiv ((p : Int) + (i : Int)) 8 = (((p + i) / 8 : Nat) : Int) := by
        rw [Int.tdiv_eq_ediv_of_nonneg (by omega)]; omega
      have hm8 : Int.tmod ((p : Int) + (i : Int)) 8 = (((p + i) % 8 : Nat) : Int) := by
        rw [Int.tmod_eq_emod_of_nonneg (by omega)]; omega
      have hlen : (p + i) / 8 < c.length := by rw [hT.2.1]; omega
      obtain ⟨er, hb8⟩ := rd_cast hT.1 _ hlen
      rw [if_pos ((bit_set t i ht hlt).2 hb), hd8, hm8, wrap_in (by omega) (by omega), if_pos (by omega), if_pos (by omega), if_pos (by omega), Int.toNat_natCast, er, one_shl _ (by omega)]
      have hp2 : 2 ^ ((p + i) % 8) < 256 := by
        have := Nat.pow_lt_pow_right (a := 2) (by decide) (show (p + i) % 8 < 8 by omega)
        simpa using this
      rw [u8_xor_nat _ _ hb8 hp2]
      exact ih k (i + 1) _ (by omega) (by omega) (by omega) (hT.turn hb (by omega))
    · rw [if_neg (fun h => hb ((bit_set t i ht hlt).1 h))]
      exact ih k (i + 1) c (by omega) (by omega) (by omega) (hT.skip (by simpa using hb))

theorem CrcFinds : transeptlaw02_CrcFinds.Pure := by
  intro b at' t' _ hn wb wa wt
  obtain ⟨t0, t1⟩ := wf_u32 wt
  obtain ⟨t, rfl⟩ := Int.eq_ofNat_of_zero_le t0
  have ob := octs_of_wf wb
  refine ⟨40, ?_⟩
  unfold transeptlaw02_CrcFinds.f
  rw [finds_alive]
  simp only [Option.bind_some, if_true]
  by_cases h5 : (b.length : Int) < 5
  · rw [if_pos h5]
    simp [transeptlaw02_CrcFinds.j0]
  · rw [if_neg h5]
    by_cases ht : t = 0
    · subst ht
      simp [transeptlaw02_CrcFinds.j0]
    · have hz : ((t : Int) == 0) = false := by rw [beq_eq_false_iff_ne]; omega
      rw [hz]
      simp only [transeptlaw02_CrcFinds.j0]
      rw [if_neg (by decide)]
      have hcb : transeptplain_CopyBytes.f b = some b := by
        unfold transeptplain_CopyBytes.f
        rw [if_pos (by simp; omega)]
        simp
      rw [hcb]
      simp only [Option.bind_some]
      rw [wrap_in (i := (b.length : Int) - 4) (by omega) (by omega), wrap_in (i := 8 * ((b.length : Int) - 4)) (by omega) (by omega), if_neg (by omega)]
      obtain ⟨n, hn8⟩ : ∃ n : Int, n = 8 * ((b.length : Int) - 4) := ⟨_, rfl⟩
      rw [← hn8]
      have r1 : -n < Int.tmod at' n ∧ Int.tmod at' n < n := by
        have := Int.tmod_lt_of_pos at' (b := n) (by omega)
        have := Int.lt_tmod_of_pos at' (b := n) (by omega)
        omega
      rw [wrap_in (i := Int.tmod at' n + n) (by omega) (by omega)]
      have r2 := Int.tmod_nonneg n (a := Int.tmod at' n + n) (by omega)
      have r3 := Int.tmod_lt_of_pos (Int.tmod at' n + n) (b := n) (by omega)
      obtain ⟨p, hp⟩ := Int.eq_ofNat_of_zero_le r2
      rw [hp] at r3 ⊢
      exact loop b ob p t (by omega) (by omega) (by omega) ht 32 39 0 b (by omega) (by omega) (by omega) (Turned.start ob p t)
end Go.Proofs.Ytabkdakikfhgmaa.Pure
