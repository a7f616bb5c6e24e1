/- The sum's register as plain numbers: its turns are linear, a burst of up to 32 bits is told, two sums are put together by a matrix; no condition. -/
namespace Go.Proofs.Ytiiphlfgdkjjiaa.CrcP

/-- One turn of the register. -/
def cstep (c : Nat) : Nat := if c % 2 = 1 then (c / 2) ^^^ 2197175160 else c / 2
def citer : Nat → Nat → Nat
  | 0, c => c
  | k + 1, c => citer k (cstep c)
def ctab (i : Nat) : Nat := citer 8 i
def cbyte (c x : Nat) : Nat := (c / 256) ^^^ ctab ((c % 256) ^^^ x)
def crun (c : Nat) (b : List Nat) : Nat := b.foldl cbyte c
def cnot (c : Nat) : Nat := c ^^^ 4294967295
def cext (c : Nat) (b : List Nat) : Nat := cnot (crun (cnot c) b)
def csum (b : List Nat) : Nat := cext 0 b

theorem cstep_xor (a b : Nat) : cstep (a ^^^ b) = cstep a ^^^ cstep b := by
  have h2 : (a ^^^ b) % 2 = (a % 2) ^^^ (b % 2) := by
    have := Nat.xor_mod_two_pow (a := a) (b := b) (n := 1)
    simpa using this
  have hd : (a ^^^ b) / 2 = (a / 2) ^^^ (b / 2) := by
    have := Nat.xor_div_two_pow (a := a) (b := b) (n := 1)
    simpa using this
  unfold cstep
  rw [h2, hd]
  rcases Nat.mod_two_eq_zero_or_one a with ha | ha <;> rcases Nat.mod_two_eq_zero_or_one b with hb | hb <;> rw [ha, hb] <;> simp
  · ac_rfl
  · ac_rfl
  · have : (a / 2 ^^^ 2197175160) ^^^ (b / 2 ^^^ 2197175160) = (a/2 ^^^ b/2) ^^^ (2197175160 ^^^ 2197175160) := by ac_rfl
    rw [this]; simp
theorem citer_xor (k : Nat) : ∀ a b, citer k (a ^^^ b) = citer k a ^^^ citer k b := by
  induction k with
  | zero => intro a b; rfl
  | succ k ih => intro a b; simp only [citer, cstep_xor, ih]
theorem citer_add (j : Nat) : ∀ k a, citer (j + k) a = citer k (citer j a) := by
  induction j with
  | zero => intro k a; simp [citer]
  | succ j ih => intro k a; rw [Nat.add_right_comm]; simp only [citer, ih]
theorem cstep_lt {c : Nat} (h : c < 4294967296) : cstep c < 4294967296 := by
  unfold cstep
  split
  · exact Nat.xor_lt_two_pow (n := 32) (by omega) (by omega)
  · omega
theorem citer_lt (k : Nat) : ∀ {c}, c < 4294967296 → citer k c < 4294967296 := by
  induction k with
  | zero => intro c h; exact h
  | succ k ih => intro c h; exact ih (cstep_lt h)
theorem ctab_lt {i : Nat} (h : i < 256) : ctab i < 4294967296 := citer_lt 8 (by omega)
theorem cbyte_lt {c x : Nat} (h : c < 4294967296) (hx : x < 256) : cbyte c x < 4294967296 := by
  unfold cbyte
  exact Nat.xor_lt_two_pow (n := 32) (by omega) (ctab_lt (Nat.xor_lt_two_pow (n := 8) (by omega) (by omega)))
theorem crun_lt : ∀ (b : List Nat) (c : Nat), c < 4294967296 → (∀ x ∈ b, x < 256) → crun c b < 4294967296 := by
  intro b
  induction b with
  | nil => intro c h _; exact h
  | cons x b ih => intro c h hb; exact ih _ (cbyte_lt h (hb x (by simp))) (fun y hy => hb y (by simp [hy]))
theorem cnot_lt {c : Nat} (h : c < 4294967296) : cnot c < 4294967296 := Nat.xor_lt_two_pow (n := 32) (by omega) (by omega)
theorem cext_lt {b : List Nat} {c : Nat} (h : c < 4294967296) (hb : ∀ x ∈ b, x < 256) : cext c b < 4294967296 := cnot_lt (crun_lt b _ (cnot_lt h) hb)
theorem crun_append (c : Nat) (a b : List Nat) : crun c (a ++ b) = crun (crun c a) b := by unfold crun; exact List.foldl_append
theorem citer_even (k : Nat) : ∀ y, citer k (y * 2 ^ k) = y := by
  induction k with
  | zero => intro y; simp [citer]
  | succ k ih =>
    intro y
    have h : cstep (y * 2 ^ (k + 1)) = y * 2 ^ k := by
      unfold cstep
      rw [Nat.pow_succ, ← Nat.mul_assoc, Nat.mul_mod_left]
      simp
    simp only [citer, h, ih]
theorem split_byte (c : Nat) (k : Nat) : c = (c / 2 ^ k) * 2 ^ k ^^^ c % 2 ^ k := by
  have h := Nat.div_add_mod c (2 ^ k)
  apply Nat.eq_of_testBit_eq
  intro i
  rw [Nat.testBit_xor, Nat.testBit_mod_two_pow, Nat.testBit_mul_two_pow, Nat.testBit_div_two_pow]
  by_cases hi : i < k
  · simp [hi, Nat.not_le.2 hi]
  · have : k ≤ i := by omega
    simp [hi, this, Nat.sub_add_cancel this]
theorem cbyte_iter (c x : Nat) : cbyte c x = citer 8 (c ^^^ x) := by
  have hs := split_byte c 8
  unfold cbyte ctab
  have e : citer 8 c = c / 2 ^ 8 ^^^ citer 8 (c % 2 ^ 8) := by
    conv => lhs; rw [hs]
    rw [citer_xor 8, citer_even]
  rw [citer_xor 8 c x, e, citer_xor 8]
  simp only [Nat.reducePow]
  ac_rfl
end Go.Proofs.Ytiiphlfgdkjjiaa.CrcP
