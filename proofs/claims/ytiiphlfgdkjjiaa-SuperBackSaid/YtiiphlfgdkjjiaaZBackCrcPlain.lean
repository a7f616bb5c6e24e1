/- The sum's register as plain numbers: its turns are linear, a burst of up to 32 bits is told, two sums are put together by a matrix; no condition. -/
namespace Go.Proofs.Ytiiphlfgdkjjiaa.CrcP

/-- One turn of the register. -/
def cstep (c : Nat) : Nat := if c % 2 = 1 then (c / 2) ^^^ 2197175160 else c / 2
def citer : Nat → Nat → Nat
  | 0, c => c
  | k + 1, c => citer k (cstep c)
def ctab (i : Nat) : Nat := citer 8 i
def cbyte (c x : Nat) : Nat := (c / 256) ^^^ ctab ((c % 256) ^^^ x)
def crun (c : Nat) (b : List Nat) : Nat := b.foldl cbyte c
def cnot (c : Nat) : Nat := c ^^^ 4294967295
def cext (c : Nat) (b : List Nat) : Nat := cnot (crun (cnot c) b)
def csum (b : List Nat) : Nat := cext 0 b

theorem cstep_xor (a b : Nat) : cstep (a ^^^ b) = cstep a ^^^ cstep b := by
  have h2 : (a ^^^ b) % 2 = (a % 2) ^^^ (b % 2) := by
    have := Nat.xor_mod_two_pow (a := a) (b := b) (n := 1)
    simpa using this
  have hd : (a ^^^ b) / 2 = (a / 2) ^^^ (b / 2) := by
    have := Nat.xor_div_two_pow (a := a) (b := b) (n := 1)
    simpa using this
  unfold cstep
  rw [h2, hd]
  rcases Nat.mod_two_eq_zero_or_one a with ha | ha <;> rcases Nat.mod_two_eq_zero_or_one b with hb | hb <;> rw [ha, hb] <;> simp
  · ac_rfl
  · ac_rfl
  · have : (a / 2 ^^^ 2197175160) ^^^ (b / 2 ^^^ 2197175160) = (a/2 ^^^ b/2) ^^^ (2197175160 ^^^ 2197175160) := by ac_rfl
    rw [this]; simp
theorem cstep_zero : cstep 0 = 0 := rfl
theorem citer_xor (k : Nat) : ∀ a b, citer k (a ^^^ b) = citer k a ^^^ citer k b := by
  induction k with
  | zero => intro a b; rfl
  | succ k ih => intro a b; simp only [citer, cstep_xor, ih]
theorem citer_add (j : Nat) : ∀ k a, citer (j + k) a = citer k (citer j a) := by
  induction j with
  | zero => intro k a; simp [citer]
  | succ j ih => intro k a; rw [Nat.add_right_comm]; simp only [citer, ih]
theorem cstep_lt {c : Nat} (h : c < 4294967296) : cstep c < 4294967296 := by
  unfold cstep
  split
  · exact Nat.xor_lt_two_pow (n := 32) (by omega) (by omega)
  · omega
theorem citer_lt (k : Nat) : ∀ {c}, c < 4294967296 → citer k c < 4294967296 := by
  induction k with
  | zero => intro c h; exact h
  | succ k ih => intro c h; exact ih (cstep_lt h)
theorem ctab_lt {i : Nat} (h : i < 256) : ctab i < 4294967296 := citer_lt 8 (by omega)
theorem cbyte_lt {c x : Nat} (h : c < 4294967296) (hx : x < 256) : cbyte c x < 4294967296 := by
  unfold cbyte
  exact Nat.xor_lt_two_pow (n := 32) (by omega) (ctab_lt (Nat.xor_lt_two_pow (n := 8) (by omega) (by omega)))
theorem crun_lt : ∀ (b : List Nat) (c : Nat), c < 4294967296 → (∀ x ∈ b, x < 256) → crun c b < 4294967296 := by
  intro b
  induction b with
  | nil => intro c h _; exact h
  | cons x b ih => intro c h hb; exact ih _ (cbyte_lt h (hb x (by simp))) (fun y hy => hb y (by simp [hy]))
theorem cnot_lt {c : Nat} (h : c < 4294967296) : cnot c < 4294967296 := Nat.xor_lt_two_pow (n := 32) (by omega) (by omega)
theorem cext_lt {b : List Nat} {c : Nat} (h : c < 4294967296) (hb : ∀ x ∈ b, x < 256) : cext c b < 4294967296 := cnot_lt (crun_lt b _ (cnot_lt h) hb)
theorem cnot_cnot (c : Nat) : cnot (cnot c) = c := by unfold cnot; rw [Nat.xor_assoc]; simp
theorem crun_append (c : Nat) (a b : List Nat) : crun c (a ++ b) = crun (crun c a) b := by unfold crun; exact List.foldl_append
theorem citer_even (k : Nat) : ∀ y, citer k (y * 2 ^ k) = y := by
  induction k with
  | zero => intro y; simp [citer]
  | succ k ih =>
    intro y
    have h : cstep (y * 2 ^ (k + 1)) = y * 2 ^ k := by
      unfold cstep
      rw [Nat.pow_succ, ← Nat.mul_assoc, Nat.mul_mod_left]
      simp
    simp only [citer, h, ih]
theorem split_byte (c : Nat) (k : Nat) : c = (c / 2 ^ k) * 2 ^ k ^^^ c % 2 ^ k := by
  have h := Nat.div_add_mod c (2 ^ k)
  apply Nat.eq_of_testBit_eq
  intro i
  rw [Nat.testBit_xor, Nat.testBit_mod_two_pow, Nat.testBit_mul_two_pow, Nat.testBit_div_two_pow]
  by_cases hi : i < k
  · simp [hi, Nat.not_le.2 hi]
  · have : k ≤ i := by omega
    simp [hi, this, Nat.sub_add_cancel this]
theorem cbyte_iter (c x : Nat) : cbyte c x = citer 8 (c ^^^ x) := by
  have hs := split_byte c 8
  unfold cbyte ctab
  have e : citer 8 c = c / 2 ^ 8 ^^^ citer 8 (c % 2 ^ 8) := by
    conv => lhs; rw [hs]
    rw [citer_xor 8, citer_even]
  rw [citer_xor 8 c x, e, citer_xor 8]
  simp only [Nat.reducePow]
  ac_rfl
theorem cstep_inj0 {c : Nat} (hc : c < 4294967296) (h : cstep c = 0) : c = 0 := by
  unfold cstep at h
  split at h
  · have h31 : (c / 2 ^^^ 2197175160).testBit 31 = true := by
      rw [Nat.testBit_xor]
      have h1 : (c / 2).testBit 31 = false := Nat.testBit_lt_two_pow (by omega)
      rw [h1]; rfl
    rw [h] at h31; simp at h31
  · omega
theorem citer_inj0 (k : Nat) : ∀ {c}, c < 4294967296 → citer k c = 0 → c = 0 := by
  induction k with
  | zero => intro c _ h; exact h
  | succ k ih => intro c hc h; exact cstep_inj0 hc (ih (cstep_lt hc) h)

def cbit (c : Nat) (m : Bool) : Nat := cstep (c ^^^ m.toNat)
def cbits (c : Nat) (l : List Bool) : Nat := l.foldl cbit c
def bitsOf (n x : Nat) : List Bool := (List.range n).map x.testBit
theorem bitsOf_succ (n x : Nat) : bitsOf (n + 1) x = x.testBit 0 :: bitsOf n (x / 2) := by
  unfold bitsOf
  rw [List.range_succ_eq_map, List.map_cons, List.map_map]
  congr 1
  apply List.map_congr_left
  intro i _
  simp [Nat.testBit_succ]
theorem cbits_word (n : Nat) : ∀ c x, x < 2 ^ n → cbits c (bitsOf n x) = citer n (c ^^^ x) := by
  induction n with
  | zero => intro c x h; have : x = 0 := by simpa using h
            subst this; simp [bitsOf, cbits, citer]
  | succ n ih =>
    intro c x h
    rw [bitsOf_succ]
    show cbits (cbit c (x.testBit 0)) _ = _
    rw [ih _ _ (by rw [Nat.pow_succ] at h; omega)]
    show _ = citer n (cstep (c ^^^ x))
    congr 1
    unfold cbit
    have e : cstep (c ^^^ x) = cstep (c ^^^ (x % 2)) ^^^ cstep ((x / 2) * 2) := by
      rw [← cstep_xor]
      congr 1
      have := split_byte x 1
      simp only [Nat.pow_one] at this
      conv => lhs; rw [this]
      ac_rfl
    rw [e]
    have e2 : cstep ((x / 2) * 2) = x / 2 := by
      unfold cstep; simp
    rw [e2]
    congr 2
    rw [Nat.testBit_zero]
    rcases Nat.mod_two_eq_zero_or_one x with hx | hx <;> rw [hx] <;> rfl
theorem crun_bits : ∀ (b : List Nat) (c : Nat), (∀ x ∈ b, x < 256) → crun c b = cbits c (b.flatMap (bitsOf 8)) := by
  intro b
  induction b with
  | nil => intro c _; rfl
  | cons x b ih =>
    intro c h
    rw [List.flatMap_cons]
    show crun (cbyte c x) b = List.foldl cbit c (bitsOf 8 x ++ _)
    rw [List.foldl_append, ih _ (fun y hy => h y (by simp [hy]))]
    congr 1
    have := cbits_word 8 c x (h x (by simp))
    rw [cbyte_iter]; exact this.symm
theorem cbits_zeros (n : Nat) : ∀ c, cbits c (List.replicate n false) = citer n c := by
  induction n with
  | zero => intro c; rfl
  | succ n ih => intro c; rw [List.replicate_succ]; show cbits (cbit c false) _ = _; rw [ih]; simp [cbit, citer]

theorem cbits_xor : ∀ (a b : List Bool) (c d : Nat), a.length = b.length → cbits (c ^^^ d) (List.zipWith (· ^^ ·) a b) = cbits c a ^^^ cbits d b := by
  intro a
  induction a with
  | nil => intro b c d h; cases b <;> simp_all [cbits]
  | cons x a ih =>
    intro b c d h
    cases b with
    | nil => simp at h
    | cons y b =>
      simp only [List.zipWith_cons_cons]
      show cbits (cbit (c ^^^ d) (x ^^ y)) _ = _
      have e : cbit (c ^^^ d) (x ^^ y) = cbit c x ^^^ cbit d y := by
        unfold cbit
        rw [← cstep_xor]
        congr 1
        have : (x ^^ y).toNat = x.toNat ^^^ y.toNat := by cases x <;> cases y <;> rfl
        rw [this]; ac_rfl
      rw [e, ih b _ _ (by simpa using h)]
      rfl
theorem cbits_append (c : Nat) (a b : List Bool) : cbits c (a ++ b) = cbits (cbits c a) b := by unfold cbits; exact List.foldl_append
theorem flatBits_length (b : List Nat) : (b.flatMap (bitsOf 8)).length = 8 * b.length := by
  induction b with
  | nil => rfl
  | cons x b ih => rw [List.flatMap_cons, List.length_append, ih]; simp [bitsOf]; omega
theorem flatBits_get (b : List Nat) : ∀ i, (b.flatMap (bitsOf 8)).getD i false = (b.getD (i / 8) 0).testBit (i % 8) := by
  induction b with
  | nil => intro i; simp
  | cons x b ih =>
    intro i
    rw [List.flatMap_cons]
    have hl : (bitsOf 8 x).length = 8 := by simp [bitsOf]
    by_cases h : i < 8
    · rw [List.getD_eq_getElem?_getD, List.getElem?_append_left (by omega)]
      have e0 : i / 8 = 0 := by omega
      have e1 : i % 8 = i := by omega
      rw [e0, e1]
      simp [bitsOf, h]
    · rw [List.getD_eq_getElem?_getD, List.getElem?_append_right (by omega), hl, ← List.getD_eq_getElem?_getD, ih]
      have e0 : i / 8 = (i - 8) / 8 + 1 := by omega
      have e1 : (i - 8) % 8 = i % 8 := by omega
      rw [e0, e1]
      rfl
/-- Two texts whose bits part just where the word's bits say, from bit `at` on: their sums part. -/
theorem csum_burst (b c : List Nat) (hb : ∀ x ∈ b, x < 256) (hc : ∀ x ∈ c, x < 256) (hl : c.length = b.length) (p t : Nat) (hp : p + 32 ≤ 8 * b.length) (ht : t < 4294967296) (h0 : t ≠ 0)
    (hbit : ∀ i, i < 8 * b.length → (c.getD (i / 8) 0).testBit (i % 8) = ((b.getD (i / 8) 0).testBit (i % 8) ^^ (decide (p ≤ i) && t.testBit (i - p)))) : csum c ≠ csum b := by
  intro he
  have hr : crun (cnot 0) c = crun (cnot 0) b := by
    have := congrArg cnot he
    unfold csum cext at this
    rwa [cnot_cnot, cnot_cnot] at this
  rw [crun_bits _ _ hb, crun_bits _ _ hc] at hr
  let e : List Bool := List.replicate p false ++ (bitsOf 32 t ++ List.replicate (8 * b.length - p - 32) false)
  have hel : e.length = 8 * b.length := by simp [e, bitsOf]; omega
  have hz : c.flatMap (bitsOf 8) = List.zipWith (· ^^ ·) (b.flatMap (bitsOf 8)) e := by
    apply List.ext_getElem
    · rw [List.length_zipWith, flatBits_length, flatBits_length, hel, hl]; simp
    · intro i h1 h2
      rw [flatBits_length, hl] at h1
      rw [List.getElem_zipWith]
      have g1 : ∀ (l : List Bool) (h : i < l.length), l[i] = l.getD i false := by intro l h; simp [List.getElem?_eq_getElem h]
      rw [g1, g1, g1, flatBits_get, flatBits_get, hbit i h1]
      congr 1
      simp only [e, List.getD_eq_getElem?_getD]
      by_cases hi : i < p
      · rw [List.getElem?_append_left (by simpa using hi)]
        have : decide (p ≤ i) = false := by simp; omega
        rw [this]
        simp [hi]
      · rw [List.getElem?_append_right (by simp; omega)]
        have : decide (p ≤ i) = true := by simp; omega
        rw [this]
        simp only [List.length_replicate, Bool.true_and]
        by_cases hj : i - p < 32
        · rw [List.getElem?_append_left (by simpa [bitsOf] using hj)]
          simp [bitsOf, hj]
        · rw [List.getElem?_append_right (by simp [bitsOf]; omega)]
          have : t.testBit (i - p) = false := Nat.testBit_lt_two_pow (Nat.lt_of_lt_of_le ht (by
            have := Nat.pow_le_pow_right (n := 2) (by decide) (show 32 ≤ i - p by omega)
            simpa using this))
          rw [this]
          simp only [bitsOf, List.length_map, List.length_range]
          rw [List.getElem?_replicate]
          split <;> rfl
  have hx := cbits_xor (b.flatMap (bitsOf 8)) e (cnot 0) 0 (by rw [flatBits_length, hel])
  rw [Nat.xor_zero, ← hz, hr] at hx
  have h00 : cbits 0 e = 0 := by
    have := congrArg (fun z => cbits (cnot 0) (b.flatMap (bitsOf 8)) ^^^ z) hx
    simp only [← Nat.xor_assoc, Nat.xor_self, Nat.zero_xor] at this
    exact this.symm
  simp only [e] at h00
  rw [cbits_append, cbits_append, cbits_zeros, cbits_zeros, cbits_word 32 _ _ (by simpa using ht)] at h00
  have hz0 : ∀ k, citer k 0 = 0 := by intro k; induction k with
    | zero => rfl
    | succ k ih => simp only [citer, cstep_zero, ih]
  rw [hz0, Nat.zero_xor, ← citer_add] at h00
  exact h0 (citer_inj0 _ ht h00)

end Go.Proofs.Ytiiphlfgdkjjiaa.CrcP
