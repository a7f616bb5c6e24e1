/- What a block's sector is read as, plainly: the block; with one octet turned: none; no condition but that the numbers are a block's. -/
import Derived.Test.YtiiphlfgdkjjiaaZBackSDec
namespace Go.Proofs.Ytiiphlfgdkjjiaa.Q
open Go.RowKit Go.Proofs.YtiiphlfgdkjjiaaW.PrintWords Go.Proofs.YtiiphlfgdkjjiaaW.PrintLast Go.Proofs.YtiiphlfgdkjjiaaW.PrintMore
open Go.Proofs.Ytiiphlfgdkjjiaa.CrcP
set_option linter.unusedVariables false
set_option linter.unusedSimpArgs false

theorem num_up {n m : Nat} (hn : n < 2 ^ (8 * m)) : ∀ k, k ≤ m → num ((up m k).map (octAt n)) = n / 2 ^ (8 * (m - k))
  | 0, _ => by rw [Nat.sub_zero, Nat.div_eq_of_lt hn]; rfl
  | k + 1, hk => by
    rw [up_succ, List.map_append, List.map_cons, List.map_nil, num_snoc, num_up hn k (by omega)]
    unfold octAt
    rw [Int.toNat_natCast, show 8 * (m - k) = 8 * (m - 1 - k) + 8 from by omega, Nat.pow_add, ← Nat.div_div_eq_div_mul, show 8 * (m - (k + 1)) = 8 * (m - 1 - k) from by omega]
    have := Nat.div_add_mod (n / 2 ^ (8 * (m - 1 - k))) 256
    show n / 2 ^ (8 * (m - 1 - k)) / 256 * 256 + n / 2 ^ (8 * (m - 1 - k)) % 256 = _
    omega
theorem num_beOf {n m : Nat} (hn : n < 2 ^ (8 * m)) : num (beOf n m) = n := by
  unfold beOf
  rw [num_up hn m (Nat.le_refl _), Nat.sub_self, Nat.mul_zero, Nat.pow_zero, Nat.div_one]
theorem seg_of {α : Type} {P S R : List α} {p s : Nat} (hp : P.length = p) (hs : S.length = s) : ((P ++ (S ++ R)).drop p).take s = S := by
  subst hp hs
  rw [List.drop_left, List.take_left]
variable {a0 a1 a2 a3 a4 : Nat}
theorem encTo_five : encTo a0 a1 a2 a3 a4 5 = markL ++ (beOf a0 8 ++ (beOf a1 8 ++ (beOf a2 8 ++ (beOf a3 8 ++ beOf a4 8)))) := by
  unfold encTo
  simp
theorem sect_octs : octs (sect a0 a1 a2 a3 a4) = true := octs_app (octs_app (encTo_octs 5) (beOf_octs _ _)) (by decide)
theorem sect_mark : (sect a0 a1 a2 a3 a4).take 4 = markL := by
  unfold sect
  rw [encTo_five, List.append_assoc, List.append_assoc]
  exact List.take_left' rfl
theorem sect_head : (sect a0 a1 a2 a3 a4).take 44 = encTo a0 a1 a2 a3 a4 5 := by
  unfold sect
  rw [List.append_assoc]
  exact List.take_left' (encTo_length (Nat.le_refl _))
theorem sect_sum : ((sect a0 a1 a2 a3 a4).take 48).drop 44 = beOf (csum (nats (encTo a0 a1 a2 a3 a4 5))) 4 := by
  unfold sect
  rw [List.take_left' (by rw [List.length_append, encTo_length (Nat.le_refl _), beOf_length])]
  exact List.drop_left' (encTo_length (Nat.le_refl _))
theorem sect_tail : (sect a0 a1 a2 a3 a4).drop 48 = List.replicate 16 0 := by
  unfold sect
  exact List.drop_left' (by rw [List.length_append, encTo_length (Nat.le_refl _), beOf_length])
theorem sect_num (h0 : a0 ≤ 1099511627776) (h1 : a1 ≤ 1099511627776) (h2 : a2 ≤ 1099511627776) (h3 : a3 ≤ 1099511627776) (h4 : a4 ≤ 1099511627776) : ∀ k, k < 5 → numAt (sect a0 a1 a2 a3 a4) k = [a0, a1, a2, a3, a4].getD k 0 := by
  intro k hk
  have hb : ∀ n m : Nat, (beOf n m).length = m := beOf_length
  have hn : ∀ n : Nat, n ≤ 1099511627776 → num (beOf n 8) = n := fun n hn => num_beOf (by show n < 18446744073709551616; omega)
  unfold numAt sect
  rw [encTo_five]
  rcases (by omega : k = 0 ∨ k = 1 ∨ k = 2 ∨ k = 3 ∨ k = 4) with rfl | rfl | rfl | rfl | rfl
  · have := seg_of (P := markL) (S := beOf a0 8) (R := beOf a1 8 ++ (beOf a2 8 ++ (beOf a3 8 ++ (beOf a4 8 ++ (beOf (csum (nats (encTo a0 a1 a2 a3 a4 5))) 4 ++ List.replicate 16 0))))) (p := 4) (s := 8) rfl (hb _ _)
    simp only [List.append_assoc] at this ⊢
    rw [← encTo_five] at *
    rw [show 4 + 8 * 0 = 4 from rfl, this]; exact hn _ h0
  · have := seg_of (P := markL ++ beOf a0 8) (S := beOf a1 8) (R := beOf a2 8 ++ (beOf a3 8 ++ (beOf a4 8 ++ (beOf (csum (nats (encTo a0 a1 a2 a3 a4 5))) 4 ++ List.replicate 16 0)))) (p := 12) (s := 8) (by rw [List.length_append, hb]; rfl) (hb _ _)
    simp only [List.append_assoc] at this ⊢
    rw [← encTo_five] at *
    rw [show 4 + 8 * 1 = 12 from rfl, this]; exact hn _ h1
  · have := seg_of (P := markL ++ beOf a0 8 ++ beOf a1 8) (S := beOf a2 8) (R := beOf a3 8 ++ (beOf a4 8 ++ (beOf (csum (nats (encTo a0 a1 a2 a3 a4 5))) 4 ++ List.replicate 16 0))) (p := 20) (s := 8) (by simp only [List.length_append, hb]; rfl) (hb _ _)
    simp only [List.append_assoc] at this ⊢
    rw [← encTo_five] at *
    rw [show 4 + 8 * 2 = 20 from rfl, this]; exact hn _ h2
  · have := seg_of (P := markL ++ beOf a0 8 ++ beOf a1 8 ++ beOf a2 8) (S := beOf a3 8) (R := beOf a4 8 ++ (beOf (csum (nats (encTo a0 a1 a2 a3 a4 5))) 4 ++ List.replicate 16 0)) (p := 28) (s := 8) (by simp only [List.length_append, hb]; rfl) (hb _ _)
    simp only [List.append_assoc] at this ⊢
    rw [← encTo_five] at *
    rw [show 4 + 8 * 3 = 28 from rfl, this]; exact hn _ h3
  · have := seg_of (P := markL ++ beOf a0 8 ++ beOf a1 8 ++ beOf a2 8 ++ beOf a3 8) (S := beOf a4 8) (R := beOf (csum (nats (encTo a0 a1 a2 a3 a4 5))) 4 ++ List.replicate 16 0) (p := 36) (s := 8) (by simp only [List.length_append, hb]; rfl) (hb _ _)
    simp only [List.append_assoc] at this ⊢
    rw [← encTo_five] at *
    rw [show 4 + 8 * 4 = 36 from rfl, this]; exact hn _ h4
theorem dec_sect (h0 : a0 ≤ 1099511627776) (h1 : a1 ≤ 1099511627776) (h2 : a2 ≤ 1099511627776) (h3 : a3 ≤ 1099511627776) (h4 : a4 ≤ 1099511627776) : dec (sect a0 a1 a2 a3 a4) = ((a0 : Int), (a1 : Int), (a2 : Int), (a3 : Int), (a4 : Int), 0) := by
  have hs := sect_num h0 h1 h2 h3 h4
  have hc : csum (nats (encTo a0 a1 a2 a3 a4 5)) < 2 ^ (8 * 4) := cext_lt (by decide) (octs_lt (encTo_octs 5))
  have hbig : bigAt (sect a0 a1 a2 a3 a4) = false := big_no (fun k hk => by
    rw [hs k hk]
    rcases (by omega : k = 0 ∨ k = 1 ∨ k = 2 ∨ k = 3 ∨ k = 4) with rfl | rfl | rfl | rfl | rfl <;> assumption)
  have ht : ((List.replicate 16 (0 : Int)).any fun x => decide (x ≠ 0)) = false := by decide
  unfold dec
  rw [if_pos sect_length, if_pos sect_mark, sect_sum, sect_head, num_beOf hc, if_pos rfl, sect_tail, ht, if_neg (by decide), hbig, if_neg (by decide), hs 0 (by omega), hs 1 (by omega), hs 2 (by omega), hs 3 (by omega), hs 4 (by omega)]
  rfl

theorem nats_length' (l : List Int) : (nats l).length = l.length := List.length_map _
theorem nats_getD {l : List Int} {i : Nat} (h : i < l.length) : (nats l).getD i 0 = l[i].toNat := by
  rw [List.getD_eq_getElem?_getD, List.getElem?_eq_getElem (by rw [nats_length']; exact h), Option.getD_some]
  simp [nats]
theorem octs_set {l : List Int} (h : octs l = true) {i : Nat} {y : Int} (hy : 0 ≤ y ∧ y < 256) : octs (l.set i y) = true := by
  unfold octs at *
  rw [List.all_eq_true] at *
  intro x hx
  rcases List.mem_or_eq_of_mem_set hx with h1 | h1
  · exact h x h1
  · rw [h1]; exact decide_eq_true hy
/-- An octet of a text turned, its sum is another. -/
theorem csum_turned {l : List Int} (ho : octs l = true) (h44 : l.length = 44) {i : Nat} (hi : i < 44) (h4 : 4 ≤ i) {y : Int} (hy : 0 ≤ y ∧ y < 256) (hne : y ≠ l[i]'(by omega)) : csum (nats (l.set i y)) ≠ csum (nats l) := by
  obtain ⟨yn, rfl⟩ := Int.eq_ofNat_of_zero_le hy.1
  have hx := octs_get ho (List.getElem_mem (show i < l.length by omega))
  obtain ⟨xn, hxn⟩ := Int.eq_ofNat_of_zero_le hx.1
  have hx8 : xn < 256 := by omega
  have hy8 : yn < 256 := by omega
  obtain ⟨d, hd⟩ : ∃ d, d = xn ^^^ yn := ⟨_, rfl⟩
  have hd8 : d < 256 := by rw [hd]; exact Nat.xor_lt_two_pow (n := 8) (by omega) (by omega)
  have hd0 : d ≠ 0 := fun e => by
    have : xn = yn := by
      have h1 : (xn ^^^ yn) ^^^ yn = xn := by rw [Nat.xor_assoc, Nat.xor_self, Nat.xor_zero]
      rw [← hd, e, Nat.zero_xor] at h1
      exact h1.symm
    omega
  obtain ⟨p, hp⟩ : ∃ p, p = min (8 * i) 320 := ⟨_, rfl⟩
  obtain ⟨s, hs⟩ : ∃ s, s = 8 * i - p := ⟨_, rfl⟩
  have hs24 : s ≤ 24 := by omega
  have ht : d * 2 ^ s < 4294967296 := by
    have h1 : 2 ^ s ≤ 16777216 := by have := Nat.pow_le_pow_right (n := 2) (by decide) hs24; simpa using this
    have h2 : d * 2 ^ s ≤ 255 * 2 ^ s := Nat.mul_le_mul_right _ (by omega)
    omega
  have ht0 : d * 2 ^ s ≠ 0 := Nat.mul_ne_zero hd0 (by have := Nat.two_pow_pos s; omega)
  have hsl : (l.set i (yn : Int)).length = 44 := by rw [List.length_set]; exact h44
  refine csum_burst (nats l) (nats (l.set i (yn : Int))) (octs_lt ho) (octs_lt (octs_set ho hy)) (by rw [nats_length', nats_length', hsl, h44]) p (d * 2 ^ s) (by rw [nats_length', h44]; omega) ht ht0 ?_
  intro j hj
  rw [nats_length', h44] at hj
  have hj8 : j / 8 < 44 := by omega
  rw [nats_getD (l := l.set i (yn : Int)) (by rw [hsl]; exact hj8), nats_getD (l := l) (by rw [h44]; exact hj8), Nat.testBit_mul_two_pow]
  by_cases he : j / 8 = i
  · subst he
    rw [List.getElem_set_self, hxn]
    have e1 : decide (p ≤ j) = true := decide_eq_true (by omega)
    have e2 : decide (s ≤ j - p) = true := decide_eq_true (by omega)
    have e3 : j - p - s = j % 8 := by omega
    rw [e1, e2, e3, hd, Nat.testBit_xor]
    show yn.testBit (j % 8) = (xn.testBit (j % 8) ^^ (true && (true && (xn.testBit (j % 8) ^^ yn.testBit (j % 8)))))
    cases xn.testBit (j % 8) <;> cases yn.testBit (j % 8) <;> rfl
  · rw [List.getElem_set_ne (fun e => he e.symm)]
    by_cases hlt : j < 8 * i
    · by_cases hpj : p ≤ j
      · rw [decide_eq_false (show ¬ s ≤ j - p by omega)]; simp
      · rw [decide_eq_false hpj]; simp
    · have hb : d.testBit (j - p - s) = false := Nat.testBit_lt_two_pow (Nat.lt_of_lt_of_le hd8 (by
        have := Nat.pow_le_pow_right (n := 2) (by decide) (show 8 ≤ j - p - s by omega)
        simpa using this))
      rw [hb]; simp
theorem num_inj4 {l l' : List Int} (ho : octs l = true) (ho' : octs l' = true) : ∀ n, n ≤ l.length → n ≤ l'.length → num (l.take n) = num (l'.take n) → l.take n = l'.take n
  | 0, _, _, _ => by rw [List.take_zero, List.take_zero]
  | n + 1, h1, h2, h => by
    rw [List.take_succ_eq_append_getElem (by omega), List.take_succ_eq_append_getElem (by omega), num_snoc, num_snoc] at h
    have b1 := octs_get ho (List.getElem_mem (show n < l.length by omega))
    have b2 := octs_get ho' (List.getElem_mem (show n < l'.length by omega))
    have ih := num_inj4 ho ho' n (by omega) (by omega) (by omega)
    rw [List.take_succ_eq_append_getElem (by omega), List.take_succ_eq_append_getElem (by omega), ih]
    congr 2
    omega
theorem num_inj_four {l l' : List Int} (ho : octs l = true) (ho' : octs l' = true) (h : l.length = 4) (h' : l'.length = 4) (e : num l = num l') : l = l' := by
  have h1 := num_inj4 ho ho' 4 (by omega) (by omega)
  rw [List.take_of_length_le (by omega), List.take_of_length_le (by omega)] at h1
  exact h1 e
/-- A block's sector with one octet turned is read as none. -/
theorem dec_turned {l : List Int} (ho : octs l = true) (h64 : l.length = 64) (hd : (dec l).2.2.2.2.2 = 0) {i : Nat} (hi : i < 64) {y : Int} (hy : 0 ≤ y ∧ y < 256) (hne : y ≠ l[i]'(by omega)) : (dec (l.set i y)).2.2.2.2.2 ≠ 0 := by
  have hsl : (l.set i y).length = 64 := by rw [List.length_set]; exact h64
  -- what l is
  have hm : l.take 4 = markL := by
    by_cases h : l.take 4 = markL
    · exact h
    · unfold dec at hd; rw [if_pos h64, if_neg h] at hd; exact absurd hd (by decide)
  have hc : num ((l.take 48).drop 44) = csum (nats (l.take 44)) := by
    by_cases h : num ((l.take 48).drop 44) = csum (nats (l.take 44))
    · exact h
    · unfold dec at hd; rw [if_pos h64, if_pos hm, if_neg h] at hd; exact absurd hd (by decide)
  have hz : (l.drop 48).any (fun x => decide (x ≠ 0)) = false := by
    cases h : (l.drop 48).any (fun x => decide (x ≠ 0)) with
    | false => rfl
    | true => unfold dec at hd; rw [if_pos h64, if_pos hm, if_pos hc, if_pos h] at hd; exact absurd hd (by decide)
  have hget : ∀ j (hj : j < (l.set i y).length), j ≠ i → (l.set i y)[j] = l[j]'(by rw [List.length_set] at hj; exact hj) := fun j hj h => List.getElem_set_ne (fun e => h e.symm) _
  have hself : (l.set i y)[i]'(by omega) = y := List.getElem_set_self _
  unfold dec
  rw [if_pos hsl]
  by_cases h4 : i < 4
  · rw [if_neg ?_]
    · decide
    · intro e
      have e1 : ((l.set i y).take 4)[i]'(by rw [List.length_take]; omega) = (l.take 4)[i]'(by rw [List.length_take]; omega) := by simp only [e, hm]
      rw [List.getElem_take, List.getElem_take, hself] at e1
      exact hne e1
  · have hm' : (l.set i y).take 4 = markL := by rw [List.take_set_of_le (by omega)]; exact hm
    rw [if_pos hm']
    by_cases h44 : i < 44
    · rw [if_neg ?_]
      · decide
      · intro e
        have e1 : ((l.set i y).take 48).drop 44 = (l.take 48).drop 44 := by
          rw [List.take_set, List.drop_set_of_lt (by omega)]
        have e2 : (l.set i y).take 44 = (l.take 44).set i y := List.take_set ..
        rw [e1, e2, hc] at e
        have h44l : (l.take 44).length = 44 := by rw [List.length_take]; omega
        exact csum_turned (octs_take ho 44) h44l h44 (by omega) hy (by rw [List.getElem_take]; exact hne) e.symm
    · have e2 : (l.set i y).take 44 = l.take 44 := List.take_set_of_le (by omega)
      by_cases h48 : i < 48
      · rw [if_neg ?_]
        · decide
        · intro e
          rw [e2, ← hc] at e
          have o1 := octs_drop (octs_take (octs_set ho hy (i := i)) 48) 44
          have o2 := octs_drop (octs_take ho 48) 44
          have l1 : (((l.set i y).take 48).drop 44).length = 4 := by rw [List.length_drop, List.length_take]; omega
          have l2 : ((l.take 48).drop 44).length = 4 := by rw [List.length_drop, List.length_take]; omega
          have h1 := num_inj_four o1 o2 l1 l2 e
          have e1 : (((l.set i y).take 48).drop 44)[i - 44]'(by omega) = ((l.take 48).drop 44)[i - 44]'(by omega) := by simp only [h1]
          rw [List.getElem_drop, List.getElem_drop, List.getElem_take, List.getElem_take] at e1
          have e3 : 44 + (i - 44) = i := by omega
          simp only [e3] at e1
          rw [hself] at e1
          exact hne e1
      · have e3 : ((l.set i y).take 48).drop 44 = (l.take 48).drop 44 := by rw [List.take_set_of_le (by omega)]
        rw [e3, e2, if_pos hc, if_pos ?_]
        · decide
        · rw [List.any_eq_true]
          have hli : l[i]'(by omega) = 0 := by
            have := List.any_eq_false.1 hz (l[i]'(by omega)) (by
              have : (l.drop 48)[i - 48]'(by rw [List.length_drop]; omega) = l[i]'(by omega) := by
                rw [List.getElem_drop]; congr 1; omega
              rw [← this]; exact List.getElem_mem _)
            simpa using this
          refine ⟨y, ?_, decide_eq_true (by rw [hli] at hne; exact hne)⟩
          have : ((l.set i y).drop 48)[i - 48]'(by rw [List.length_drop]; omega) = y := by
            rw [List.getElem_drop]
            have e4 : 48 + (i - 48) = i := by omega
            simp only [e4]
            exact hself
          have hmem := List.getElem_mem (l := (l.set i y).drop 48) (show i - 48 < ((l.set i y).drop 48).length by rw [List.length_drop]; omega)
          rw [this] at hmem
          exact hmem
end Go.Proofs.Ytiiphlfgdkjjiaa.Q
