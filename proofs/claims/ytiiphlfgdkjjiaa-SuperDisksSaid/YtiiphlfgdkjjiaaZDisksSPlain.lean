/- What a block's sector is read as, plainly: the block; with one octet turned: none; no condition but that the numbers are a block's. -/
import Derived.Test.YtiiphlfgdkjjiaaZDisksSDec
namespace Go.Proofs.Ytiiphlfgdkjjiaa.Q
open Go.RowKit Go.Proofs.YtiiphlfgdkjjiaaW.PrintWords Go.Proofs.YtiiphlfgdkjjiaaW.PrintLast Go.Proofs.YtiiphlfgdkjjiaaW.PrintMore
open Go.Proofs.Ytiiphlfgdkjjiaa.CrcP
set_option linter.unusedVariables false
set_option linter.unusedSimpArgs false

theorem num_up {n m : Nat} (hn : n < 2 ^ (8 * m)) : ∀ k, k ≤ m → num ((up m k).map (octAt n)) = n / 2 ^ (8 * (m - k))
  | 0, _ => by rw [Nat.sub_zero, Nat.div_eq_of_lt hn]; rfl
  | k + 1, hk => by
    rw [up_succ, List.map_append, List.map_cons, List.map_nil, num_snoc, num_up hn k (by omega)]
    unfold octAt
    rw [Int.toNat_natCast, show 8 * (m - k) = 8 * (m - 1 - k) + 8 from by omega, Nat.pow_add, ← Nat.div_div_eq_div_mul, show 8 * (m - (k + 1)) = 8 * (m - 1 - k) from by omega]
    have := Nat.div_add_mod (n / 2 ^ (8 * (m - 1 - k))) 256
    show n / 2 ^ (8 * (m - 1 - k)) / 256 * 256 + n / 2 ^ (8 * (m - 1 - k)) % 256 = _
    omega
theorem num_beOf {n m : Nat} (hn : n < 2 ^ (8 * m)) : num (beOf n m) = n := by
  unfold beOf
  rw [num_up hn m (Nat.le_refl _), Nat.sub_self, Nat.mul_zero, Nat.pow_zero, Nat.div_one]
theorem seg_of {α : Type} {P S R : List α} {p s : Nat} (hp : P.length = p) (hs : S.length = s) : ((P ++ (S ++ R)).drop p).take s = S := by
  subst hp hs
  rw [List.drop_left, List.take_left]
variable {a0 a1 a2 a3 a4 : Nat}
theorem encTo_five : encTo a0 a1 a2 a3 a4 5 = markL ++ (beOf a0 8 ++ (beOf a1 8 ++ (beOf a2 8 ++ (beOf a3 8 ++ beOf a4 8)))) := by
  unfold encTo
  simp
theorem sect_octs : octs (sect a0 a1 a2 a3 a4) = true := octs_app (octs_app (encTo_octs 5) (beOf_octs _ _)) (by decide)
theorem sect_mark : (sect a0 a1 a2 a3 a4).take 4 = markL := by
  unfold sect
  rw [encTo_five, List.append_assoc, List.append_assoc]
  exact List.take_left' rfl
theorem sect_head : (sect a0 a1 a2 a3 a4).take 44 = encTo a0 a1 a2 a3 a4 5 := by
  unfold sect
  rw [List.append_assoc]
  exact List.take_left' (encTo_length (Nat.le_refl _))
theorem sect_sum : ((sect a0 a1 a2 a3 a4).take 48).drop 44 = beOf (csum (nats (encTo a0 a1 a2 a3 a4 5))) 4 := by
  unfold sect
  rw [List.take_left' (by rw [List.length_append, encTo_length (Nat.le_refl _), beOf_length])]
  exact List.drop_left' (encTo_length (Nat.le_refl _))
theorem sect_tail : (sect a0 a1 a2 a3 a4).drop 48 = List.replicate 16 0 := by
  unfold sect
  exact List.drop_left' (by rw [List.length_append, encTo_length (Nat.le_refl _), beOf_length])
theorem sect_num (h0 : a0 ≤ 1099511627776) (h1 : a1 ≤ 1099511627776) (h2 : a2 ≤ 1099511627776) (h3 : a3 ≤ 1099511627776) (h4 : a4 ≤ 1099511627776) : ∀ k, k < 5 → numAt (sect a0 a1 a2 a3 a4) k = [a0, a1, a2, a3, a4].getD k 0 := by
  intro k hk
  have hb : ∀ n m : Nat, (beOf n m).length = m := beOf_length
  have hn : ∀ n : Nat, n ≤ 1099511627776 → num (beOf n 8) = n := fun n hn => num_beOf (by show n < 18446744073709551616; omega)
  unfold numAt sect
  rw [encTo_five]
  rcases (by omega : k = 0 ∨ k = 1 ∨ k = 2 ∨ k = 3 ∨ k = 4) with rfl | rfl | rfl | rfl | rfl
  · have := seg_of (P := markL) (S := beOf a0 8) (R := beOf a1 8 ++ (beOf a2 8 ++ (beOf a3 8 ++ (beOf a4 8 ++ (beOf (csum (nats (encTo a0 a1 a2 a3 a4 5))) 4 ++ List.replicate 16 0))))) (p := 4) (s := 8) rfl (hb _ _)
    simp only [List.append_assoc] at this ⊢
    rw [← encTo_five] at *
    rw [show 4 + 8 * 0 = 4 from rfl, this]; exact hn _ h0
  · have := seg_of (P := markL ++ beOf a0 8) (S := beOf a1 8) (R := beOf a2 8 ++ (beOf a3 8 ++ (beOf a4 8 ++ (beOf (csum (nats (encTo a0 a1 a2 a3 a4 5))) 4 ++ List.replicate 16 0)))) (p := 12) (s := 8) (by rw [List.length_append, hb]; rfl) (hb _ _)
    simp only [List.append_assoc] at this ⊢
    rw [← encTo_five] at *
    rw [show 4 + 8 * 1 = 12 from rfl, this]; exact hn _ h1
  · have := seg_of (P := markL ++ beOf a0 8 ++ beOf a1 8) (S := beOf a2 8) (R := beOf a3 8 ++ (beOf a4 8 ++ (beOf (csum (nats (encTo a0 a1 a2 a3 a4 5))) 4 ++ List.replicate 16 0))) (p := 20) (s := 8) (by simp only [List.length_append, hb]; rfl) (hb _ _)
    simp only [List.append_assoc] at this ⊢
    rw [← encTo_five] at *
    rw [show 4 + 8 * 2 = 20 from rfl, this]; exact hn _ h2
  · have := seg_of (P := markL ++ beOf a0 8 ++ beOf a1 8 ++ beOf a2 8) (S := beOf a3 8) (R := beOf a4 8 ++ (beOf (csum (nats (encTo a0 a1 a2 a3 a4 5))) 4 ++ List.replicate 16 0)) (p := 28) (s := 8) (by simp only [List.length_append, hb]; rfl) (hb _ _)
    simp only [List.append_assoc] at this ⊢
    rw [← encTo_five] at *
    rw [show 4 + 8 * 3 = 28 from rfl, this]; exact hn _ h3
  · have := seg_of (P := markL ++ beOf a0 8 ++ beOf a1 8 ++ beOf a2 8 ++ beOf a3 8) (S := beOf a4 8) (R := beOf (csum (nats (encTo a0 a1 a2 a3 a4 5))) 4 ++ List.replicate 16 0) (p := 36) (s := 8) (by simp only [List.length_append, hb]; rfl) (hb _ _)
    simp only [List.append_assoc] at this ⊢
    rw [← encTo_five] at *
    rw [show 4 + 8 * 4 = 36 from rfl, this]; exact hn _ h4
theorem dec_sect (h0 : a0 ≤ 1099511627776) (h1 : a1 ≤ 1099511627776) (h2 : a2 ≤ 1099511627776) (h3 : a3 ≤ 1099511627776) (h4 : a4 ≤ 1099511627776) : dec (sect a0 a1 a2 a3 a4) = ((a0 : Int), (a1 : Int), (a2 : Int), (a3 : Int), (a4 : Int), 0) := by
  have hs := sect_num h0 h1 h2 h3 h4
  have hc : csum (nats (encTo a0 a1 a2 a3 a4 5)) < 2 ^ (8 * 4) := cext_lt (by decide) (octs_lt (encTo_octs 5))
  have hbig : bigAt (sect a0 a1 a2 a3 a4) = false := big_no (fun k hk => by
    rw [hs k hk]
    rcases (by omega : k = 0 ∨ k = 1 ∨ k = 2 ∨ k = 3 ∨ k = 4) with rfl | rfl | rfl | rfl | rfl <;> assumption)
  have ht : ((List.replicate 16 (0 : Int)).any fun x => decide (x ≠ 0)) = false := by decide
  unfold dec
  rw [if_pos sect_length, if_pos sect_mark, sect_sum, sect_head, num_beOf hc, if_pos rfl, sect_tail, ht, if_neg (by decide), hbig, if_neg (by decide), hs 0 (by omega), hs 1 (by omega), hs 2 (by omega), hs 3 (by omega), hs 4 (by omega)]
  rfl

end Go.Proofs.Ytiiphlfgdkjjiaa.Q
