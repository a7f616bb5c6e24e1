/- What octets.Get answers, plainly: the number of at most eight octets; no condition but that there are one to eight. -/
import Derived.Test.YtiiphlfgdkjjiaaZDisksSEnc
import Derived.Test.YtiiphlfgdkjjiaaZDisksQ8
namespace Go.Proofs.Ytiiphlfgdkjjiaa.Q
open Go.RowKit Go.Proofs.YtiiphlfgdkjjiaaW.PrintWords Go.Proofs.YtiiphlfgdkjjiaaW.PrintLast Go.Proofs.YtiiphlfgdkjjiaaW.PrintMore
open Go.Proofs.Ytiiphlfgdkjjiaa.CrcP
set_option linter.unusedVariables false
set_option linter.unusedSimpArgs false

/-- The number of octets, the highest first. -/
def num (l : List Int) : Nat := l.foldl (fun n x => n * 256 + x.toNat) 0
theorem num_snoc (l : List Int) (x : Int) : num (l ++ [x]) = num l * 256 + x.toNat := by unfold num; rw [List.foldl_append]; rfl
theorem octs_get {l : List Int} (h : octs l = true) {x : Int} (hx : x ∈ l) : 0 ≤ x ∧ x < 256 := by
  have := List.all_eq_true.1 h x hx
  simpa using this
theorem octs_take {l : List Int} (h : octs l = true) (n : Nat) : octs (l.take n) = true := List.all_eq_true.2 fun x hx => List.all_eq_true.1 h x (List.mem_of_mem_take hx)
theorem octs_drop {l : List Int} (h : octs l = true) (n : Nat) : octs (l.drop n) = true := List.all_eq_true.2 fun x hx => List.all_eq_true.1 h x (List.mem_of_mem_drop hx)
theorem num_lt {l : List Int} (h : octs l = true) : ∀ n, num (l.take n) < 256 ^ n
  | 0 => by rw [List.take_zero]; decide
  | n + 1 => by
    have ih := num_lt h n
    rcases Nat.lt_or_ge n l.length with hn | hn
    · rw [List.take_succ_eq_append_getElem hn, num_snoc, Nat.pow_succ]
      have := octs_get h (List.getElem_mem hn)
      omega
    · rw [List.take_of_length_le (by omega)]
      rw [List.take_of_length_le hn] at ih
      exact Nat.lt_of_lt_of_le ih (Nat.pow_le_pow_right (by decide) (by omega))
theorem wrapS {i : Nat} (h : i < 4611686018427387904) : wrap64 ((i : Int) + 1) = ((i + 1 : Nat) : Int) := by unfold wrap64; omega
theorem wrapU {x : Int} (h0 : 0 ≤ x) (h1 : x < 18446744073709551616) : IntKind.u64.wrap x = x := by
  simp [IntKind.wrap, IntKind.bits, IntKind.signed]; omega
theorem or_byte (a b : Nat) (hb : b < 256) : (a * 256) ||| b = a * 256 + b := by
  have := Nat.shiftLeft_add_eq_or_of_lt (b := b) (i := 8) (by simpa using hb) a
  rw [Nat.shiftLeft_eq] at this
  simpa using this.symm
theorem get_l0 {l : List Int} (ho : octs l = true) (h8 : l.length ≤ 8) : ∀ (m k i : Nat), i + m = l.length → m + 1 ≤ k → octets_Get.l0 k ((num (l.take i) : Nat) : Int) l (l.length : Int) (i : Int) = some (((num l : Nat) : Int), 0) := by
  intro m
  induction m with
  | zero =>
    intro k i hi hk
    obtain ⟨k, rfl⟩ : ∃ j, k = j + 1 := ⟨k - 1, by omega⟩
    rw [octets_Get.l0, if_neg (by omega), List.take_of_length_le (by omega)]
  | succ m ih =>
    intro k i hi hk
    obtain ⟨k, rfl⟩ : ∃ j, k = j + 1 := ⟨k - 1, by omega⟩
    have hlt : i < l.length := by omega
    have hx := octs_get ho (List.getElem_mem hlt)
    obtain ⟨x, hxe⟩ := Int.eq_ofNat_of_zero_le hx.1
    have hb := num_lt ho i
    have hb2 : num (l.take i) < 72057594037927936 := Nat.lt_of_lt_of_le hb (by
      have := Nat.pow_le_pow_right (n := 256) (by decide) (show i ≤ 7 by omega)
      simpa using this)
    have hrd : rd l (i : Int) = (x : Int) := by rw [rd, Int.toNat_natCast, List.getD_eq_getElem?_getD, List.getElem?_eq_getElem hlt]; exact hxe
    have hstep : bits .or .u64 (IntKind.u64.wrap (((num (l.take i) : Nat) : Int) * 256)) (IntKind.u64.wrap (x : Int)) = ((num (l.take (i + 1)) : Nat) : Int) := by
      rw [wrapU (by omega) (by omega), wrapU (by omega) (by omega)]
      have e : ((num (l.take i) : Nat) : Int) * 256 = ((num (l.take i) * 256 : Nat) : Int) := by omega
      rw [e, u64_or_nat _ _ (by omega) (by omega), or_byte _ _ (by omega), List.take_succ_eq_append_getElem hlt, num_snoc, hxe, Int.toNat_natCast]
    rw [octets_Get.l0, if_pos (by omega), if_pos (by omega), if_pos (by omega), hrd, hstep, wrapS (by omega)]
    exact ih k (i + 1) (by omega) (by omega)
theorem get_f {l : List Int} (ho : octs l = true) (h1 : 1 ≤ l.length) (h8 : l.length ≤ 8) : octets_Get.f 20 l = some (((num l : Nat) : Int), 0) := by
  unfold octets_Get.f
  rw [if_neg (by omega), octets_Get.j0, decide_eq_false (by omega), if_neg (by decide)]
  have := get_l0 ho h8 l.length 19 0 (by omega) (by omega)
  rwa [List.take_zero] at this
end Go.Proofs.Ytiiphlfgdkjjiaa.Q
