/- super.Store and super.Load, plainly; conditions: the lists are no longer than a machine holds. -/
import Derived.Laws.BitsLemmas
import Derived.Test.YtiiphlfgdkjjiaaZDisksDTellsPlain
import Derived.Test.YtiiphlfgdkjjiaaZDisksSPlain
import Derived.Test.YtiiphlfgdkjjiaaZDisksQ15
import Derived.Test.YtiiphlfgdkjjiaaZDisksQ18
namespace Go.Proofs.Ytiiphlfgdkjjiaa.Q
open Go.RowKit Go.Proofs.YtiiphlfgdkjjiaaW.PrintWords Go.Proofs.YtiiphlfgdkjjiaaW.PrintLast Go.Proofs.YtiiphlfgdkjjiaaW.PrintMore
open Go.Proofs.Ytiiphlfgdkjjiaa.CrcP
set_option linter.unusedVariables false
set_option linter.unusedSimpArgs false

theorem i64_and1 (n : Int) : Go.bits .and .i64 n 1 = n % 2 := by
  have h1 : (BitVec.ofInt 64 1).toNat = 2 ^ 1 - 1 := by decide
  have key : (BitVec.ofInt 64 n &&& BitVec.ofInt 64 1).toNat = (n % ((2 ^ 64 : Nat) : Int)).toNat % 2 ^ 1 := by
    rw [BitVec.toNat_and, BitVec.toNat_ofInt, h1, Nat.and_two_pow_sub_one_eq_mod]
  show IntKind.i64.wrap ((BitVec.ofInt 64 n &&& BitVec.ofInt 64 1).toNat : Nat) = n % 2
  rw [key, IntKind.wrap_i64]
  omega
theorem okS_of' {L : List (List Int)} {l1 : List Wr} (h1 : 1 ≤ L.length) (h2 : L.length ≤ 1024) (h3 : l1.length ≤ 4096) (h4 : ∀ b ∈ L, b.length = 64) (h5 : ∀ x ∈ l1, 0 ≤ x.f0 ∧ x.f0 < (L.length : Int) ∧ x.f1.length = 64) : okS L l1 = true := by
  simp only [okS, Bool.and_eq_true, decide_eq_true_eq, List.all_eq_true]
  exact ⟨⟨⟨⟨h1, h2⟩, h3⟩, h4⟩, fun x hx => ⟨⟨(h5 x hx).1, (h5 x hx).2.1⟩, (h5 x hx).2.2⟩⟩
theorem asked2_f {l0 : List (List Int)} {l1 : List Wr} {k : Nat} (h0 : l0.length < 4611686018427387904) (h1 : l1.length < 4611686018427387904) (hk : l0.length + l1.length + 3 ≤ k) :
    super_asked.f k l0 l1 = some (if okS l0 l1 = true then (if l0.length < 2 then 41 else 0) else 9) := by
  unfold super_asked.f
  rw [check_f h0 h1 hk, Option.bind_some]
  by_cases c1 : okS l0 l1 = true
  · rw [if_pos c1, if_pos rfl, if_pos c1]
    by_cases c2 : l0.length < 2
    · rw [if_pos (by omega), if_pos c2]
    · rw [if_neg (by omega), if_neg c2]
  · rw [if_neg c1, if_neg (by decide), if_neg c1]
/-- The sector of a block of any numbers. -/
def secti (a0 a1 a2 a3 a4 : Int) : List Int := sect a0.toNat a1.toNat a2.toNat a3.toNat a4.toNat
theorem secti_len {a0 a1 a2 a3 a4 : Int} : (secti a0 a1 a2 a3 a4).length = 64 := sect_length
theorem padded_full {d : List Int} (h : d.length = 64) : padded d = d := by unfold padded; rw [h]; exact List.append_nil _
/-- Where a block's sector is written, and what. -/
def blkW (a0 a1 a2 a3 a4 : Int) : Wr := ⟨a0 % 2, secti a0 a1 a2 a3 a4⟩
/-- What a store answers. -/
def stores (l0 : List (List Int)) (l1 : List Wr) (a0 a1 a2 a3 a4 : Int) : List (List Int) × List Wr × Int :=
  if okS l0 l1 = true then (if l0.length < 2 then ([], [], 41) else (if blkOk a0 a1 a2 a3 a4 = true then (if l1.length ≥ 4096 then ([], [], 51) else (landed (fun _ => 64) (l1 ++ [blkW a0 a1 a2 a3 a4]) l0 (l1.length + 1), [], 0)) else ([], [], 4))) else ([], [], 9)
theorem okS_more {l0 : List (List Int)} {l1 : List Wr} {a0 a1 a2 a3 a4 : Int} (h : okS l0 l1 = true) (h2 : ¬ l0.length < 2) (h3 : ¬ l1.length ≥ 4096) : okS l0 (l1 ++ [blkW a0 a1 a2 a3 a4]) = true := by
  obtain ⟨o1, o2, o3, o4, o5⟩ := okS_out h
  refine okS_of' o1 o2 (by rw [List.length_append, List.length_singleton]; omega) o4 (fun x hx => ?_)
  rcases List.mem_append.1 hx with h_ | h_
  · exact o5 x h_
  · rw [List.mem_singleton.1 h_]
    exact ⟨by show 0 ≤ a0 % 2; omega, by show a0 % 2 < _; omega, secti_len⟩
theorem store_f {l0 : List (List Int)} {l1 : List Wr} {a0 a1 a2 a3 a4 : Int} {k : Nat} (h0 : l0.length < 4611686018427387904) (h1 : l1.length < 4611686018427387900) (hk : l0.length + l1.length + 10 ≤ k) :
    super_Store.f k l0 l1 a0 a1 a2 a3 a4 = some (stores l0 l1 a0 a1 a2 a3 a4) := by
  unfold super_Store.f stores
  rw [asked2_f h0 (by omega) (by omega), Option.bind_some]
  by_cases c1 : okS l0 l1 = true
  · rw [if_pos c1, if_pos c1]
    by_cases c2 : l0.length < 2
    · rw [if_pos c2, if_neg (by decide), if_pos c2]
    · rw [if_neg c2, if_pos rfl, if_neg c2]
      unfold super_Encode.f
      rw [Option.bind_some]
      by_cases c3 : blkOk a0 a1 a2 a3 a4 = true
      · rw [if_pos c3, if_pos rfl, if_pos c3, i64_and1]
        have hput := dput_f (l0 := l0) (l1 := l1) (sec := a0 % 2) (d := secti a0 a1 a2 a3 a4) (k := k) h0 (by omega) (by omega)
        unfold puts at hput
        rw [if_pos c1, if_pos ⟨by omega, by omega⟩, if_neg (by rw [secti_len]; omega)] at hput
        by_cases c4 : l1.length ≥ 4096
        · rw [if_pos (by omega)] at hput
          rw [if_pos c4]
          show (disk_Put.f k l0 l1 (a0 % 2) (secti a0 a1 a2 a3 a4)).bind _ = _
          rw [hput]
          rfl
        · rw [if_neg (by omega), padded_full secti_len] at hput
          rw [if_neg c4]
          show (disk_Put.f k l0 l1 (a0 % 2) (secti a0 a1 a2 a3 a4)).bind _ = _
          have e1 : disk_Put.f k l0 l1 (a0 % 2) (secti a0 a1 a2 a3 a4) = some (l0, l1 ++ [blkW a0 a1 a2 a3 a4], 0) := hput
          rw [e1, Option.bind_some, if_pos rfl]
          have hfl := dflush_f (l0 := l0) (l1 := l1 ++ [blkW a0 a1 a2 a3 a4]) (k := k) h0 (by rw [List.length_append, List.length_singleton]; omega) (by rw [List.length_append, List.length_singleton]; omega)
          rw [if_pos (okS_more c1 c2 c4), List.length_append, List.length_singleton] at hfl
          rw [hfl]
          rfl
      · rw [if_neg c3, if_neg (by decide), if_neg c3]
  · rw [if_neg c1, if_neg (by decide), if_neg c1]
/-- What a load answers. -/
def loads (l0 : List (List Int)) (l1 : List Wr) : St :=
  if okS l0 l1 = true then (if l0.length < 2 then (0, 0, 0, 0, 0, 0, 41) else pick (dec (got l0 l1 0)) (dec (got l0 l1 1))) else (0, 0, 0, 0, 0, 0, 9)
theorem load_f {l0 : List (List Int)} {l1 : List Wr} {k : Nat} (h0 : l0.length < 4611686018427387904) (h1 : l1.length < 4611686018427387904) (hk : l0.length + l1.length + 3 ≤ k)
    (ho : ∀ q : Int, octs (got l0 l1 q) = true) : super_Load.f k l0 l1 = some (loads l0 l1) := by
  unfold super_Load.f loads
  rw [asked2_f h0 h1 hk, Option.bind_some]
  by_cases c1 : okS l0 l1 = true
  · rw [if_pos c1, if_pos c1]
    by_cases c2 : l0.length < 2
    · rw [if_pos c2, if_neg (by decide), if_pos c2]
    · rw [if_neg c2, if_pos rfl, if_neg c2, dget_f h0 h1 hk, dget_f h0 h1 hk, Option.bind_some, Option.bind_some]
      unfold gets
      rw [if_pos c1, if_pos ⟨by omega, by omega⟩, if_pos c1, if_pos ⟨by omega, by omega⟩]
      unfold super_Pick.f super_Decode.f
      rw [if_pos (ho 0), if_pos (ho 1)]
      rfl
  · rw [if_neg c1, if_neg (by decide), if_neg c1]
end Go.Proofs.Ytiiphlfgdkjjiaa.Q
