/- What the laws of chunks need, plainly: what a cut tells of each piece; SameBytes; no condition. -/
import Derived.Test.YtabkdakikfhgmaaZSizesCut
import Derived.Test.YtabkdakikfhgmaaZSizesQ17
namespace Go.Proofs.Ytabkdakikfhgmaa.Q
open Go.RowKit Go.Proofs.YtabkdakikfhgmaaW.PrintWords Go.Proofs.YtabkdakikfhgmaaW.PrintLast Go.Proofs.YtabkdakikfhgmaaW.PrintMore
open Go.Proofs.Ytabkdakikfhgmaa.CrcP
set_option linter.unusedVariables false
set_option linter.unusedSimpArgs false

theorem wrapi {i : Int} (h0 : -9223372036854775808 ≤ i) (h1 : i ≤ 9223372036854775807) : wrap64 i = i := by unfold wrap64; omega
theorem wrap_k (i : Nat) (hi : i < 4611686018427387904) : wrap64 ((i : Int) + 1) = ((i + 1 : Nat) : Int) := by
  rw [wrapi (by omega) (by omega)]; omega
theorem sameBytes_l0 {a b : List Int} (hl : a.length = b.length) (hf : a.length < 4611686018427387904) : ∀ (m k i : Nat), i + m = a.length → m + 1 ≤ k → transeptplain_SameBytes.l0 k a b (i : Int) = some (decide (a.drop i = b.drop i)) := by
  intro m
  induction m with
  | zero =>
    intro k i hi hk
    obtain ⟨k, rfl⟩ : ∃ j, k = j + 1 := ⟨k - 1, by omega⟩
    rw [transeptplain_SameBytes.l0, if_neg (by omega), List.drop_eq_nil_of_le (by omega), List.drop_eq_nil_of_le (by omega)]
    rfl
  | succ m ih =>
    intro k i hi hk
    obtain ⟨k, rfl⟩ : ∃ j, k = j + 1 := ⟨k - 1, by omega⟩
    have h1 : i < a.length := by omega
    have h2 : i < b.length := by omega
    have e1 : rd a (i : Int) = a[i] := by rw [rd, Int.toNat_natCast, List.getD_eq_getElem?_getD, List.getElem?_eq_getElem h1]; rfl
    have e2 : rd b (i : Int) = b[i] := by rw [rd, Int.toNat_natCast, List.getD_eq_getElem?_getD, List.getElem?_eq_getElem h2]; rfl
    rw [transeptplain_SameBytes.l0, if_pos (by omega), if_pos (by omega), if_pos (by omega), e1, e2, wrap_k i (by omega), List.drop_eq_getElem_cons h1, List.drop_eq_getElem_cons h2]
    by_cases h : a[i] = b[i]
    · rw [if_pos h, ih k (i + 1) (by omega) (by omega)]
      congr 1
      rw [decide_eq_decide, List.cons.injEq]
      exact ⟨fun e => ⟨h, e⟩, fun e => e.2⟩
    · rw [if_neg h, decide_eq_false (fun e => h (List.cons.inj e).1)]
theorem same_f {a b : List Int} {k : Nat} (hf : a.length < 4611686018427387904) (hk : a.length + 1 ≤ k) : transeptplain_SameBytes.f k a b = some (decide (a = b)) := by
  unfold transeptplain_SameBytes.f
  by_cases h : a.length = b.length
  · rw [if_pos (by omega)]
    have := sameBytes_l0 h hf a.length k 0 (by omega) hk
    rw [List.drop_zero, List.drop_zero] at this
    exact this
  · rw [if_neg (by omega), decide_eq_false (fun e => h (by rw [e]))]

theorem us_take (m : Nat) : ∀ N j, j ≤ N → (us m N).take j = us m j := by
  intro N j h
  unfold us
  rw [← List.map_take, List.take_range, Nat.min_eq_left h]
theorem us_getD (m N j : Nat) (h : j < N) : (us m N).getD j 0 = j * m := by
  rw [List.getD_eq_getElem?_getD, List.getElem?_eq_getElem (by rw [us_length]; exact h)]
  simp [us]
theorem offs_us (m len : Nat) : ∀ j, offs m len (us m j) = min (j * m) len
  | 0 => by simp [offs, us]
  | j + 1 => by
    rw [us_succ, offs_snoc, offs_us m len j, Nat.add_mul, Nat.one_mul]
    unfold plen
    omega
/-- What a cut's rows tell: each piece's place and length. -/
structure Cutty (l0 : List Int) (s : Int) (a1 : Int) (rows : List S41) (at_ p : Nat → Nat) : Prop where
  zero : at_ 0 = 0
  all : at_ rows.length = l0.length
  pos : 0 < rows.length
  max : l0.length ≤ 1048576
  rmax : rows.length ≤ 1048576
  row : ∀ j, j < rows.length → rd_T41 rows (j : Int) = ⟨(l0.length : Int), s, (at_ j : Int), (l0.drop (at_ j)).take (p j)⟩
  next : ∀ j, j < rows.length → at_ (j + 1) = at_ j + p j
  room : ∀ j, j < rows.length → at_ j + p j ≤ l0.length
  full : ∀ j, j + 1 < rows.length → (p j : Int) = a1
  most : ∀ j, j < rows.length → (p j : Int) ≤ a1
  none : ∀ j, j < rows.length → p j = 0 → l0.length = 0
  one : l0.length = 0 → rows.length = 1
theorem cut_good (l0 : List Int) (a1 : Int) (ho : octs l0 = true) : ∃ s rows e, crc_Sum.f l0 = some s ∧ chunks_Cut.f l0 a1 = some (rows, e) ∧ ((e ≠ 0 ∧ rows = []) ∨ (e = 0 ∧ ∃ at_ p, Cutty l0 s a1 rows at_ p)) := by
  have hs : crc_Sum.f l0 = some ((csum (nats l0) : Nat) : Int) := by unfold crc_Sum.f; rw [if_pos ho]
  obtain ⟨s, hs⟩ : ∃ s, crc_Sum.f l0 = some s := ⟨_, hs⟩
  unfold chunks_Cut.f
  by_cases c1 : (l0.length : Int) > 1048576
  · exact ⟨s, [], 5, hs, by rw [if_pos c1], .inl ⟨by decide, rfl⟩⟩
  by_cases c2 : a1 < 1
  · exact ⟨s, [], 4, hs, by rw [if_neg c1, if_pos c2], .inl ⟨by decide, rfl⟩⟩
  by_cases c3 : a1 > 4096
  · exact ⟨s, [], 4, hs, by rw [if_neg c1, if_neg c2, if_pos c3], .inl ⟨by decide, rfl⟩⟩
  by_cases c4 : l0.length = 0
  · refine ⟨s, [⟨0, s, 0, []⟩], 0, hs, by rw [if_neg c1, if_neg c2, if_neg c3, hs, Option.bind_some, if_pos c4], .inr ⟨rfl, fun _ => 0, fun _ => 0, ?_⟩⟩
    have e : l0 = [] := List.length_eq_zero_iff.1 c4
    subst e
    exact ⟨rfl, rfl, by simp, by simp, by simp, fun j hj => by obtain rfl : j = 0 := (by simpa using hj); rfl, fun _ _ => rfl, fun _ _ => by simp, fun j hj => absurd hj (by simp), fun _ _ => by omega, fun _ _ _ => rfl, fun _ => rfl⟩
  obtain ⟨m, rfl⟩ := Int.eq_ofNat_of_zero_le (show 0 ≤ a1 by omega)
  have hm1 : 1 ≤ m := by omega
  refine ⟨s, accR l0 m s (us m (cnt l0.length m)), 0, hs, by rw [if_neg c1, if_neg c2, if_neg c3, hs, Option.bind_some, if_neg c4, Int.toNat_natCast], .inr ⟨rfl, fun j => min (j * m) l0.length, fun j => plen m l0.length (j * m), ?_⟩⟩
  have hL : (accR l0 m s (us m (cnt l0.length m))).length = cnt l0.length m := by rw [accR_length, us_length]
  have hge := cnt_ge l0.length m hm1
  have hgt := cnt_gt l0.length m hm1
  have hle := cnt_le l0.length m hm1
  have h0 : 0 < cnt l0.length m := by
    rcases Nat.eq_zero_or_pos (cnt l0.length m) with h | h
    · rw [h] at hge; omega
    · exact h
  have hj : ∀ j, j < cnt l0.length m → min (j * m) l0.length = j * m := fun j h => Nat.min_eq_left (by have := hgt j h; omega)
  refine ⟨by simp, by rw [hL]; omega, by rw [hL]; exact h0, by omega, by omega, ?_, ?_, ?_, ?_, ?_, ?_, fun h => absurd h c4⟩ <;> rw [hL]
  · intro j h
    rw [hj j h]
    unfold rd_T41 accR
    rw [Int.toNat_natCast, us_length, List.getD_eq_getElem?_getD, List.getElem?_map, List.getElem?_range h]
    simp only [Option.map_some, Option.getD_some]
    rw [us_take m _ j (by omega), offs_us, hj j h, us_getD m _ j h]
    congr 1
    rw [List.take_eq_take_iff, List.length_drop]
    unfold plen
    omega
  · intro j h
    show min ((j + 1) * m) l0.length = min (j * m) l0.length + plen m l0.length (j * m)
    rw [Nat.add_mul, Nat.one_mul]
    unfold plen
    omega
  · intro j h
    have := hgt j h
    rw [hj j h]
    unfold plen
    omega
  · intro j h
    have := hgt (j + 1) h
    rw [Nat.add_mul, Nat.one_mul] at this
    show ((plen m l0.length (j * m) : Nat) : Int) = m
    unfold plen
    omega
  · intro j h
    show ((plen m l0.length (j * m) : Nat) : Int) ≤ m
    unfold plen
    omega
  · intro j h
    have := hgt j h
    show plen m l0.length (j * m) = 0 → _
    unfold plen
    omega
end Go.Proofs.Ytabkdakikfhgmaa.Q
