/- DiskTorn is true of every number, sector, pair of texts and cut; no condition. -/
import Derived.Test.YtiiphlfgdkjjiaaQ18
import Derived.Test.YtiiphlfgdkjjiaaDPlain
namespace Go.Proofs.Ytiiphlfgdkjjiaa.Pure
open Go.RowKit Go.Proofs.Ytiiphlfgdkjjiaa.Q Go.Proofs.YtiiphlfgdkjjiaaW.PrintWords Go.Proofs.YtiiphlfgdkjjiaaW.PrintLast Go.Proofs.YtiiphlfgdkjjiaaW.PrintMore
set_option linter.unusedVariables false
set_option linter.unusedSimpArgs false

theorem rd_at {xs : List Int} {i : Nat} (h : i < xs.length) : rd xs (i : Int) = xs[i] := by
  rw [rd, Int.toNat_natCast, List.getD_eq_getElem?_getD, List.getElem?_eq_getElem h]; rfl
theorem padded_length {x : List Int} (h : x.length ≤ 64) : (padded x).length = 64 := by
  rw [padded, List.length_append, List.length_replicate]; omega
theorem padded_at {x : List Int} (h : x.length ≤ 64) {i : Nat} (hi : i < 64) : rd (padded x) (i : Int) = if i < x.length then rd x (i : Int) else 0 := by
  rw [rd_at (by rw [padded_length h]; exact hi)]
  by_cases h1 : i < x.length
  · rw [if_pos h1, rd_at h1]
    exact List.getElem_append_left h1
  · rw [if_neg h1]
    simp only [padded]
    rw [List.getElem_append_right (by omega), List.getElem_replicate]
/-- What the cell at 'at' of sector j is. -/
def Cell (L : List (List Int)) (x2 x3 : List Int) (m c j : Nat) : Prop := j < L.length ∧ (rd_L2 L (j : Int)).length = 64 ∧ ∀ i : Nat, i < 64 → (j ≠ m → rd (rd_L2 L (j : Int)) (i : Int) = 0) ∧
  (j = m → i < c → rd (rd_L2 L (j : Int)) (i : Int) = if i < x3.length then rd x3 (i : Int) else 0) ∧ (j = m → c ≤ i → rd (rd_L2 L (j : Int)) (i : Int) = if i < x2.length then rd x2 (i : Int) else 0)
theorem loop1 {L : List (List Int)} {x2 x3 : List Int} {n m c j K : Nat} (hc : Cell L x2 x3 m c j) (hn : ∀ k', K ≤ k' → transeptlaw04_DiskTorn.l0 k' (n : Int) (m : Int) x2 x3 (c : Int) (wrap64 ((j : Int) + 1)) L [] = some true) :
    ∀ (p k i : Nat), i + p = 64 → 4 * p + K + 1 ≤ k → transeptlaw04_DiskTorn.l1 k (n : Int) (m : Int) x2 x3 (c : Int) (j : Int) (i : Int) L [] = some true := by
  obtain ⟨hj, hl, hv⟩ := hc
  intro p
  induction p with
  | zero =>
    intro k i hi hk
    obtain ⟨k, rfl⟩ : ∃ q, k = q + 1 := ⟨k - 1, by omega⟩
    rw [transeptlaw04_DiskTorn.l1, if_neg (by omega)]
    exact hn k (by omega)
  | succ p ih =>
    intro k i hi hk
    obtain ⟨k, rfl⟩ : ∃ q, k = q + 4 := ⟨k - 4, by omega⟩
    obtain ⟨h1, h2, h3⟩ := hv i (by omega)
    have hih := ih k (i + 1) (by omega) (by omega)
    rw [show ((i + 1 : Nat) : Int) = wrap64 ((i : Int) + 1) from (wrap_s i (by omega)).symm] at hih
    have a1 : (0 : Int) ≤ (j : Int) := by omega
    have a2 : (j : Int) < (L.length : Int) := by omega
    have a3 : (0 : Int) ≤ (i : Int) := by omega
    have a4 : (i : Int) < ((rd_L2 L (j : Int)).length : Int) := by omega
    have five : ∀ x : Int, rd (rd_L2 L (j : Int)) (i : Int) = x → transeptlaw04_DiskTorn.j5 (k + 1) (n : Int) (m : Int) x2 x3 (c : Int) (j : Int) (i : Int) x false L [] = some true := fun x hx => by
      rw [transeptlaw04_DiskTorn.j5, if_neg (by simp), if_pos a1, if_pos a2, if_pos a3, if_pos a4, if_pos hx]
      exact hih
    rw [transeptlaw04_DiskTorn.l1, if_pos (by omega)]
    by_cases hm : j = m
    · subst hm
      rw [if_pos rfl]
      by_cases hic : i < c
      · rw [if_pos (by omega)]
        have hv2 := h2 rfl hic
        by_cases hl3 : i < x3.length
        · rw [if_pos hl3] at hv2
          rw [decide_eq_true (by omega), transeptlaw04_DiskTorn.j3, if_pos rfl, if_pos a3, if_pos (by omega), transeptlaw04_DiskTorn.j4, if_pos rfl, if_neg (by omega)]
          exact five _ hv2
        · rw [if_neg hl3] at hv2
          rw [decide_eq_false (by omega), transeptlaw04_DiskTorn.j3, if_neg (by simp), transeptlaw04_DiskTorn.j4, if_pos rfl, if_neg (by omega)]
          exact five _ hv2
      · rw [if_neg (by omega)]
        have hv3 := h3 rfl (by omega)
        rw [transeptlaw04_DiskTorn.j3, if_neg (by simp), transeptlaw04_DiskTorn.j4, if_pos rfl, if_pos (by omega)]
        by_cases hl2 : i < x2.length
        · rw [if_pos hl2] at hv3
          rw [decide_eq_true (by omega), transeptlaw04_DiskTorn.j5, if_pos rfl, if_pos a3, if_pos (by omega), if_pos a1, if_pos a2, if_pos a4, if_pos hv3]
          exact hih
        · rw [if_neg hl2] at hv3
          rw [decide_eq_false (by omega)]
          exact five _ hv3
    · rw [if_neg (by omega), transeptlaw04_DiskTorn.j3, if_neg (by simp), transeptlaw04_DiskTorn.j4, if_neg (by omega)]
      exact five _ (h1 hm)
theorem loop0 {L : List (List Int)} {x2 x3 : List Int} {n m c : Nat} (hn : n ≤ 20) (hc : ∀ j, j < n → Cell L x2 x3 m c j) : ∀ (p k j : Nat), j + p = n → 300 * p + 1 ≤ k → transeptlaw04_DiskTorn.l0 k (n : Int) (m : Int) x2 x3 (c : Int) (j : Int) L [] = some true := by
  intro p
  induction p with
  | zero =>
    intro k j hj hk
    obtain ⟨k, rfl⟩ : ∃ q, k = q + 1 := ⟨k - 1, by omega⟩
    rw [transeptlaw04_DiskTorn.l0, if_neg (by omega)]
  | succ p ih =>
    intro k j hj hk
    obtain ⟨k, rfl⟩ : ∃ q, k = q + 1 := ⟨k - 1, by omega⟩
    rw [transeptlaw04_DiskTorn.l0, if_pos (by omega)]
    refine loop1 (K := 300 * p + 1) (hc j (by omega)) (fun k' hk' => ?_) 64 k 0 (by omega) (by omega)
    rw [wrap_s j (by omega)]
    exact ih k' (j + 1) (by omega) hk'
theorem zeros64_length : zeros64.length = 64 := by simp [zeros64]
theorem okS_of {L : List (List Int)} {l1 : List Wr} (h1 : 1 ≤ L.length) (h2 : L.length ≤ 1024) (h3 : l1.length ≤ 4096) (h4 : ∀ b ∈ L, b.length = 64) (h5 : ∀ x ∈ l1, 0 ≤ x.f0 ∧ x.f0 < (L.length : Int) ∧ x.f1.length = 64) : okS L l1 = true := by
  simp only [okS, Bool.and_eq_true, decide_eq_true_eq, List.all_eq_true]
  exact ⟨⟨⟨⟨h1, h2⟩, h3⟩, h4⟩, fun x hx => ⟨⟨(h5 x hx).1, (h5 x hx).2.1⟩, (h5 x hx).2.2⟩⟩
theorem put_f {L : List (List Int)} {m k : Nat} {x : List Int} (hL : okS L [] = true) (hm : m < L.length) (hx : x.length ≤ 64) (hk : L.length + 3 ≤ k) : disk_Put.f k L [] (m : Int) x = some (L, [⟨(m : Int), padded x⟩], 0) := by
  have := okS_out hL
  unfold disk_Put.f
  rw [asked_f (k := k) (by omega) (by show 0 < _; decide) (by simpa using hk), if_pos hL, if_pos ⟨by omega, by omega⟩, Option.bind_some, if_pos rfl, if_neg (by omega), if_neg (by show ¬ ((0 : Nat) : Int) ≥ 4096; omega), if_pos hL]
  rfl
theorem ok_one {L : List (List Int)} {m : Nat} {x : List Int} (hL : okS L [] = true) (hm : m < L.length) (hx : x.length ≤ 64) : okS L [⟨(m : Int), padded x⟩] = true := by
  obtain ⟨h1, h2, h3, h4, _⟩ := okS_out hL
  refine okS_of h1 h2 (by show 1 ≤ 4096; decide) h4 (fun y hy => ?_)
  rw [List.mem_singleton.1 hy]
  exact ⟨by show (0 : Int) ≤ (m : Int); omega, by show (m : Int) < _; omega, padded_length hx⟩
theorem landed_one {size : Nat → Nat} {L : List (List Int)} {m : Nat} {x : List Int} : landed size [(⟨(m : Int), x⟩ : Wr)] L 1 = L.set m (x.take (size 0) ++ (rd_L2 L (m : Int)).drop (size 0)) := by
  rw [landed_at (by show 0 < 1; decide)]
  rfl
theorem mxmn (a : Int) : mx 0 (mn a 64) = ((csize [true] 0 a 0 : Nat) : Int) := by
  have h : csize [true] 0 a 0 = (if 64 < (if a < 0 then 0 else a) then 64 else (if a < 0 then 0 else a)).toNat := by unfold csize; simp
  rw [h]
  unfold mx mn
  by_cases h1 : a < 0
  · rw [if_pos h1, if_neg (show ¬ (64 : Int) < a by omega), if_neg (show ¬ (0 : Int) < a by omega), if_neg (show ¬ (64 : Int) < 0 by decide)]; rfl
  · rw [if_neg h1]
    by_cases h2 : 64 < a
    · rw [if_pos h2, if_pos (by omega)]; rfl
    · rw [if_neg h2]
      by_cases h3 : 0 < a
      · rw [if_pos h3]; omega
      · rw [if_neg h3]; omega
theorem wz : wrap64 (wrap64 (wrap64 (wrap64 (0 + 0) + 0) + 0) + 0) = 0 := by
  have h : wrap64 0 = 0 := wrapi (i := 0) (by omega) (by omega)
  simp only [Int.add_zero, h]
theorem DiskTorn : transeptlaw04_DiskTorn.Pure := by
  intro a0 a1 l2 l3 a4 w0 w1 _ b2 _ _ b3 _ w4
  have q0 := wf_i64 w0
  have q1 := wf_i64 w1
  refine ⟨7000, ?_⟩
  unfold transeptlaw04_DiskTorn.f
  rw [show transeptlaw04_alive.f = some true from rfl, Option.bind_some, if_pos rfl]
  have t1 : -20 < Int.tmod a0 20 ∧ Int.tmod a0 20 < 20 := ⟨Int.lt_tmod_of_pos a0 (by decide), Int.tmod_lt_of_pos a0 (by decide)⟩
  have t2 : 0 ≤ Int.tmod (Int.tmod a0 20 + 20) 20 := Int.tmod_nonneg _ (by omega)
  have t3 := Int.tmod_lt_of_pos (Int.tmod a0 20 + 20) (b := 20) (by decide)
  rw [wrapi (i := Int.tmod a0 20 + 20) (by omega) (by omega), wrapi (i := 1 + Int.tmod (Int.tmod a0 20 + 20) 20) (by omega) (by omega)]
  obtain ⟨n, hn⟩ : ∃ n : Nat, 1 + Int.tmod (Int.tmod a0 20 + 20) 20 = (n : Int) := ⟨(1 + Int.tmod (Int.tmod a0 20 + 20) 20).toNat, by omega⟩
  rw [hn]
  have hn1 : 1 ≤ n := by omega
  have hn20 : n ≤ 20 := by omega
  clear t1 t2 t3 hn
  have t4 : -(n : Int) < Int.tmod a1 n ∧ Int.tmod a1 n < n := ⟨Int.lt_tmod_of_pos a1 (by omega), Int.tmod_lt_of_pos a1 (by omega)⟩
  rw [wrapi (i := Int.tmod a1 n + n) (by omega) (by omega)]
  have t5 : 0 ≤ Int.tmod (Int.tmod a1 n + n) n := Int.tmod_nonneg _ (by omega)
  have t6 := Int.tmod_lt_of_pos (Int.tmod a1 n + n) (b := (n : Int)) (by omega)
  obtain ⟨m, hm⟩ : ∃ m : Nat, Int.tmod (Int.tmod a1 n + n) n = (m : Int) := ⟨(Int.tmod (Int.tmod a1 n + n) n).toNat, by omega⟩
  rw [hm]
  have hmn : m < n := by omega
  clear t4 t5 t6 hm
  have cut : ∀ l : List Int, 0 ≤ mn (l.length : Int) 64 ∧ mn (l.length : Int) 64 ≤ (l.length : Int) ∧ (l.take (mn (l.length : Int) 64).toNat).length ≤ 64 := by
    intro l
    have : mn (l.length : Int) 64 = ((min l.length 64 : Nat) : Int) := by
      unfold mn
      by_cases h : (64 : Int) < (l.length : Int)
      · rw [if_pos h, Nat.min_eq_right (by omega)]; rfl
      · rw [if_neg h, Nat.min_eq_left (by omega)]
    rw [this, Int.toNat_natCast, List.length_take]
    exact ⟨by omega, by omega, by omega⟩
  obtain ⟨c2a, c2b, c2c⟩ := cut l2
  obtain ⟨c3a, c3b, c3c⟩ := cut l3
  rw [if_neg (by omega), if_pos c2a, if_pos c2b, if_pos c3a, if_pos c3b]
  generalize l2.take (mn (l2.length : Int) 64).toNat = x2 at c2c ⊢
  generalize l3.take (mn (l3.length : Int) 64).toNat = x3 at c3c ⊢
  obtain ⟨Z, hZ⟩ : ∃ Z, Z = List.replicate n zeros64 := ⟨_, rfl⟩
  have hZl : Z.length = n := by rw [hZ, List.length_replicate]
  have hZm : ∀ b ∈ Z, b = zeros64 := fun b hb => by rw [hZ] at hb; exact List.eq_of_mem_replicate hb
  have okZ : okS Z [] = true := okS_of (by omega) (by omega) (by show 0 ≤ _; omega) (fun b hb => by rw [hZm b hb, zeros64_length]) (fun x hx => by cases hx)
  have e1 : disk_New.f (n : Int) = some (Z, [], 0) := by
    unfold disk_New.f
    rw [if_neg (by omega), if_neg (by omega), Int.toNat_natCast, ← hZ]
  rw [e1, Option.bind_some]
  dsimp only
  rw [put_f okZ (by omega) c2c (by omega), Option.bind_some]
  dsimp only
  have ok1 := ok_one okZ (by omega) c2c (m := m)
  have e2 : disk_Flush.f 7000 Z [⟨(m : Int), padded x2⟩] = some (Z.set m (padded x2), [], 0) := by
    unfold disk_Flush.f
    rw [check_f (by omega) (by show 1 < _; decide) (by show _ + 1 + 3 ≤ _; omega), if_pos ok1, Option.bind_some, if_pos rfl, if_pos ok1]
    rw [show ([(⟨(m : Int), padded x2⟩ : Wr)]).length = 1 from rfl, landed_one, List.take_of_length_le (by rw [padded_length c2c]; omega), List.drop_eq_nil_of_le (by rw [rdL_at (by omega), hZm _ (List.getElem_mem _), zeros64_length]; omega), List.append_nil]
  rw [e2, Option.bind_some]
  dsimp only
  obtain ⟨S, hS⟩ : ∃ S, S = Z.set m (padded x2) := ⟨_, rfl⟩
  rw [← hS]
  have hSl : S.length = n := by rw [hS, List.length_set, hZl]
  have okSS : okS S [] = true := okS_of (by omega) (by omega) (by show 0 ≤ _; omega) (fun b hb => by
    rw [hS] at hb
    rcases List.mem_or_eq_of_mem_set hb with h | h
    · rw [hZm b h, zeros64_length]
    · rw [h, padded_length c2c]) (fun x hx => by cases hx)
  rw [put_f okSS (by omega) c3c (by omega), Option.bind_some]
  dsimp only
  have ok2 := ok_one okSS (by omega) c3c (m := m)
  obtain ⟨c, hc⟩ : ∃ c, c = csize [true] 0 a4 0 := ⟨_, rfl⟩
  have hc64 : c ≤ 64 := by rw [hc]; exact csize_le _ _ _ _
  have hSm : rd_L2 S (m : Int) = padded x2 := by rw [rdL_at (by omega)]; simp only [hS, List.getElem_set_self]
  have e3 : disk_Crash.f 7000 S [⟨(m : Int), padded x3⟩] [true] 0 a4 = some (S.set m ((padded x3).take c ++ (padded x2).drop c), [], 0) := by
    unfold disk_Crash.f
    rw [check_f (by omega) (by show 1 < _; decide) (by show _ + 1 + 3 ≤ _; omega), if_pos ok2, Option.bind_some, if_pos rfl, if_pos ok2]
    rw [show ([(⟨(m : Int), padded x3⟩ : Wr)]).length = 1 from rfl, landed_one, hSm, ← hc]
  rw [e3, Option.bind_some]
  dsimp only
  rw [numf, Option.bind_some, Option.bind_some, Option.bind_some, Option.bind_some, Option.bind_some, if_pos wz, if_pos (by rw [List.length_set, hSl]), show (((([] : List Wr).length : Int)) != 0) = false from rfl, show (7000 : Nat) = 6999 + 1 from rfl, transeptlaw04_DiskTorn.j0, if_neg (by simp), mxmn, ← hc]
  refine loop0 hn20 (fun j hj => ?_) n 6999 0 (by omega) (by omega)
  refine ⟨by rw [List.length_set]; omega, ?_⟩
  by_cases hjm : j = m
  · subst hjm
    have hrd : rd_L2 (S.set j ((padded x3).take c ++ (padded x2).drop c)) (j : Int) = (padded x3).take c ++ (padded x2).drop c := by rw [rdL_at (by rw [List.length_set]; omega), List.getElem_set_self]
    have hl3 : ((padded x3).take c).length = c := by rw [List.length_take, padded_length c3c]; omega
    have hlen : ((padded x3).take c ++ (padded x2).drop c).length = 64 := by rw [List.length_append, hl3, List.length_drop, padded_length c2c]; omega
    rw [hrd]
    refine ⟨hlen, fun i hi => ⟨fun h => absurd rfl h, fun _ hic => ?_, fun _ hic => ?_⟩⟩
    · rw [← padded_at c3c hi, rd_at (by omega), rd_at (by rw [padded_length c3c]; omega), List.getElem_append_left (by omega), List.getElem_take]
    · rw [← padded_at c2c hi, rd_at (by omega), rd_at (by rw [padded_length c2c]; omega), List.getElem_append_right (by omega), List.getElem_drop]
      congr 1
      omega
  · have hrd : rd_L2 (S.set m ((padded x3).take c ++ (padded x2).drop c)) (j : Int) = zeros64 := by
      rw [rdL_at (by rw [List.length_set]; omega), List.getElem_set_ne (fun h => hjm h.symm)]
      simp only [hS]
      rw [List.getElem_set_ne (fun h => hjm h.symm)]
      exact hZm _ (List.getElem_mem _)
    rw [hrd]
    refine ⟨zeros64_length, fun i hi => ⟨fun _ => ?_, fun h => absurd h hjm, fun h => absurd h hjm⟩⟩
    rw [rd_at (by rw [zeros64_length]; exact hi)]
    simp only [zeros64]
    exact List.getElem_replicate _
end Go.Proofs.Ytiiphlfgdkjjiaa.Pure
