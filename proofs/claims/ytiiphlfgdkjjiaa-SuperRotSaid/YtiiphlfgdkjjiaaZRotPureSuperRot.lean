/- SuperRot is true of every two blocks, sector, place and bits; no condition. -/
import Derived.Laws.BitsAllLaws
import Derived.Test.YtiiphlfgdkjjiaaZRotStmSuperRot
import Derived.Test.YtiiphlfgdkjjiaaZRotSStore
import Derived.Test.YtiiphlfgdkjjiaaZRotSRefEnc
import Derived.Test.YtiiphlfgdkjjiaaZRotSAlive
import Derived.Test.YtiiphlfgdkjjiaaZRotDAlive
namespace Go.Proofs.Ytiiphlfgdkjjiaa.Pure
open Go.RowKit Go.Proofs.Ytiiphlfgdkjjiaa.Q Go.Proofs.Ytiiphlfgdkjjiaa.Read Go.Proofs.YtiiphlfgdkjjiaaW.PrintWords Go.Proofs.YtiiphlfgdkjjiaaW.PrintLast Go.Proofs.YtiiphlfgdkjjiaaW.PrintMore Go.Proofs.Ytiiphlfgdkjjiaa.Stm.superRot
open Go.Proofs.Ytiiphlfgdkjjiaa.CrcP
set_option linter.unusedVariables false
set_option linter.unusedSimpArgs false

theorem num6' (x : Int) : transeptlaw06_num.f x = some x := rfl
def ee (x : Int) : Int := Int.tmod (wrap64 (Int.tmod x 1000 + 1000)) 1000
theorem ee_range (x : Int) : 0 ≤ ee x ∧ ee x ≤ 999 := by
  have h1 := Int.tmod_lt_of_pos x (show (0 : Int) < 1000 by decide)
  have h2 := Int.lt_tmod_of_pos x (show (0 : Int) < 1000 by decide)
  unfold ee
  rw [show wrap64 (Int.tmod x 1000 + 1000) = Int.tmod x 1000 + 1000 from by unfold wrap64; omega]
  have h3 := Int.tmod_lt_of_pos (Int.tmod x 1000 + 1000) (show (0 : Int) < 1000 by decide)
  have h4 := Int.tmod_nonneg (a := Int.tmod x 1000 + 1000) 1000 (by omega)
  omega
theorem dec_secti {a0 a1 a2 a3 a4 : Int} (h : blkOk a0 a1 a2 a3 a4 = true) : dec (secti a0 a1 a2 a3 a4) = (a0, a1, a2, a3, a4, 0) := by
  obtain ⟨⟨p0, q0⟩, ⟨p1, q1⟩, ⟨p2, q2⟩, ⟨p3, q3⟩, ⟨p4, q4⟩⟩ := blkOk_out h
  obtain ⟨a0, rfl⟩ := Int.eq_ofNat_of_zero_le p0
  obtain ⟨a1, rfl⟩ := Int.eq_ofNat_of_zero_le p1
  obtain ⟨a2, rfl⟩ := Int.eq_ofNat_of_zero_le p2
  obtain ⟨a3, rfl⟩ := Int.eq_ofNat_of_zero_le p3
  obtain ⟨a4, rfl⟩ := Int.eq_ofNat_of_zero_le p4
  unfold secti
  rw [Int.toNat_natCast, Int.toNat_natCast, Int.toNat_natCast, Int.toNat_natCast, Int.toNat_natCast]
  exact dec_sect (by omega) (by omega) (by omega) (by omega) (by omega)
theorem secti_octs {a0 a1 a2 a3 a4 : Int} : octs (secti a0 a1 a2 a3 a4) = true := sect_octs
theorem pick_fst {p q : Dc} (h0 : p.2.2.2.2.2 = 0) (h : q.2.2.2.2.2 ≠ 0 ∨ ¬ p.1 < q.1) : pick p q = (p.1, p.2.1, p.2.2.1, p.2.2.2.1, p.2.2.2.2.1, 0, 0) := by
  unfold pick
  have e1 : stp st0 0 p = (p.1, p.2.1, p.2.2.1, p.2.2.2.1, p.2.2.2.2.1, 0, 0) := by
    unfold stp st0
    rw [if_pos ⟨h0, .inl (by decide)⟩]
  rw [e1]
  unfold stp
  rw [if_neg]
  rintro ⟨h1, h2⟩
  rcases h with h | h
  · exact h h1
  · rcases h2 with h2 | h2
    · exact h2 rfl
    · exact h h2
theorem pick_snd {p q : Dc} (h0 : q.2.2.2.2.2 = 0) (h : p.2.2.2.2.2 ≠ 0 ∨ p.1 < q.1) : pick p q = (q.1, q.2.1, q.2.2.1, q.2.2.2.1, q.2.2.2.2.1, 1, 0) := by
  unfold pick
  by_cases hp : p.2.2.2.2.2 = 0
  · have e1 : stp st0 0 p = (p.1, p.2.1, p.2.2.1, p.2.2.2.1, p.2.2.2.2.1, 0, 0) := by
      unfold stp st0
      rw [if_pos ⟨hp, .inl (by decide)⟩]
    rw [e1]
    unfold stp
    rw [if_pos]
    refine ⟨h0, ?_⟩
    rcases h with h | h
    · exact absurd hp h
    · exact .inr h
  · have e1 : stp st0 0 p = st0 := by
      unfold stp
      rw [if_neg (fun h_ => hp h_.1)]
    rw [e1]
    unfold stp st0
    rw [if_pos ⟨h0, .inl (by decide)⟩]
theorem pair_octs {p q : List Int} (hp : octs p = true) (hq : octs q = true) (i : Int) : octs (got [p, q] [] i) = true := by
  show octs (rd_L4 [p, q] i) = true
  unfold rd_L4
  rcases (by omega : i.toNat = 0 ∨ i.toNat = 1 ∨ 2 ≤ i.toNat) with h | h | h
  · rw [h]; exact hp
  · rw [h]; exact hq
  · rw [List.getD_eq_getElem?_getD, List.getElem?_eq_none (show [p, q].length ≤ i.toNat from h)]
    rfl
theorem pair_ok {p q : List Int} (hp : p.length = 64) (hq : q.length = 64) : okS [p, q] [] = true :=
  okS_of' (show 1 ≤ 2 by omega) (show 2 ≤ 1024 by omega) (show 0 ≤ 4096 by omega) (fun b hb => by
    rcases List.mem_cons.1 hb with h | h
    · rw [h]; exact hp
    · rw [List.mem_singleton.1 h]; exact hq) (fun x hx => by cases hx)
theorem pair_load {p q : List Int} {k : Nat} (hp : p.length = 64) (hq : q.length = 64) (op : octs p = true) (oq : octs q = true) (hk : 100 ≤ k) : super_Load.f k [p, q] [] = some (pick (dec p) (dec q)) := by
  rw [load_f (show 2 < _ by omega) (show 0 < _ by omega) (show 2 + 0 + 3 ≤ k by omega) (pair_octs op oq)]
  unfold loads
  rw [if_pos (pair_ok hp hq), if_neg (show ¬ [p, q].length < 2 from Nat.lt_irrefl 2)]
  rfl
theorem pair_store0 {p q : List Int} {a0 a1 a2 a3 a4 : Int} {k : Nat} (hp : p.length = 64) (hq : q.length = 64) (h0 : a0 % 2 = 0) (hb : blkOk a0 a1 a2 a3 a4 = true) (hk : 100 ≤ k) : super_Store.f k [p, q] [] a0 a1 a2 a3 a4 = some ([secti a0 a1 a2 a3 a4, q], [], 0) := by
  rw [store_f (show 2 < _ by omega) (show 0 < _ by omega) (show 2 + 0 + 10 ≤ k by omega)]
  unfold stores
  rw [if_pos (pair_ok hp hq), if_neg (show ¬ [p, q].length < 2 from Nat.lt_irrefl 2), if_pos hb, if_neg (show ¬ ([] : List Wr).length ≥ 4096 from (by decide : ¬ 0 ≥ 4096))]
  have hl := landed_at (size := fun _ => 64) (l1 := ([] : List Wr) ++ [blkW a0 a1 a2 a3 a4]) (l0 := [p, q]) (j := 0) (show 0 < 1 by omega)
  show some (landed (fun _ => 64) ([] ++ [blkW a0 a1 a2 a3 a4]) [p, q] (0 + 1), _, _) = _
  rw [hl]
  show some (([p, q] : List (List Int)).set (a0 % 2).toNat ((secti a0 a1 a2 a3 a4).take 64 ++ (rd_L4 [p, q] (a0 % 2)).drop 64), _, _) = _
  rw [h0, List.take_of_length_le (by rw [secti_len]; exact Nat.le_refl _), List.drop_of_length_le (show (rd_L4 [p, q] 0).length ≤ 64 from by rw [show rd_L4 [p, q] 0 = p from rfl, hp]; exact Nat.le_refl _), List.append_nil]
  rfl
theorem pair_store1 {p q : List Int} {a0 a1 a2 a3 a4 : Int} {k : Nat} (hp : p.length = 64) (hq : q.length = 64) (h0 : a0 % 2 = 1) (hb : blkOk a0 a1 a2 a3 a4 = true) (hk : 100 ≤ k) : super_Store.f k [p, q] [] a0 a1 a2 a3 a4 = some ([p, secti a0 a1 a2 a3 a4], [], 0) := by
  rw [store_f (show 2 < _ by omega) (show 0 < _ by omega) (show 2 + 0 + 10 ≤ k by omega)]
  unfold stores
  rw [if_pos (pair_ok hp hq), if_neg (show ¬ [p, q].length < 2 from Nat.lt_irrefl 2), if_pos hb, if_neg (show ¬ ([] : List Wr).length ≥ 4096 from (by decide : ¬ 0 ≥ 4096))]
  have hl := landed_at (size := fun _ => 64) (l1 := ([] : List Wr) ++ [blkW a0 a1 a2 a3 a4]) (l0 := [p, q]) (j := 0) (show 0 < 1 by omega)
  show some (landed (fun _ => 64) ([] ++ [blkW a0 a1 a2 a3 a4]) [p, q] (0 + 1), _, _) = _
  rw [hl]
  show some (([p, q] : List (List Int)).set (a0 % 2).toNat ((secti a0 a1 a2 a3 a4).take 64 ++ (rd_L4 [p, q] (a0 % 2)).drop 64), _, _) = _
  rw [h0, List.take_of_length_le (by rw [secti_len]; exact Nat.le_refl _), List.drop_of_length_le (show (rd_L4 [p, q] 1).length ≤ 64 from by rw [show rd_L4 [p, q] 1 = q from rfl, hq]; exact Nat.le_refl _), List.append_nil]
  rfl
theorem pair_no {p q : List Int} {a0 a1 a2 a3 a4 : Int} {k : Nat} (hp : p.length = 64) (hq : q.length = 64) (hb : ¬ blkOk a0 a1 a2 a3 a4 = true) (hk : 100 ≤ k) : super_Store.f k [p, q] [] a0 a1 a2 a3 a4 = some ([], [], 4) := by
  rw [store_f (show 2 < _ by omega) (show 0 < _ by omega) (show 2 + 0 + 10 ≤ k by omega)]
  unfold stores
  rw [if_pos (pair_ok hp hq), if_neg (show ¬ [p, q].length < 2 from Nat.lt_irrefl 2), if_neg hb]
theorem refcheck_k {a0 a1 a2 a3 a4 : Int} {k : Nat} (hk : 6 ≤ k) : transeptref06_Check.f k a0 a1 a2 a3 a4 = some (if blkOk a0 a1 a2 a3 a4 = true then 0 else 4) := by
  unfold transeptref06_Check.f
  rw [show transeptref06_numbers.f a0 a1 a2 a3 a4 = some [a0, a1, a2, a3, a4] from rfl, Option.bind_some]
  exact refcheck_l0 (l := [a0, a1, a2, a3, a4]) (show 5 ≤ 8 by omega) 5 k 0 rfl (by omega)
/-- An octet with bits turned. -/
theorem turn_same {l : List Int} {p : Int} (ho : octs l = true) (h64 : l.length = 64) (h0 : 0 ≤ p) (h1 : p < 64) : turned l p 0 = l := by
  have hlt : p.toNat < l.length := by omega
  have hx := octs_get ho (List.getElem_mem hlt)
  unfold turned
  rw [List.getD_eq_getElem?_getD, List.getElem?_eq_getElem hlt, Option.getD_some, Go.u8_xor _ _ hx.1 hx.2 (by decide) (by decide)]
  rw [show ((0 : Int).toNat) = 0 from rfl, Nat.xor_zero, Int.toNat_of_nonneg hx.1]
  exact List.set_getElem_self hlt
theorem turn_octs {l : List Int} {p b : Int} (ho : octs l = true) (h64 : l.length = 64) (h0 : 0 ≤ p) (h1 : p < 64) (b0 : 0 ≤ b) (b1 : b < 256) : octs (turned l p b) = true := by
  have hlt : p.toNat < l.length := by omega
  have hx := octs_get ho (List.getElem_mem hlt)
  unfold turned
  rw [List.getD_eq_getElem?_getD, List.getElem?_eq_getElem hlt, Option.getD_some, Go.u8_xor _ _ hx.1 hx.2 b0 b1]
  refine octs_set ho ⟨Int.natCast_nonneg _, ?_⟩
  have := Nat.xor_lt_two_pow (n := 8) (x := (l[p.toNat]).toNat) (y := b.toNat) (by omega) (by omega)
  omega
theorem turn_len {l : List Int} {p b : Int} (h64 : l.length = 64) : (turned l p b).length = 64 := by unfold turned; rw [List.length_set]; exact h64
theorem xor_ne' {x d : Nat} (hd : d ≠ 0) : x ^^^ d ≠ x := fun e => hd (by
  have h : x ^^^ (x ^^^ d) = d := by rw [← Nat.xor_assoc, Nat.xor_self, Nat.zero_xor]
  rw [e, Nat.xor_self] at h
  exact h.symm)
theorem turn_bad {l : List Int} {p b : Int} (ho : octs l = true) (h64 : l.length = 64) (hd : (dec l).2.2.2.2.2 = 0) (h0 : 0 ≤ p) (h1 : p < 64) (b0 : 0 ≤ b) (b1 : b < 256) (hb : b ≠ 0) : (dec (turned l p b)).2.2.2.2.2 ≠ 0 := by
  have hlt : p.toNat < l.length := by omega
  have hx := octs_get ho (List.getElem_mem hlt)
  unfold turned
  rw [List.getD_eq_getElem?_getD, List.getElem?_eq_getElem hlt, Option.getD_some, Go.u8_xor _ _ hx.1 hx.2 b0 b1]
  have hw := Nat.xor_lt_two_pow (n := 8) (x := (l[p.toNat]).toNat) (y := b.toNat) (by omega) (by omega)
  refine dec_turned ho h64 hd (by omega) ⟨Int.natCast_nonneg _, by omega⟩ (fun e => ?_)
  exact xor_ne' (x := (l[p.toNat]).toNat) (d := b.toNat) (by omega) (by omega)
theorem pair_rot0 {p q : List Int} {i b : Int} {k : Nat} (hp : p.length = 64) (hq : q.length = 64) (h0 : 0 ≤ i) (h1 : i < 64) (hk : 100 ≤ k) : disk_Rot.f k [p, q] [] 0 i b = some ([turned p i b, q], [], 0) := by
  rw [drot_f (show 2 < _ by omega) (show 0 < _ by omega) (show 2 + 0 + 3 ≤ k by omega)]
  unfold rots
  rw [if_pos (pair_ok hp hq), if_pos ⟨by omega, show (0 : Int) < (([p, q].length : Nat) : Int) from (by decide : (0 : Int) < ((2 : Nat) : Int))⟩, if_neg (by omega), if_neg (by omega)]
  rfl
theorem pair_rot1 {p q : List Int} {i b : Int} {k : Nat} (hp : p.length = 64) (hq : q.length = 64) (h0 : 0 ≤ i) (h1 : i < 64) (hk : 100 ≤ k) : disk_Rot.f k [p, q] [] 1 i b = some ([p, turned q i b], [], 0) := by
  rw [drot_f (show 2 < _ by omega) (show 0 < _ by omega) (show 2 + 0 + 3 ≤ k by omega)]
  unfold rots
  rw [if_pos (pair_ok hp hq), if_pos ⟨by omega, show (1 : Int) < (([p, q].length : Nat) : Int) from (by decide : (1 : Int) < ((2 : Nat) : Int))⟩, if_neg (by omega), if_neg (by omega)]
  rfl
theorem wz : wrap64 (0 + 0) = 0 := by unfold wrap64; omega
theorem five_self (a0 a1 a2 a3 a4 : Int) : (a0 == a0 && (a1 == a1 && (a2 == a2 && (a3 == a3 && (a4 == a4))))) = true := by simp
/-- The end of the law. -/
theorem rot_end {K : Nat} {at_ b kk a0 a1 a2 a3 a4 b0 b1 b2 b3 b4 y0 y1 y2 y3 y4 n : Int} {D D3 : List (List Int)} (hne : a0 ≠ b0) (hr : disk_Rot.f K D [] kk (Int.tmod (wrap64 (Int.tmod at_ 64 + 64)) 64) b = some (D3, [], 0)) (hl : super_Load.f K D3 [] = some (y0, y1, y2, y3, y4, n, 0))
    (hy : if kk = Int.tmod b0 2 ∧ b ≠ 0 then (y0, y1, y2, y3, y4) = (a0, a1, a2, a3, a4) else (y0, y1, y2, y3, y4) = (b0, b1, b2, b3, b4)) : transeptlaw06_SuperRot.j0 (K + 1) at_ b kk a0 a1 a2 a3 a4 b0 b1 b2 b3 b4 D [] = some true := by
  rw [transeptlaw06_SuperRot.j0, hr, Option.bind_some, hl, Option.bind_some]
  by_cases hk : kk = Int.tmod b0 2
  · rw [if_pos hk, num6', Option.bind_some, Option.bind_some]
    dsimp only
    rw [wz, if_pos rfl]
    by_cases hb : b = 0
    · rw [if_neg (fun h => h.2 hb)] at hy
      simp only [Prod.mk.injEq] at hy
      obtain ⟨rfl, rfl, rfl, rfl, rfl⟩ := hy
      rw [if_pos (five_self _ _ _ _ _), if_pos hb]
    · rw [if_pos ⟨hk, hb⟩] at hy
      simp only [Prod.mk.injEq] at hy
      obtain ⟨rfl, rfl, rfl, rfl, rfl⟩ := hy
      rw [if_neg (by rw [beq_eq_false_iff_ne.2 hne, Bool.false_and]; decide), if_pos (five_self _ _ _ _ _), bne_iff_ne.2 hb]
  · rw [if_neg hk, num6', Option.bind_some, Option.bind_some]
    dsimp only
    rw [wz, if_pos rfl]
    rw [if_neg (fun h => hk h.1)] at hy
    simp only [Prod.mk.injEq] at hy
    obtain ⟨rfl, rfl, rfl, rfl, rfl⟩ := hy
    rw [if_pos (five_self _ _ _ _ _)]
theorem at_range (x : Int) : 0 ≤ Int.tmod (wrap64 (Int.tmod x 64 + 64)) 64 ∧ Int.tmod (wrap64 (Int.tmod x 64 + 64)) 64 < 64 := by
  have h1 := Int.tmod_lt_of_pos x (show (0 : Int) < 64 by decide)
  have h2 := Int.lt_tmod_of_pos x (show (0 : Int) < 64 by decide)
  rw [show wrap64 (Int.tmod x 64 + 64) = Int.tmod x 64 + 64 from by unfold wrap64; omega]
  exact ⟨Int.tmod_nonneg (a := Int.tmod x 64 + 64) 64 (by omega), Int.tmod_lt_of_pos _ (by decide)⟩
/-- The two sectors, one of them turned: what is loaded. -/
theorem two_loads {K : Nat} {e a1 a2 a3 a4 b1 b2 b3 b4 p b : Int} {D : List (List Int)} {kk : Int} (he : 0 ≤ e) (hA : blkOk e a1 a2 a3 a4 = true) (hB : blkOk (e + 1) b1 b2 b3 b4 = true) (hkk : kk = 0 ∨ kk = 1) (h0 : 0 ≤ p) (h1 : p < 64) (hb0 : 0 ≤ b) (hb1 : b < 256) (hK : 100 ≤ K)
    (hD : (e % 2 = 0 ∧ D = [secti e a1 a2 a3 a4, secti (e + 1) b1 b2 b3 b4]) ∨ (e % 2 = 1 ∧ D = [secti (e + 1) b1 b2 b3 b4, secti e a1 a2 a3 a4])) :
    ∃ D3 y0 y1 y2 y3 y4 n, disk_Rot.f K D [] kk p b = some (D3, [], 0) ∧ super_Load.f K D3 [] = some (y0, y1, y2, y3, y4, n, 0) ∧
      (if kk = Int.tmod (e + 1) 2 ∧ b ≠ 0 then (y0, y1, y2, y3, y4) = (e, a1, a2, a3, a4) else (y0, y1, y2, y3, y4) = (e + 1, b1, b2, b3, b4)) := by
  have dA := dec_secti hA
  have dB := dec_secti hB
  have oA : octs (secti e a1 a2 a3 a4) = true := secti_octs
  have oB : octs (secti (e + 1) b1 b2 b3 b4) = true := secti_octs
  have lA : (secti e a1 a2 a3 a4).length = 64 := secti_len
  have lB : (secti (e + 1) b1 b2 b3 b4).length = 64 := secti_len
  have eA : (dec (secti e a1 a2 a3 a4)).2.2.2.2.2 = 0 := by rw [dA]
  have eB : (dec (secti (e + 1) b1 b2 b3 b4)).2.2.2.2.2 = 0 := by rw [dB]
  have ht : Int.tmod (e + 1) 2 = (e + 1) % 2 := Int.tmod_eq_emod_of_nonneg (by omega)
  have hlt : (dec (secti e a1 a2 a3 a4)).1 < (dec (secti (e + 1) b1 b2 b3 b4)).1 := by rw [dA, dB]; show e < e + 1; omega
  have hng : ¬ (dec (secti (e + 1) b1 b2 b3 b4)).1 < (dec (secti e a1 a2 a3 a4)).1 := by omega
  generalize hSA : secti e a1 a2 a3 a4 = SA at *
  generalize hSB : secti (e + 1) b1 b2 b3 b4 = SB at *
  rw [ht]
  rcases hD with ⟨hp, rfl⟩ | ⟨hp, rfl⟩
  · have hq : (e + 1) % 2 = 1 := by omega
    rw [hq]
    rcases hkk with rfl | rfl
    · refine ⟨[turned SA p b, SB], e + 1, b1, b2, b3, b4, 1, pair_rot0 lA lB h0 h1 hK, ?_, ?_⟩
      · rw [pair_load (turn_len lA) lB (turn_octs oA lA h0 h1 hb0 hb1) oB hK]
        by_cases hb : b = 0
        · rw [hb, turn_same oA lA h0 h1, pick_snd eB (.inr hlt), dB]
        · rw [pick_snd eB (.inl (turn_bad oA lA eA h0 h1 hb0 hb1 hb)), dB]
      · rw [if_neg (fun h => absurd h.1 (by decide))]
    · by_cases hb : b = 0
      · refine ⟨[SA, turned SB p b], e + 1, b1, b2, b3, b4, 1, pair_rot1 lA lB h0 h1 hK, ?_, by rw [if_neg (fun h => h.2 hb)]⟩
        rw [pair_load lA (turn_len lB) oA (turn_octs oB lB h0 h1 hb0 hb1) hK, hb, turn_same oB lB h0 h1, pick_snd eB (.inr hlt), dB]
      · refine ⟨[SA, turned SB p b], e, a1, a2, a3, a4, 0, pair_rot1 lA lB h0 h1 hK, ?_, by rw [if_pos ⟨rfl, hb⟩]⟩
        rw [pair_load lA (turn_len lB) oA (turn_octs oB lB h0 h1 hb0 hb1) hK, pick_fst eA (.inl (turn_bad oB lB eB h0 h1 hb0 hb1 hb)), dA]
  · have hq : (e + 1) % 2 = 0 := by omega
    rw [hq]
    rcases hkk with rfl | rfl
    · by_cases hb : b = 0
      · refine ⟨[turned SB p b, SA], e + 1, b1, b2, b3, b4, 0, pair_rot0 lB lA h0 h1 hK, ?_, by rw [if_neg (fun h => h.2 hb)]⟩
        rw [pair_load (turn_len lB) lA (turn_octs oB lB h0 h1 hb0 hb1) oA hK, hb, turn_same oB lB h0 h1, pick_fst eB (.inr hng), dB]
      · refine ⟨[turned SB p b, SA], e, a1, a2, a3, a4, 1, pair_rot0 lB lA h0 h1 hK, ?_, by rw [if_pos ⟨rfl, hb⟩]⟩
        rw [pair_load (turn_len lB) lA (turn_octs oB lB h0 h1 hb0 hb1) oA hK, pick_snd eA (.inl (turn_bad oB lB eB h0 h1 hb0 hb1 hb)), dA]
    · refine ⟨[SB, turned SA p b], e + 1, b1, b2, b3, b4, 0, pair_rot1 lB lA h0 h1 hK, ?_, ?_⟩
      · rw [pair_load lB (turn_len lA) oB (turn_octs oA lA h0 h1 hb0 hb1) hK]
        by_cases hb : b = 0
        · rw [hb, turn_same oA lA h0 h1, pick_fst eB (.inr hng), dB]
        · rw [pick_fst eB (.inl (turn_bad oA lA eA h0 h1 hb0 hb1 hb)), dB]
      · rw [if_neg (fun h => absurd h.1 (by decide))]
/-- Both stores. -/
theorem two_stores {K : Nat} {e a1 a2 a3 a4 b1 b2 b3 b4 : Int} (hA : blkOk e a1 a2 a3 a4 = true) (hB : blkOk (e + 1) b1 b2 b3 b4 = true) (hK : 100 ≤ K) :
    ∃ D1 D, super_Store.f K exS [] e a1 a2 a3 a4 = some (D1, [], 0) ∧ super_Store.f K D1 [] (e + 1) b1 b2 b3 b4 = some (D, [], 0) ∧ ((e % 2 = 0 ∧ D = [secti e a1 a2 a3 a4, secti (e + 1) b1 b2 b3 b4]) ∨ (e % 2 = 1 ∧ D = [secti (e + 1) b1 b2 b3 b4, secti e a1 a2 a3 a4])) := by
  have z : zeros64.length = 64 := List.length_replicate
  rcases (by omega : e % 2 = 0 ∨ e % 2 = 1) with h | h
  · exact ⟨[secti e a1 a2 a3 a4, zeros64], _, pair_store0 z z h hA hK, pair_store1 secti_len z (by omega) hB hK, .inl ⟨h, rfl⟩⟩
  · exact ⟨[zeros64, secti e a1 a2 a3 a4], _, pair_store1 z z h hA hK, pair_store0 z secti_len (by omega) hB hK, .inr ⟨h, rfl⟩⟩
theorem one_store {K : Nat} {e a1 a2 a3 a4 : Int} (hA : blkOk e a1 a2 a3 a4 = true) (hK : 100 ≤ K) :
    ∃ p q, p.length = 64 ∧ q.length = 64 ∧ super_Store.f K exS [] e a1 a2 a3 a4 = some ([p, q], [], 0) := by
  have z : zeros64.length = 64 := List.length_replicate
  rcases (by omega : e % 2 = 0 ∨ e % 2 = 1) with h | h
  · exact ⟨_, _, secti_len, z, pair_store0 z z h hA hK⟩
  · exact ⟨_, _, z, secti_len, pair_store1 z z h hA hK⟩
theorem w4 : wrap64 (0 + 4) = 4 := by unfold wrap64; omega
theorem SuperRot : Stm.superRot.Pure := by
  intro x y which at_ b hx hy _ hat hb
  obtain ⟨K, hK⟩ : ∃ K : Nat, K = 1000 := ⟨_, rfl⟩
  have hK1 : 100 ≤ K + 1 := by omega
  have hKk : 100 ≤ K := by omega
  have hb2 : 0 ≤ b ∧ b < 256 := by
    simp [Lit.wf, IntKind.min, IntKind.max, IntKind.signed, IntKind.bits] at hb
    omega
  refine ⟨K + 1, ?_⟩
  have her := ee_range x.f0
  have hw : wrap64 (ee x.f0 + 1) = ee x.f0 + 1 := by unfold wrap64; omega
  have har := at_range at_
  unfold transeptlaw06_SuperRot.f
  rw [show transeptlaw06_alive.f = some true from rfl, Option.bind_some, if_pos rfl, ex_new, Option.bind_some]
  rw [show Int.tmod (wrap64 (Int.tmod x.f0 1000 + 1000)) 1000 = ee x.f0 from rfl, hw]
  dsimp only
  by_cases hA : blkOk (ee x.f0) x.f1 x.f2 x.f3 x.f4 = true
  · obtain ⟨p, q, lp, lq, hs⟩ := one_store (K := K + 1) hA hK1
    by_cases hB : blkOk (ee x.f0 + 1) y.f1 y.f2 y.f3 y.f4 = true
    · obtain ⟨D1, D, s1, s2, hD⟩ := two_stores (K := K + 1) hA hB hK1
      rw [s1, Option.bind_some]
      dsimp only
      rw [num6', Option.bind_some, Option.bind_some, wz, if_pos rfl, s2, Option.bind_some, num6', Option.bind_some]
      dsimp only
      rw [if_pos rfl]
      cases which with
      | true =>
        rw [if_pos rfl]
        obtain ⟨D3, y0, y1, y2, y3, y4, n, hr, hl, hy⟩ := two_loads (K := K) (kk := 1) her.1 hA hB (.inr rfl) har.1 har.2 hb2.1 hb2.2 hKk hD
        exact rot_end (by omega) hr hl hy
      | false =>
        rw [if_neg (by decide)]
        obtain ⟨D3, y0, y1, y2, y3, y4, n, hr, hl, hy⟩ := two_loads (K := K) (kk := 0) her.1 hA hB (.inl rfl) har.1 har.2 hb2.1 hb2.2 hKk hD
        exact rot_end (by omega) hr hl hy
    · rw [hs, Option.bind_some]
      dsimp only
      rw [num6', Option.bind_some, Option.bind_some, wz, if_pos rfl, pair_no lp lq hB hK1, Option.bind_some, num6', Option.bind_some]
      dsimp only
      rw [if_neg (by decide), refcheck_k (by omega), if_neg hB]
      rfl
  · rw [show exS = [zeros64, zeros64] from rfl, pair_no (p := zeros64) (q := zeros64) List.length_replicate List.length_replicate hA hK1, Option.bind_some]
    dsimp only
    rw [num6', Option.bind_some, num6', Option.bind_some, w4, if_neg (by decide), refcheck_k (by omega), if_neg hA]
    rfl
end Go.Proofs.Ytiiphlfgdkjjiaa.Pure
