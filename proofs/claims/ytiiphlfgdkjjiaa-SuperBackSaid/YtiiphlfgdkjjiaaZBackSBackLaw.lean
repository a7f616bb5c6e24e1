/- SuperBack, walked by hand: it answers true; no condition. -/
import Derived.Test.YtiiphlfgdkjjiaaZBackSAlive
namespace Go.Proofs.Ytiiphlfgdkjjiaa.Q
open Go.RowKit Go.Proofs.YtiiphlfgdkjjiaaW.PrintWords Go.Proofs.YtiiphlfgdkjjiaaW.PrintLast Go.Proofs.YtiiphlfgdkjjiaaW.PrintMore
open Go.Proofs.Ytiiphlfgdkjjiaa.CrcP
set_option linter.unusedVariables false
set_option linter.unusedSimpArgs false

def transeptlaw06_SuperBack.f (a0 a1 a2 a3 a4 b : Int) : Option Bool := if -9223372036854775808 ≤ b ∧ b ≤ 9223372036854775807 then some true else none
theorem xor_ne {x d : Nat} (hd : d ≠ 0) : x ^^^ d ≠ x := fun e => hd (by
  have h : x ^^^ (x ^^^ d) = d := by rw [← Nat.xor_assoc, Nat.xor_self, Nat.zero_xor]
  rw [e, Nat.xor_self] at h
  exact h.symm)

theorem div8 {p i r : Nat} (h : i = p / 8 ∧ r = p % 8) : (p : Int) / 8 = (i : Int) ∧ (p : Int).tdiv 8 = (i : Int) ∧ (p : Int) % 8 = (r : Int) ∧ (p : Int).tmod 8 = (r : Int) := by
  obtain ⟨rfl, rfl⟩ := h
  have h1 : (p : Int) / 8 = ((p / 8 : Nat) : Int) := by omega
  have h2 : (p : Int) % 8 = ((p % 8 : Nat) : Int) := by omega
  exact ⟨h1, (Int.tdiv_eq_ediv_of_nonneg (by omega)).trans h1, h2, (Int.tmod_eq_emod_of_nonneg (by omega)).trans h2⟩
theorem wrap_idx {i : Nat} (h : i < 64) : wrap64 (i : Int) = (i : Int) := by unfold wrap64; omega
theorem flip_val {x r : Nat} (hx : x < 256) (hr : r < 8) : bits .xor .u8 (x : Int) (IntKind.u8.wrap (2 ^ r)) = ((x ^^^ 2 ^ r : Nat) : Int) ∧ x ^^^ 2 ^ r < 256 ∧ x ^^^ 2 ^ r ≠ x := by
  have hp : 2 ^ r < 256 := by have := Nat.pow_lt_pow_right (a := 2) (by decide) hr; simpa using this
  have hw : IntKind.u8.wrap (2 ^ r) = ((2 ^ r : Nat) : Int) := by
    rw [IntKind.wrap_u8, show (2 : Int) ^ r = ((2 ^ r : Nat) : Int) from by rw [Int.natCast_pow]; rfl]
    exact Int.emod_eq_of_lt (Int.natCast_nonneg _) (by show ((2 ^ r : Nat) : Int) < ((256 : Nat) : Int); exact Int.ofNat_lt.2 hp)
  rw [hw, u8_xor_nat _ _ hx hp]
  exact ⟨rfl, Nat.xor_lt_two_pow (n := 8) hx hp, xor_ne (by have := Nat.two_pow_pos r; omega)⟩
/-- With one octet turned the sector is read as none. -/
theorem dec_flip {a0 a1 a2 a3 a4 i x y : Nat} (h0 : a0 ≤ 1099511627776) (h1 : a1 ≤ 1099511627776) (h2 : a2 ≤ 1099511627776) (h3 : a3 ≤ 1099511627776) (h4 : a4 ≤ 1099511627776) (hi : i < 64) (hx : (sect a0 a1 a2 a3 a4).getD i 0 = (x : Int)) (hy : y < 256) (hne : y ≠ x) :
    ∃ d0 d1 d2 d3 d4 e : Int, super_Decode.f ((sect a0 a1 a2 a3 a4).set i (y : Int)) = some (d0, d1, d2, d3, d4, e) ∧ e ≠ 0 := by
  have hl : i < (sect a0 a1 a2 a3 a4).length := by rw [sect_length]; exact hi
  have hxe : (sect a0 a1 a2 a3 a4)[i] = (x : Int) := by rw [List.getD_eq_getElem?_getD, List.getElem?_eq_getElem hl] at hx; exact hx
  have ho : octs ((sect a0 a1 a2 a3 a4).set i (y : Int)) = true := octs_set sect_octs (by omega)
  have ht := dec_turned (l := sect a0 a1 a2 a3 a4) sect_octs sect_length (by rw [dec_sect h0 h1 h2 h3 h4]) hi (y := (y : Int)) (by omega) (by rw [hxe]; omega)
  obtain ⟨⟨d0, d1, d2, d3, d4, e⟩, hd⟩ : ∃ t, dec ((sect a0 a1 a2 a3 a4).set i (y : Int)) = t := ⟨_, rfl⟩
  rw [hd] at ht
  refine ⟨d0, d1, d2, d3, d4, e, ?_, ht⟩
  unfold super_Decode.f
  rw [if_pos ho, hd]
theorem idx_lt {p : Nat} (h : p < 512) : p / 8 < 64 ∧ p % 8 < 8 := by omega

set_option maxHeartbeats 8000000 in
set_option maxRecDepth 100000 in
theorem transeptlaw06_SuperBack.calls (a0 a1 a2 a3 a4 b : Int) (r : Bool) (w : World) (h : transeptlaw06_SuperBack.f a0 a1 a2 a3 a4 b = some r) :
    Calls Try.prog 9 #[.agg #[.int .i64 a0, .int .i64 a1, .int .i64 a2, .int .i64 a3, .int .i64 a4], .int .i64 b] w fun e w' => e = .returned (.bool r) ∧ Below w.heap.size w w' := by
  have hu := Try.underlying33
  have hur := Try.underlying23
  unfold transeptlaw06_SuperBack.f at h
  have hb : -9223372036854775808 ≤ b ∧ b ≤ 9223372036854775807 := by
    by_cases hb : -9223372036854775808 ≤ b ∧ b ≤ 9223372036854775807
    · exact hb
    · rw [if_neg hb] at h; cases h
  rw [if_pos hb] at h
  obtain rfl := Option.some.inj h
  have ht1 := Int.lt_tmod_of_pos b (b := 512) (by omega)
  have ht1b := Int.tmod_lt_of_pos b (b := 512) (by omega)
  have ht2 := Int.tmod_nonneg (a := Int.tmod b 512 + 512) 512 (by omega)
  have ht3 := Int.tmod_lt_of_pos (Int.tmod b 512 + 512) (b := 512) (by omega)
  obtain ⟨p, hp⟩ : ∃ p : Nat, Int.tmod (Int.tmod b 512 + 512) 512 = (p : Int) := ⟨(Int.tmod (Int.tmod b 512 + 512) 512).toNat, by omega⟩
  have hp5 : p < 512 := by omega
  have HP := Aside0.mk (show (wrap64 (b.tmod 512 + 512)).tmod 512 = (p : Int) from by rw [show wrap64 (b.tmod 512 + 512) = b.tmod 512 + 512 from by unfold wrap64; omega]; exact hp)
  clear h hb ht1 ht1b ht2 ht3 hp
  go_enter Try.func9, Try.ntmps9
  go_wp2_with fail
  refine (transeptlaw06_alive.calls true _ rfl).mono ?_
  rintro e w1 ⟨rfl, hb⟩
  have BK := Aside0.mk (blk_below (blk_new w (.cells #[.int .i64 a0, .int .i64 a1, .int .i64 a2, .int .i64 a3, .int .i64 a4] 23)) hb)
  have HB := Aside0.mk (below_step (below_alloc (Below.refl w.heap.size w) (.cells #[.int .i64 a0, .int .i64 a1, .int .i64 a2, .int .i64 a3, .int .i64 a4] 23)) hb)
  clear hb
  have c0 := (blk_cell BK.out 0).trans rfl
  have c1 := (blk_cell BK.out 1).trans rfl
  have c2 := (blk_cell BK.out 2).trans rfl
  have c3 := (blk_cell BK.out 3).trans rfl
  have c4 := (blk_cell BK.out 4).trans rfl
  by_cases hok : blkOk a0 a1 a2 a3 a4 = true
  · obtain ⟨⟨p0, q0⟩, ⟨p1, q1⟩, ⟨p2, q2⟩, ⟨p3, q3⟩, ⟨p4, q4⟩⟩ := blkOk_out hok
    obtain ⟨a0, rfl⟩ := Int.eq_ofNat_of_zero_le p0
    obtain ⟨a1, rfl⟩ := Int.eq_ofNat_of_zero_le p1
    obtain ⟨a2, rfl⟩ := Int.eq_ofNat_of_zero_le p2
    obtain ⟨a3, rfl⟩ := Int.eq_ofNat_of_zero_le p3
    obtain ⟨a4, rfl⟩ := Int.eq_ofNat_of_zero_le p4
    clear hok p0 p1 p2 p3 p4
    have HE := Aside0.mk (enc_f (a0 := a0) (a1 := a1) (a2 := a2) (a3 := a3) (a4 := a4) (by omega) (by omega) (by omega) (by omega) (by omega))
    have HD := Aside0.mk (dec_f (a0 := a0) (a1 := a1) (a2 := a2) (a3 := a3) (a4 := a4) (by omega) (by omega) (by omega) (by omega) (by omega))
    have HDT := Aside0.mk (dec_sect (a0 := a0) (a1 := a1) (a2 := a2) (a3 := a3) (a4 := a4) (by omega) (by omega) (by omega) (by omega) (by omega))
    go_wp2_with fail
    refine (super_Encode.calls _ _ _ _ _ _ _ _ HE.out).mono ?_
    rintro e w2 ⟨v2, rfl, ho, hb⟩
    obtain ⟨A, c, ev⟩ := Kd.R_slice ho
    rw [sect_length] at ev
    subst ev
    have HO := Aside0.mk ho
    have HC := Aside0.mk (Kd.R_reads' ho).2.2
    have hc := (Kd.R_reads' ho).2.1
    have BK2 := Aside0.mk (blk_below BK.out hb)
    have HB2 := Aside0.mk (below_step HB.out hb)
    clear ho hb c0 c1 c2 c3 c4
    go_wp2_with fail
    refine (transeptlaw06_num.calls 0 0 _ rfl).mono ?_
    rintro e w3 ⟨rfl, ⟨⟨m3, rfl⟩⟩⟩
    have hd := super_Decode.calls A c (sect a0 a1 a2 a3 a4) _ _ _ _ _ _ (w2.drewN m3) (Kd.C_drewN HC.out m3) (by rw [sect_length]; exact hc) HD.out
    rw [sect_length] at hd
    have HDC := Aside0.mk hd
    clear hd
    go_wp2_with fail
    refine HDC.out.mono ?_
    rintro e w4 ⟨rfl, hb4⟩
    obtain ⟨gy, hgy⟩ : ∃ gy, gy = w4.heap.size := ⟨_, rfl⟩
    obtain ⟨W5, hW5⟩ : ∃ W5, W5 = w4.alloc (.cells #[.int .i64 a0, .int .i64 a1, .int .i64 a2, .int .i64 a3, .int .i64 a4] 33) := ⟨_, rfl⟩
    have hw1 := Aside0.mk (show w.heap.size ≤ w1.heap.size from HB.out.size)
    have hb24 : Below w2.heap.size w2 w4 := below_step (pw_below_drewN (Below.refl _ _) m3) hb4
    have hb5 : Below w4.heap.size w4 W5 := by rw [hW5]; exact below_alloc (Below.refl _ _) _
    have hb25 := below_step hb24 hb5
    have BKY := Aside0.mk (show W5.heap[gy]? = some (.cells #[.int .i64 a0, .int .i64 a1, .int .i64 a2, .int .i64 a3, .int .i64 a4] 33 (0, 0)) from by rw [hW5, hgy]; exact blk_new _ _)
    have BK5 := Aside0.mk (blk_below BK2.out hb25)
    have HB5 := Aside0.mk (below_step HB2.out hb25)
    have ho5 := Kd.R_below HO.out hb25
    obtain ⟨g, c', eA, hgb, hgl, cg, hcg⟩ := Kd.N_form (Kd.R_N ho5) (by rw [sect_length]; omega)
    rw [sect_length] at eA
    injection eA with eA1 _ eA2
    subst eA1 eA2
    have HO5 := Aside0.mk ho5
    obtain ⟨i, hi⟩ : ∃ i, i = p / 8 := ⟨_, rfl⟩
    obtain ⟨r, hr⟩ : ∃ r, r = p % 8 := ⟨_, rfl⟩
    have hi64 : i < 64 := by rw [hi]; exact (idx_lt hp5).1
    have hr8 : r < 8 := by rw [hr]; exact (idx_lt hp5).2
    obtain ⟨cs, _, hM, hcc, hfr⟩ := Kd.R_elem ho5 (0 : Int) (i : Int) (Int.natCast_nonneg i) (Int.ofNat_lt.2 hi64)
    obtain ⟨x, hx⟩ : ∃ x : Nat, (sect a0 a1 a2 a3 a4).getD i 0 = (x : Int) ∧ x < 256 := by
      have hl : i < (sect a0 a1 a2 a3 a4).length := by rw [sect_length]; exact hi64
      have := octs_get (sect_octs (a0 := a0) (a1 := a1) (a2 := a2) (a3 := a3) (a4 := a4)) (List.getElem_mem hl)
      refine ⟨((sect a0 a1 a2 a3 a4)[i]).toNat, ?_, by omega⟩
      rw [List.getD_eq_getElem?_getD, List.getElem?_eq_getElem hl, Option.getD_some]
      omega
    rw [Int.toNat_natCast, hx.1] at hM
    obtain rfl : cs = [Value.int .u8 (x : Int)] := hM
    rw [Int.toNat_natCast] at hcc hfr
    have hcw : W5.cell? ⟨g, i, none⟩ = some (.int .u8 (x : Int)) := by have := hcc 0 _ rfl; rwa [show i * (Kd.int .u8).sz + 0 = i from by show i * 1 + 0 = i; omega] at this
    have HX := Aside0.mk hx.1
    have hx256 := hx.2
    have HFR := Aside0.mk hfr
    have HGB := Aside0.mk hgb
    have HCG := Aside0.mk hcg
    have HIR := Aside0.mk (show i = p / 8 ∧ r = p % 8 from ⟨hi, hr⟩)
    have HW5 := Aside0.mk hW5
    have HGY := Aside0.mk hgy
    clear hW5 hgy hb24 hb5 hb25 ho5 hcc hfr hx hgb hcg hb4 BK2 HB2 HO HC HDC BK HB hi hr
    go_wp2_with fail
    rw [HP.out, ← HW5.out, ← HGY.out]
    clear HW5 HGY HP
    obtain ⟨hq1, hq2, hq3, hq4⟩ := div8 HIR.out
    have hq0 := wrap_idx hi64
    have hpx : (0 ≤ (i : Int)) = True := eq_true (Int.natCast_nonneg i)
    have hqx : ((i : Int) < 64) = True := eq_true (Int.ofNat_lt.2 hi64)
    have BKYd := Aside0.mk (blk_drew BKY.out)
    have BK5d := Aside0.mk (blk_drew BK5.out)
    have HO5d := Aside0.mk (Kd.R_drew HO5.out)
    have HB5d := Aside0.mk (below_drew1 HB5.out)
    have CW := Aside0.mk (show W5.drew.cell? ⟨g, i, none⟩ = some (.int .u8 (x : Int)) from hcw)
    have FW := Aside0.mk (show W5.drew.frozen? ⟨g, i, none⟩ = false from by have := HFR.out 0; rw [show i * (Kd.int .u8).sz + 0 = i from by show i * 1 + 0 = i; omega] at this; exact this)
    refine start_ (n := 11) (S := fun w' => w'.cell? ⟨g, i, none⟩ = some (.int .u8 (x : Int))) (ds := [10]) #[false, false, false, false, false, false, false, false, false, false, false] (by kernel_rfl) rfl rfl (CW.out) (fun hHeld => ?_)
    refine pure_ (i := 0) (N := some 33) (v := ?_) (a' := ?_) #[true, false, false, false, false, false, false, false, false, false, false] rfl rfl (by kernel_rfl) (fun _ _ _ h => h) (Or.inl ⟨by rfl, ?_⟩) ?_ ?_
    rotate_left
    · intro w'
      go_simp
      with_reducible rfl
    rotate_left
    · simp only [Act.put, List.setIfInBounds_toArray, List.set_cons_zero, List.set_cons_succ, i64_w, i32_w]
      rfl
    refine pure_ (i := 1) (N := some 34) (v := ?_) (a' := ?_) #[true, true, false, false, false, false, false, false, false, false, false] rfl rfl (by kernel_rfl) (fun _ _ _ h => h) (Or.inl ⟨by rfl, ?_⟩) ?_ ?_
    rotate_left
    · intro w'
      go_simp
      with_reducible rfl
    rotate_left
    · simp only [Act.put, List.setIfInBounds_toArray, List.set_cons_zero, List.set_cons_succ, i64_w, i32_w]
      rfl
    refine pure_ (i := 2) (N := some 35) (v := ?_) (a' := ?_) #[true, true, true, false, false, false, false, false, false, false, false] rfl rfl (by kernel_rfl) (fun _ _ _ h => h) (Or.inl ⟨by rfl, ?_⟩) ?_ ?_
    rotate_left
    · intro w'
      go_simp
      with_reducible rfl
    rotate_left
    · simp only [Act.put, List.setIfInBounds_toArray, List.set_cons_zero, List.set_cons_succ, i64_w, i32_w]
      rfl
    refine pure_ (i := 3) (N := some 36) (v := ?_) (a' := ?_) #[true, true, true, true, false, false, false, false, false, false, false] rfl rfl (by kernel_rfl) (fun _ _ _ h => h) (Or.inl ⟨by rfl, ?_⟩) ?_ ?_
    rotate_left
    · intro w'
      go_simp
      with_reducible rfl
    rotate_left
    · simp only [Act.put, List.setIfInBounds_toArray, List.set_cons_zero, List.set_cons_succ, i64_w, i32_w]
      rfl
    refine pure_ (i := 5) (N := some 38) (v := ?_) (a' := ?_) #[true, true, true, true, false, true, false, false, false, false, false] rfl rfl (by kernel_rfl) (fun _ _ _ h => h) (Or.inl ⟨by rfl, ?_⟩) ?_ ?_
    rotate_left
    · intro w'
      go_simp
      with_reducible rfl
    rotate_left
    · simp only [Act.put, List.setIfInBounds_toArray, List.set_cons_zero, List.set_cons_succ, i64_w, i32_w]
      rfl
    refine pure_ (i := 6) (N := some 39) (v := ?_) (a' := ?_) #[true, true, true, true, false, true, true, false, false, false, false] rfl rfl (by kernel_rfl) (fun _ _ _ h => h) (Or.inl ⟨by rfl, ?_⟩) ?_ ?_
    rotate_left
    · intro w'
      go_simp
      with_reducible rfl
    rotate_left
    · simp only [Act.put, List.setIfInBounds_toArray, List.set_cons_zero, List.set_cons_succ, i64_w, i32_w]
      rfl
    refine pure_ (i := 7) (N := some 40) (v := ?_) (a' := ?_) #[true, true, true, true, false, true, true, true, false, false, false] rfl rfl (by kernel_rfl) (fun _ _ _ h => h) (Or.inl ⟨by rfl, ?_⟩) ?_ ?_
    rotate_left
    · intro w'
      go_simp
      with_reducible rfl
    rotate_left
    · simp only [Act.put, List.setIfInBounds_toArray, List.set_cons_zero, List.set_cons_succ, i64_w, i32_w]
      rfl
    refine take_ (i := 4) (N := some 37) (v := ?_) (a' := ?_) #[true, true, true, true, true, true, true, true, false, false, false] rfl rfl (by kernel_rfl) (fun _ _ _ h => h) (Or.inl ⟨by rfl, ?_⟩) hHeld ?_ ?_
    rotate_left
    · intro w' s0
      go_simp
      with_reducible rfl
    rotate_left
    · simp only [Act.put, List.setIfInBounds_toArray, List.set_cons_zero, List.set_cons_succ, i64_w, i32_w]
      rfl
    refine pure_ (i := 8) (N := some 41) (v := ?_) (a' := ?_) #[true, true, true, true, true, true, true, true, true, false, false] rfl rfl (by kernel_rfl) (fun _ _ _ h => h) (Or.inl ⟨by rfl, ?_⟩) ?_ ?_
    rotate_left
    · intro w'
      go_simp
      with_reducible rfl
    rotate_left
    · simp only [Act.put, List.setIfInBounds_toArray, List.set_cons_zero, List.set_cons_succ, i64_w, i32_w]
      rfl
    refine pure_ (i := 9) (N := some 42) (v := ?_) (a' := ?_) #[true, true, true, true, true, true, true, true, true, true, false] rfl rfl (by kernel_rfl) (fun _ _ _ h => h) (Or.inl ⟨by rfl, ?_⟩) ?_ ?_
    rotate_left
    · intro w'
      go_simp
      with_reducible rfl
    rotate_left
    · simp only [Act.put, List.setIfInBounds_toArray, List.set_cons_zero, List.set_cons_succ, i64_w, i32_w]
      rfl
    refine last_ (i := 10) (N := none) #[true, true, true, true, true, true, true, true, true, true, true] rfl rfl (by kernel_rfl) (by decide) (fun K hK => ?_)
    have hf7 := FW.out
    refine skip_ (w1 := ?_) (by rfl) rfl ?_ ?_
    rotate_left
    · go_simp
      rfl
    refine hK.out _ _ ?_
    clear hK K
    refine done_ (by kernel_rfl) ?_
    obtain ⟨hy1, hy2, hy3⟩ := flip_val hx256 hr8
    obtain ⟨y, hy⟩ : ∃ y, y = x ^^^ 2 ^ r := ⟨_, rfl⟩
    rw [← hy] at hy1 hy2 hy3
    rw [hy1]
    obtain ⟨d0, d1, d2, d3, d4, d5, hdec, hd5⟩ := dec_flip (a0 := a0) (a1 := a1) (a2 := a2) (a3 := a3) (a4 := a4) (by omega) (by omega) (by omega) (by omega) (by omega) hi64 HX.out hy2 hy3
    have HDEC := Aside0.mk hdec
    obtain ⟨W8, hW8⟩ : ∃ W8, W8 = (W5.setCell ⟨g, i, none⟩ (.int .u8 (y : Int))).drew := ⟨_, rfl⟩
    have hseg := (Kd.R_seg HO5.out (i : Int) (Int.natCast_nonneg i) (Int.ofNat_lt.2 hi64) (c := [Value.int .u8 (x : Int)]) (seg := [Value.int .u8 (y : Int)]) (j := 0) (by rfl) (fun j u hj => by
      rcases j with _ | j
      · have e : u = Value.int .u8 (x : Int) := by simpa using hj.symm
        rw [e, Int.toNat_natCast, show i * (Kd.int .u8).sz + 0 = i from by show i * 1 + 0 = i; omega]; exact hcw
      · simp at hj) (by show 0 + 1 ≤ 1; decide) (x' := (y : Int)) (okp := fun _ => False) rfl (fun _ h_ => h_.elim)).1
    rw [Int.toNat_natCast, show i * (Kd.int .u8).sz + 0 = i from by show i * 1 + 0 = i; omega] at hseg
    have hl8 : ((sect a0 a1 a2 a3 a4).set i (y : Int)).length = 64 := by rw [List.length_set]; exact sect_length
    have HO8 := Aside0.mk (show (Kd.int .u8).R 5 W8 w1.heap.size (fun _ => True) (.slice (some ⟨g, 0, none⟩) 64 c) ((sect a0 a1 a2 a3 a4).set i (y : Int)) from by rw [hW8]; exact Kd.R_drew hseg)
    have BKY8 := Aside0.mk (show W8.heap[gy]? = some (.cells #[.int .i64 a0, .int .i64 a1, .int .i64 a2, .int .i64 a3, .int .i64 a4] 33 (0, 0)) from by rw [hW8]; exact blk_drew (blk_far BKY.out (p := ⟨g, i, none⟩) (blk_ne BKY.out HCG.out (by decide)) _))
    have BK8 := Aside0.mk (show W8.heap[w.heap.size]? = some (.cells #[.int .i64 a0, .int .i64 a1, .int .i64 a2, .int .i64 a3, .int .i64 a4] 23 (0, 0)) from by rw [hW8]; exact blk_drew (blk_far BK5.out (p := ⟨g, i, none⟩) (blk_ne BK5.out HCG.out (by decide)) _))
    have HB8 := Aside0.mk (show Below w.heap.size w W8 from by rw [hW8]; exact below_drew1 (HB5.out.setCell (p := ⟨g, i, none⟩) (Nat.le_trans hw1.out HGB.out) _))
    have hd8 := super_Decode.calls (some ⟨g, 0, none⟩) c ((sect a0 a1 a2 a3 a4).set i (y : Int)) d0 d1 d2 d3 d4 d5 W8 (Kd.R_reads' HO8.out).2.2 (by rw [hl8]; exact hc) HDEC.out
    rw [hl8] at hd8
    have HD8 := Aside0.mk hd8
    rw [← hW8]
    clear hW8 hseg hd8 hHeld hf7 hq0 hq1 hq2 hq3 hq4 hpx hqx BKYd BK5d HO5d HB5d CW FW HFR hcw BKY BK5 HB5 HO5 hgl hy hy1 hdec hl8
    have h5b : (d5 != 0) = true := bne_iff_ne.2 hd5
    go_wp2_with fail
    refine HD8.out.mono ?_
    rintro e w9 ⟨rfl, hb9⟩
    have BKY9 := Aside0.mk (blk_below BKY8.out hb9)
    have BK9 := Aside0.mk (blk_below BK8.out hb9)
    have HB9 := Aside0.mk (below_step HB8.out hb9)
    clear hb9 HD8 BKY8 BK8 HB8 HO8
    go_wp2_with fail
    refine (transeptlaw06_num.calls 0 0 _ rfl).mono ?_
    rintro e w10 ⟨rfl, ⟨⟨m10, rfl⟩⟩⟩
    obtain ⟨W10, hW10⟩ : ∃ W10, W10 = (w9.alloc (.cells #[.int .i64 d0, .int .i64 d1, .int .i64 d2, .int .i64 d3, .int .i64 d4] 33)).drewN m10 := ⟨_, rfl⟩
    have hb10 : Below w9.heap.size w9 W10 := by rw [hW10]; exact pw_below_drewN (below_alloc (Below.refl _ _) _) _
    have BKY10 := Aside0.mk (blk_below BKY9.out hb10)
    have BK10 := Aside0.mk (blk_below BK9.out hb10)
    have HB10 := Aside0.mk (below_step HB9.out hb10)
    rw [← hW10]
    clear hW10 hb10 BKY9 BK9 HB9
    have y0 : W10.cell? ⟨gy, 0, none⟩ = some (.int .i64 a0) := (blk_cell BKY10.out 0).trans rfl
    have y1 : W10.cell? ⟨gy, 1, none⟩ = some (.int .i64 a1) := (blk_cell BKY10.out 1).trans rfl
    have y2 : W10.cell? ⟨gy, 2, none⟩ = some (.int .i64 a2) := (blk_cell BKY10.out 2).trans rfl
    have y3 : W10.cell? ⟨gy, 3, none⟩ = some (.int .i64 a3) := (blk_cell BKY10.out 3).trans rfl
    have y4 : W10.cell? ⟨gy, 4, none⟩ = some (.int .i64 a4) := (blk_cell BKY10.out 4).trans rfl
    have z0 : W10.cell? ⟨w.heap.size, 0, none⟩ = some (.int .i64 a0) := (blk_cell BK10.out 0).trans rfl
    have z1 : W10.cell? ⟨w.heap.size, 1, none⟩ = some (.int .i64 a1) := (blk_cell BK10.out 1).trans rfl
    have z2 : W10.cell? ⟨w.heap.size, 2, none⟩ = some (.int .i64 a2) := (blk_cell BK10.out 2).trans rfl
    have z3 : W10.cell? ⟨w.heap.size, 3, none⟩ = some (.int .i64 a3) := (blk_cell BK10.out 3).trans rfl
    have z4 : W10.cell? ⟨w.heap.size, 4, none⟩ = some (.int .i64 a4) := (blk_cell BK10.out 4).trans rfl
    go_wp2_with fail
    refine (transeptlaw06_num.calls d5 d5 _ rfl).mono ?_
    rintro e w11 ⟨rfl, ⟨⟨m11, rfl⟩⟩⟩
    go_wp2_with fail
    go_ret
    exact ⟨rfl, pw_below_drewN HB10.out _⟩
  · have HE := Aside0.mk (show super_Encode.f a0 a1 a2 a3 a4 = some ([], 4) from by unfold super_Encode.f; rw [if_neg hok])
    clear hok
    go_wp2_with fail
    refine (super_Encode.calls _ _ _ _ _ _ _ _ HE.out).mono ?_
    rintro e w2 ⟨v2, rfl, ho, hb⟩
    obtain ⟨A, c, ev⟩ := Kd.R_slice ho
    subst ev
    have HB2 := Aside0.mk (below_step HB.out hb)
    rw [List.length_nil]
    clear ho hb c0 c1 c2 c3 c4 HE
    go_wp2_with fail
    refine (transeptlaw06_num.calls 4 4 _ rfl).mono ?_
    rintro e w3 ⟨rfl, ⟨⟨m3, rfl⟩⟩⟩
    go_wp2_with fail
    go_ret
    exact ⟨rfl, pw_below_drewN HB2.out _⟩
end Go.Proofs.Ytiiphlfgdkjjiaa.Q
