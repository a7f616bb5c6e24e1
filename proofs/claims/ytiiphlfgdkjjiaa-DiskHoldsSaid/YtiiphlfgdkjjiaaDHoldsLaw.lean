/- DiskHolds, walked by hand: it answers true; no condition. -/
import Derived.Test.YtiiphlfgdkjjiaaDHoldsPlain
import Derived.Test.YtiiphlfgdkjjiaaWZeros
import Derived.Test.YtiiphlfgdkjjiaaQ9
import Derived.Test.YtiiphlfgdkjjiaaQ13
import Derived.Test.YtiiphlfgdkjjiaaQ15
namespace Go.Proofs.Ytiiphlfgdkjjiaa.Q
open Go.RowKit Go.Proofs.YtiiphlfgdkjjiaaW.PrintWords Go.Proofs.YtiiphlfgdkjjiaaW.PrintLast Go.Proofs.YtiiphlfgdkjjiaaW.PrintMore
set_option linter.unusedVariables false
set_option linter.unusedSimpArgs false
attribute [local go_sem] max2_int min2_int max_two min_two

theorem take_min (y : List Int) : y.take 64 = y.take (min y.length 64) := by
  have h : (y.take 64).take y.length = y.take 64 := List.take_of_length_le (by rw [List.length_take]; omega)
  rw [← h, List.take_take]
theorem min_if (a : Nat) : (if 64 < (a : Int) then (64 : Int) else (a : Int)) = ((min a 64 : Nat) : Int) := by split <;> omega
def okHo (a0 : Int) (l1 : List Int) (l2 : List (List Int)) : Bool := decide (-9223372036854775808 ≤ a0) && decide (a0 ≤ 9223372036854775807) && decide (l1.length < 4611686018427387904) && decide (l2.length < 4611686018427387904)
theorem okHo_out {a0 : Int} {l1 : List Int} {l2 : List (List Int)} (h : okHo a0 l1 l2 = true) : (-9223372036854775808 ≤ a0 ∧ a0 ≤ 9223372036854775807) ∧ l1.length < 4611686018427387904 ∧ l2.length < 4611686018427387904 := by
  simp only [okHo, Bool.and_eq_true, decide_eq_true_eq] at h
  exact ⟨h.1.1, h.1.2, h.2⟩
def transeptlaw04_DiskHolds.f (k : Nat) (a0 : Int) (l1 : List Int) (l2 : List (List Int)) (l3 : List Bool) : Option Bool :=
  if okHo a0 l1 l2 = true then some true else none

set_option maxHeartbeats 8000000 in
set_option maxRecDepth 100000 in
theorem transeptlaw04_DiskHolds.calls (k : Nat) (a0 : Int) (A1 : Option Addr) (c1 : Nat) (l1 : List Int) (A2 : Option Addr) (c2 : Nat) (l2 : List (List Int)) (A3 : Option Addr) (c3 : Nat) (l3 : List Bool) (r : Bool) (w : World) (hr1 : Kd.C (Kd.int .i64) w A1 l1.length l1) (hc1 : l1.length ≤ c1) (hr2 : Kd.C kB w A2 l2.length l2) (hc2 : l2.length ≤ c2) (hr3 : Kd.C Kd.bool w A3 l3.length l3) (hc3 : l3.length ≤ c3) (h : transeptlaw04_DiskHolds.f k a0 l1 l2 l3 = some r) :
    Calls Try.prog 7 #[.int .i64 a0, .slice A1 l1.length c1, .slice A2 l2.length c2, .slice A3 l3.length c3] w fun e w' => e = .returned (.bool r) ∧ Below w.heap.size w w' := by
  have hu30 := Try.underlying28
  have hu28 := Try.underlying61
  have HR1 := Aside0.mk hr1
  have HC1 := Aside0.mk hc1
  have HR2 := Aside0.mk hr2
  have HC2 := Aside0.mk hc2
  have HR3 := Aside0.mk hr3
  have HC3 := Aside0.mk hc3
  clear hr1 hc1 hr2 hc2 hr3 hc3
  unfold transeptlaw04_DiskHolds.f at h
  have hok : okHo a0 l1 l2 = true := by
    by_cases c : okHo a0 l1 l2 = true
    · exact c
    · rw [if_neg c] at h; exact absurd h (by simp)
  rw [if_pos hok] at h
  obtain rfl := Option.some.inj h
  obtain ⟨ha0, hl1, hl2⟩ := okHo_out hok
  clear h hok
  have ht1 := Int.lt_tmod_of_pos a0 (b := 20) (by omega)
  have ht1b := Int.tmod_lt_of_pos a0 (b := 20) (by omega)
  have ht2 := Int.tmod_nonneg (a := Int.tmod a0 20 + 20) 20 (by omega)
  have ht3 := Int.tmod_lt_of_pos (Int.tmod a0 20 + 20) (b := 20) (by omega)
  obtain ⟨n, hn⟩ : ∃ n : Nat, 1 + Int.tmod (Int.tmod a0 20 + 20) 20 = (n : Int) := ⟨(1 + Int.tmod (Int.tmod a0 20 + 20) 20).toNat, by omega⟩
  have hn1 : 1 ≤ n := by omega
  have hn20 : n ≤ 20 := by omega
  have HNE := Aside0.mk (show wrap64 (1 + (wrap64 (a0.tmod 20 + 20)).tmod 20) = (n : Int) from by rw [wrapi (i := a0.tmod 20 + 20) (by omega) (by omega), wrapi (by omega) (by omega)]; exact hn)
  clear ht1 ht1b ht2 ht3 hn ha0
  go_enter Try.func7, Try.ntmps7
  go_wp2_with fail
  refine (transeptlaw04_alive.calls true _ rfl).mono ?_
  rintro e w3 ⟨rfl, hb⟩
  have HB := Aside0.mk hb
  clear hb
  go_wp2_with fail
  rw [HNE.out]
  clear HNE
  refine (disk_New.calls (n : Int) (ZH n) [] 0 _ (new_f hn1 hn20)).mono ?_
  rintro e w4 ⟨v0, v1, rfl, hs, ht, hb⟩
  obtain ⟨A0, c0, e0⟩ := Kd.S_slice hs
  subst e0
  obtain ⟨B0, d0, e1⟩ := Kd.S_slice ht
  subst e1
  rw [List.length_replicate] at hs
  have HS := Aside0.mk (Kd.S_lower hs HB.out.size)
  have HT := Aside0.mk (Kd.S_lower ht HB.out.size)
  replace HB := Aside0.mk (below_step HB.out hb)
  rw [List.length_replicate]
  clear hb hs ht
  go_wp2_with fail
  refine (transeptlaw04_num.calls 0 0 _ rfl).mono ?_
  rintro e w5 ⟨rfl, ⟨⟨m1, rfl⟩⟩⟩
  obtain ⟨gs, hgs⟩ : ∃ gs, gs = w4.heap.size := ⟨_, rfl⟩
  obtain ⟨W5, hW5⟩ : ∃ W5, W5 = (w4.alloc (.cells #[.slice A0 n c0, .slice B0 0 d0] 28)).drewN m1 := ⟨_, rfl⟩
  have hb5 : Below w4.heap.size w4 W5 := by rw [hW5]; exact pw_below_drewN (below_alloc (Below.refl _ _) _) _
  have BKS := Aside0.mk (show W5.heap[gs]? = some (.cells #[.slice A0 n c0, .slice B0 0 d0] 28 (0, 0)) from by rw [hW5, hgs]; exact blk_new _ _)
  have GS := Aside0.mk (show w.heap.size ≤ gs from by have := HB.out.size; omega)
  replace HS := Aside0.mk (Kd.S_below HS.out hb5)
  replace HT := Aside0.mk (Kd.S_below HT.out hb5)
  replace HB := Aside0.mk (below_step HB.out hb5)
  have hgsl : gs < W5.heap.size := blk_lt BKS.out
  rw [← hW5, ← hgs]
  clear hW5 hgs hb5
  go_wp2_with (first
    | ((with_reducible refine gate_dst (N := 45) rfl ?_); refine Kd.S_make kB (w0 := w) w.heap.size 50 rfl (N := 45) rfl 25 _ _ rfl (n : Int) rfl rfl Try.underlying25 (.slice none 0 0) 24 info50 rfl (by show 0 < 1; decide) (by omega) ([] : List Int) (ok := fun k => W5.heap.size ≤ k) (okp := fun k => W5.heap.size ≤ k) ⟨_, rfl, Kd.R_nil _ _ _ _ _⟩ (fun _ hk => hk) (Nat.le_refl _) (by omega) (by omega) HB.out HB.out.size ?_
       intro v6 w6 ho6 hb6 hg6 hx6
       rw [Int.toNat_natCast] at ho6
       obtain ⟨AL, cl, ev6⟩ := Kd.S_slice ho6
       subst ev6
       rw [List.length_replicate] at ho6
       rw [List.length_replicate]
       have HL := Aside0.mk ho6
       have HS6 := Aside0.mk (Kd.S_mono (Kd.S_grown (Kd.S_bound HS.out) hg6 (fun k hk e_ => by cases e_)) (fun k hk => (Nat.not_le_of_lt hk.2.2.1 : ¬ W5.heap.size ≤ k)))
       have HT6 := Aside0.mk (Kd.S_mono (Kd.S_grown (Kd.S_bound HT.out) hg6 (fun k hk e_ => by cases e_)) (fun k hk => (Nat.not_le_of_lt hk.2.2.1 : ¬ W5.heap.size ≤ k)))
       have BKS6 := Aside0.mk ((hg6.block gs hgsl (fun e_ => by cases e_)).trans BKS.out)
       have HB6 := Aside0.mk hb6
       clear ho6 hb6 hg6 hx6 HS HT BKS HB))
  obtain ⟨J, hJ⟩ : ∃ J, J = min (min l1.length l2.length) 60 := ⟨_, rfl⟩
  have hJ1 : J ≤ l1.length := by omega
  have hJ2 : J ≤ l2.length := by omega
  have hJ3 : J ≤ 60 := by omega
  have HJ := Aside0.mk (show J = l1.length ∨ J = l2.length ∨ J = 60 from by omega)
  clear hJ
  go_loopw [12] (fun v wr => ∃ j : Nat, j ≤ J ∧ v = .int .i64 j ∧ ∃ (Aj : Option Addr) (cj : Nat) (Bj : Option Addr) (dj : Nat) (p : Nat → Prop), Hid (wr.heap[gs]? = some (.cells #[.slice Aj n cj, .slice Bj j dj] 28 (0, 0))) ∧ Hid (Kd.S kB 50 wr w.heap.size (fun k => ¬ p k) (.slice Aj n cj) (ZH n)) ∧ Hid (Kd.S kW 61 wr w.heap.size (fun k => ¬ p k) (.slice Bj j dj) (wsH n l1 l2 j)) ∧ Hid (Kd.S kB 50 wr w.heap.size p (.slice AL n cl) (lastH n l1 l2 j)) ∧ Hid (Below w.heap.size w wr)) (fun v _ => J - (intOf v).toNat)
  case atStart => exact ⟨0, by omega, rfl, A0, c0, B0, d0, fun k => W5.heap.size ≤ k, BKS6.out, HS6.out, HT6.out, HL.out, HB6.out⟩
  case round =>
    clear HS6 HT6 BKS6 HB6 HL hgsl
    obtain ⟨j, hj, rfl, Aj, cj, Bj, dj, p, BKS, HS, HT, HL, HB⟩ := hrel
    by_cases hlt : j < J
    · have hj1 : j < l1.length := by omega
      have hj2 : j < l2.length := by omega
      have hj3 : decide ((j : Int) < 60) = true := decide_eq_true (by omega)
      obtain ⟨ad1, e1, hx1⟩ := Kd.at_int (Kd.C_below HR1.out HB) (j : Int) (by omega) (by omega)
      subst e1
      obtain ⟨ad2, A, c, e2, hx2w, hlc, hC⟩ := at_L2 HR2.out (j : Int) (by omega) (by omega)
      subst e2
      rw [Int.toNat_natCast] at hx1 hx2w
      have hx2 := pw_cell_below HB hx2w
      clear hx2w
      obtain ⟨q, hq⟩ : ∃ q : Nat, secOf n (l1.getD j 0) = (q : Int) := ⟨(secOf n (l1.getD j 0)).toNat, by have := secOf_range hn1 (l1.getD j 0); omega⟩
      have hqn : q < n := by have := secOf_range hn1 (l1.getD j 0); omega
      have HSEC := Aside0.mk (show (wrap64 ((rd l1 (j : Int)).tmod n + n)).tmod n = (q : Int) from by
        have h1 := Int.lt_tmod_of_pos (l1.getD j 0) (b := (n : Int)) (by omega)
        have h2 := Int.tmod_lt_of_pos (l1.getD j 0) (b := (n : Int)) (by omega)
        rw [rd, Int.toNat_natCast, wrapi (by omega) (by omega)]; exact hq)
      obtain ⟨y, hy⟩ : ∃ y, rd_L2 l2 (j : Int) = y := ⟨_, rfl⟩
      obtain ⟨m, hm⟩ : ∃ m : Nat, m = min y.length 64 := ⟨_, rfl⟩
      have HY := Aside0.mk (show cutOf l2 j = y.take m from by rw [cutOf, hm, ← take_min, ← hy, rd_L2, Int.toNat_natCast])
      rw [hy] at hx2 hlc hC
      have hm1 : m ≤ y.length := by omega
      have hm2 : m ≤ 64 := by omega
      have HM := Aside0.mk (show (if 64 < (y.length : Int) then (64 : Int) else (y.length : Int)) = (m : Int) from by rw [hm]; exact min_if _)
      have HC := Aside0.mk (Kd.C_take hC hm1)
      obtain ⟨i0, hi0, _, hsz0, _⟩ := info_parts info5
      have hcut := cut_to (P := Try.prog) 50 5 .i64 Try.underlying50 hi0 A y.length c (m : Int) (by omega) (by omega) hlc
      rw [Int.toNat_natCast] at hcut
      have HQ := Aside0.mk hq
      clear hC hy hm hq
      have hpj : 0 ≤ (j : Int) := by omega
      go_wp2_with fail
      rw [HSEC.out]
      clear HSEC
      have hmm := HM.out
      go_quiet (fail)
      clear hmm HM hcut hx1 hx2 hpj hi0 hsz0
      obtain ⟨W1, hW1⟩ : ∃ W1, W1 = wr.drewN nq := ⟨_, rfl⟩
      have hbq : Below wr.heap.size wr W1 := by rw [hW1]; exact pw_below_drewN (Below.refl _ _) _
      rw [← hW1]
      clear hW1
      have HS1 := Aside0.mk (Kd.S_below HS hbq)
      have HT1 := Aside0.mk (Kd.S_below HT hbq)
      have HL1 := Aside0.mk (Kd.S_below HL hbq)
      have BKS1 := Aside0.mk (blk_below BKS hbq)
      have HB1 := Aside0.mk (below_step HB hbq)
      clear HS HT HL BKS HB hbq
      have hz0 : W1.cell? ⟨gs, 0, none⟩ = some (.slice Aj n cj) := (blk_cell BKS1.out 0).trans rfl
      have hz1 : W1.cell? ⟨gs, 1, none⟩ = some (.slice Bj j dj) := (blk_cell BKS1.out 1).trans rfl
      have hlm : (y.take m).length = m := by rw [List.length_take]; omega
      have HPUT := disk_Put.calls 1000 Aj cj (ZH n) Bj dj (wsH n l1 l2 j) (q : Int) A c (y.take m) (ZH n) (wsH n l1 l2 (j + 1)) 0 W1 (Kd.S_reads' HS1.out).2.2 (by have := (Kd.S_reads' HS1.out); omega) (Kd.S_reads' HT1.out).2.2 (by have := (Kd.S_reads' HT1.out); omega) (Kd.C_below HC.out HB1.out) (by omega) (by have h_ := hput_f (l1 := l1) (l2 := l2) hn1 hn20 (j := j) (by omega); rwa [HQ.out, HY.out] at h_)
      rw [hlm, wsH_length, List.length_replicate] at HPUT
      have HPUT := Aside0.mk HPUT
      have HLM := Aside0.mk hlm
      clear hlm
      go_wp2_with fail
      refine HPUT.out.mono ?_
      rintro e w7 ⟨v7, u7, rfl, hs7, ht7, hb7⟩
      clear HPUT hz0 hz1
      obtain ⟨A7, c7, e7⟩ := Kd.S_slice hs7
      subst e7
      obtain ⟨B7, d7, e7⟩ := Kd.S_slice ht7
      subst e7
      rw [List.length_replicate] at hs7
      rw [wsH_length] at ht7
      rw [wsH_length, List.length_replicate]
      obtain ⟨M, hM⟩ : ∃ M, M = W1.heap.size := ⟨_, rfl⟩
      have HS7 := Aside0.mk (Kd.S_lower (Kd.S_mono (Kd.S_bound hs7) (fun k hk => (⟨hM ▸ hk.2.1, hk.2.2.1⟩ : M ≤ k ∧ k < w7.heap.size))) HB1.out.size)
      have HT7 := Aside0.mk (Kd.S_lower (Kd.S_mono (Kd.S_bound ht7) (fun k hk => (⟨hM ▸ hk.2.1, hk.2.2.1⟩ : M ≤ k ∧ k < w7.heap.size))) HB1.out.size)
      have HM7 := Aside0.mk (show M ≤ w7.heap.size from by rw [hM]; exact hb7.size)
      have HL7 := Aside0.mk (Kd.S_mono (Kd.S_old HL1.out hb7) (fun k hk => (⟨hk.1, hM ▸ hk.2⟩ : p k ∧ k < M)))
      have BKS7 := Aside0.mk (blk_below BKS1.out hb7)
      have HB7 := Aside0.mk (below_step HB1.out hb7)
      clear hs7 ht7 hb7 HS1 HT1 HL1 BKS1 HB1 hM
      go_wp2_with fail
      refine (transeptlaw04_num.calls 0 0 _ rfl).mono ?_
      rintro e w8 ⟨rfl, ⟨⟨m8, rfl⟩⟩⟩
      obtain ⟨gt, hgt⟩ : ∃ gt, gt = w7.heap.size := ⟨_, rfl⟩
      obtain ⟨W8, hW8⟩ : ∃ W8, W8 = (w7.alloc (.cells #[.slice A7 n c7, .slice B7 (j + 1) d7] 28)).drewN m8 := ⟨_, rfl⟩
      have hb8 : Below w7.heap.size w7 W8 := by rw [hW8]; exact pw_below_drewN (below_alloc (Below.refl _ _) _) _
      have BKT8 := Aside0.mk (show W8.heap[gt]? = some (.cells #[.slice A7 n c7, .slice B7 (j + 1) d7] 28 (0, 0)) from by rw [hW8, hgt]; exact blk_new _ _)
      have HS8 := Aside0.mk (Kd.S_below HS7.out hb8)
      have HT8 := Aside0.mk (Kd.S_below HT7.out hb8)
      have HL8 := Aside0.mk (Kd.S_below HL7.out hb8)
      have BKS8 := Aside0.mk (blk_below BKS7.out hb8)
      have HB8 := Aside0.mk (below_step HB7.out hb8)
      rw [← hW8, ← hgt]
      have NT := Aside0.mk (show gt ≠ gs from by have := blk_lt BKS7.out; omega)
      have HSZ := Aside0.mk hb8.size
      clear hW8 hgt hb8 HS7 HT7 HL7 BKS7 HB7
      have hz0 : W8.cell? ⟨gt, 0, none⟩ = some (.slice A7 n c7) := (blk_cell BKT8.out 0).trans rfl
      have hz1 : W8.cell? ⟨gt, 1, none⟩ = some (.slice B7 (j + 1) d7) := (blk_cell BKT8.out 1).trans rfl
      have hy0 : W8.cell? ⟨gs, 0, none⟩ = some (.slice Aj n cj) := (blk_cell BKS8.out 0).trans rfl
      have hy1 : W8.cell? ⟨gs, 1, none⟩ = some (.slice Bj j dj) := (blk_cell BKS8.out 1).trans rfl
      have hf0 := blk_frozen BKS8.out 0
      have hf1 := blk_frozen BKS8.out 1
      go_wp2_with fail
      obtain ⟨W9, hW9⟩ : ∃ W9, W9 = (W8.setCell ⟨gs, 0, none⟩ (.slice A7 n c7)).setCell ⟨gs, 1, none⟩ (.slice B7 (j + 1) d7) := ⟨_, rfl⟩
      have hs9 : W9.heap.size = W8.heap.size := by rw [hW9]; simp
      have BKS8' := blk_put BKS8.out 0 (.slice A7 n c7) rfl
      have BKS9 := Aside0.mk (show W9.heap[gs]? = some (.cells #[.slice A7 n c7, .slice B7 (j + 1) d7] 28 (0, 0)) from by rw [hW9]; exact blk_put BKS8' 1 _ rfl)
      have HS9 := Aside0.mk (show Kd.S kB 50 W9 w.heap.size (fun k => M ≤ k ∧ k < w7.heap.size) (.slice A7 n c7) (ZH n) from by rw [hW9]; exact Kd.S_set (Kd.S_set HS8.out BKS8.out (by decide) 0 _) BKS8' (by decide) 1 _)
      have HT9 := Aside0.mk (show Kd.S kW 61 W9 w.heap.size (fun k => M ≤ k ∧ k < w7.heap.size) (.slice B7 (j + 1) d7) (wsH n l1 l2 (j + 1)) from by rw [hW9]; exact Kd.S_set (Kd.S_set HT8.out BKS8.out (by decide) 0 _) BKS8' (by decide) 1 _)
      have HL9 := Aside0.mk (show Kd.S kB 50 W9 w.heap.size (fun k => p k ∧ k < M) (.slice AL n cl) (lastH n l1 l2 j) from by rw [hW9]; exact Kd.S_set (Kd.S_set HL8.out BKS8.out (by decide) 0 _) BKS8' (by decide) 1 _)
      have HB9 := Aside0.mk (show Below w.heap.size w W9 from by rw [hW9]; exact (HB8.out.setCell (p := ⟨gs, 0, none⟩) GS.out _).setCell (p := ⟨gs, 1, none⟩) GS.out _)
      have HSZ9 := Aside0.mk (show w7.heap.size ≤ W9.heap.size from by rw [hs9]; exact HSZ.out)
      have HCP := transeptplain_CopyBytes.calls A c (y.take m) (y.take m) W9 (Kd.C_below HC.out HB9.out) (by have := HLM.out; omega) (copyBytes (by have := HLM.out; omega))
      rw [HLM.out] at HCP
      have HCP := Aside0.mk HCP
      rw [← hW9]
      clear hW9 hs9 BKS8' HS8 HT8 HL8 BKS8 BKT8 HB8 HSZ hz0 hz1 hy0 hy1 hf0 hf1 NT
      refine HCP.out.mono ?_
      rintro e w10 ⟨v10, rfl, ho10, hb10⟩
      obtain ⟨A10, c10, e10⟩ := Kd.R_slice ho10
      subst e10
      rw [HLM.out] at ho10
      rw [HLM.out]
      have HO := Aside0.mk ho10
      have HBW := Aside0.mk hb10
      clear ho10 hb10 HCP
      go_wp2_with (first
        | ((with_reducible refine gate_dst (N := 101) rfl ?_); refine Kd.R_append_zeros (Kd.int .u8) (w0 := W9) W9.heap.size rfl (.tmp 97) (.tmp 100) 50 3 5 (.int .u8 0) 1 rfl Try.underlying50 Try.underlying3 info5 rfl (by decide) (by omega) (.slice A10 m c10) (y.take m) 0 (64 - (m : Int)) (fun k => W9.heap.size ≤ k) rfl rfl rfl ?aF ?aO (by omega) ?aB ?aS ?aL ?_
           (case aF => exact fun k hk => Nat.le_trans HBW.out.size hk)
           (case aO => exact Kd.R_mono (Kd.R_bound HO.out) (fun k hk => hk.2.1))
           (case aB => exact HBW.out)
           (case aS => exact HBW.out.size)
           (case aL => rw [HLM.out]; omega)
           intro v11 w11 ho11 hb11 hg11 hx11
           obtain ⟨A11, c11, e11⟩ := Kd.R_slice ho11
           subst e11
           have HO11 := Aside0.mk ho11
           have HB11 := Aside0.mk (below_step HB9.out hb11)
           have BKS11 := Aside0.mk (blk_below BKS9.out hb11)
           have HS11 := Aside0.mk (Kd.S_below HS9.out hb11)
           have HT11 := Aside0.mk (Kd.S_below HT9.out hb11)
           have HL11 := Aside0.mk (Kd.S_mono (Kd.S_below HL9.out hb11) (fun k hk => ⟨.inl hk, fun h_ => by have h1 := hk.2; have h2 := HM7.out; have h3 := HSZ9.out; omega⟩ : ∀ k, p k ∧ k < M → (p k ∧ k < M ∨ W9.heap.size ≤ k) ∧ ¬ W9.heap.size ≤ k))
           have HLN := Aside0.mk (show (y.take m ++ List.replicate (64 - (m : Int)).toNat 0) = padded (cutOf l2 j) from by rw [HY.out, padded, HLM.out]; congr 2; omega)
           rw [HLN.out] at HO11
           rw [HLN.out]
           have HPL := Aside0.mk (padded_length (cutOf_le l2 j))
           rw [HPL.out] at HO11
           rw [HPL.out]
           clear ho11 hb11 hg11 hx11 HS9 HT9 HL9 BKS9 HO
           obtain ⟨g, c0', eL, hgb, hgl, cg, hcg⟩ := Kd.S_form HL11.out (by rw [lastH_length]; omega)
           rw [lastH_length] at eL
           injection eL with eA _ eC
           subst eA eC
           obtain ⟨oki, cc, hcl, hM, hcc, hfr, hoki, hH⟩ := Kd.S_elem HL11.out ([] : List Int) (q : Int) (by omega) (by omega)
           obtain ⟨u, rfl, _⟩ := hM
           rw [Int.toNat_natCast] at hcc hfr
           have hcw : w11.cell? ⟨g, q, none⟩ = some u := by have := hcc 0 _ rfl; rwa [show q * (kB).sz + 0 = q from by show q * 1 + 0 = q; omega] at this
           have hfw : w11.frozen? ⟨g, q, none⟩ = false := by have := hfr 0; rwa [show q * (kB).sz + 0 = q from by show q * 1 + 0 = q; omega] at this
           have HH := Aside0.mk hH
           have HGN := Aside0.mk hcg
           have HGB := Aside0.mk hgb
           have HOKI := Aside0.mk (fun k h_ => (hoki k h_).2 : ∀ k, oki k → k ≠ g)
           clear hcg hH hcc hfr hcl hoki hgb hgl))
      have hgo := (Kd.S_R HL11.out).1 g (by simp [Value.ownBlock])
      have hgM : g < M := by rcases hgo with ⟨h1 | h1, h2⟩; · exact h1.2
                             · exact absurd h1 h2
      have hs12 := (Kd.S_seg (ok := fun k => p k ∧ k < M ∨ W9.heap.size ≤ k) (okg := fun k => W9.heap.size ≤ k) HH.out (by omega) (by omega) (seg := [.slice A11 64 c11]) (j := 0) (by show 0 + 1 ≤ 1; decide) (x' := padded (cutOf l2 j)) (okp := fun k => W9.heap.size ≤ k)
        (⟨_, rfl, Kd.R_lower HO11.out HB9.out.size⟩ : kB.M w11 w.heap.size (fun k => W9.heap.size ≤ k) (padded (cutOf l2 j)) [.slice A11 64 c11]) (fun k hk => .inr hk) (fun k hk => ⟨.inr hk, fun e_ => by have := hgo.2; rw [e_] at hk; exact this hk⟩)).1
      rw [Int.toNat_natCast, show q * (kB).sz + 0 = q from by show q * 1 + 0 = q; omega] at hs12
      have hn1 : gs ≠ g := blk_ne BKS11.out HGN.out (by decide)
      have HR12 := Lib.hid (blk_far BKS11.out (p := ⟨g, q, none⟩) hn1 (.slice A11 64 c11))
      have HS12 := Lib.hid (Kd.S_mono (Kd.S_far HS11.out (p := ⟨g, q, none⟩) (fun k hk e_ => by have h1 := hk.1; rw [e_] at h1; exact absurd hgM (Nat.not_lt_of_le h1)) (.slice A11 64 c11)) (fun k hk h_ => by have h1 := hk.1; have h2 := hk.2; have h3 := HSZ9.out; rcases h_ with h_ | h_ <;> omega : ∀ k, M ≤ k ∧ k < w7.heap.size → ¬ (p k ∧ k < M ∨ W9.heap.size ≤ k)))
      have HT12 := Lib.hid (Kd.S_mono (Kd.S_far HT11.out (p := ⟨g, q, none⟩) (fun k hk e_ => by have h1 := hk.1; rw [e_] at h1; exact absurd hgM (Nat.not_lt_of_le h1)) (.slice A11 64 c11)) (fun k hk h_ => by have h1 := hk.1; have h2 := hk.2; have h3 := HSZ9.out; rcases h_ with h_ | h_ <;> omega : ∀ k, M ≤ k ∧ k < w7.heap.size → ¬ (p k ∧ k < M ∨ W9.heap.size ≤ k)))
      have HL12 := Lib.hid (show Kd.S kB 50 (w11.setCell ⟨g, q, none⟩ (.slice A11 64 c11)) w.heap.size (fun k => p k ∧ k < M ∨ W9.heap.size ≤ k) (.slice (some ⟨g, 0, none⟩) n cl) (lastH n l1 l2 (j + 1)) from by rw [lastH, HQ.out, Int.toNat_natCast]; exact hs12)
      have HB12 := Lib.hid (HB11.out.setCell (p := ⟨g, q, none⟩) HGB.out (.slice A11 64 c11))
      clear hs12 HS11 HT11 HL11 BKS11 HB11 HH HGN HGB HOKI hcw hfw hn1
      go_roundw
      case rel => exact ⟨j + 1, by omega, by go_num, A7, c7, B7, d7, _, HR12, HS12, HT12, HL12, HB12⟩
      case measure => simp [intOf]; omega
    · obtain rfl : j = J := by omega
      have HS1 := Aside0.mk HS.out
      have HT1 := Aside0.mk HT.out
      have HL1 := Aside0.mk HL.out
      have BKS1 := Aside0.mk BKS.out
      have HB1 := Aside0.mk HB.out
      have hz0 : wr.cell? ⟨gs, 0, none⟩ = some (.slice Aj n cj) := (blk_cell BKS1.out 0).trans rfl
      have hz1 : wr.cell? ⟨gs, 1, none⟩ = some (.slice Bj j dj) := (blk_cell BKS1.out 1).trans rfl
      have HFL := disk_Flush.calls 1000 Aj cj (ZH n) Bj dj (wsH n l1 l2 j) (LH n l1 l2 j) [] 0 wr (Kd.S_reads' HS1.out).2.2 (by have := (Kd.S_reads' HS1.out); omega) (Kd.S_reads' HT1.out).2.2 (by have := (Kd.S_reads' HT1.out); omega) (hflush_f hn1 hn20 hJ3)
      rw [wsH_length, List.length_replicate] at HFL
      have HFL := Aside0.mk HFL
      have hcs : (¬ j < l1.length) ∨ (j < l1.length ∧ ¬ j < l2.length) ∨ (j < l1.length ∧ j < l2.length ∧ decide ((j : Int) < 60) = false) := by
        rcases HJ.out with h_ | h_ | h_
        · exact .inl (by omega)
        · by_cases c_ : j < l1.length
          · exact .inr (.inl ⟨c_, by omega⟩)
          · exact .inl c_
        · by_cases c_ : j < l1.length
          · by_cases d_ : j < l2.length
            · exact .inr (.inr ⟨c_, d_, decide_eq_false (by omega)⟩)
            · exact .inr (.inl ⟨c_, d_⟩)
          · exact .inl c_
      clear hlt hj HS HT HL BKS HB HJ hJ1 hJ2
      rcases hcs with hc1_ | ⟨hc1_, hc2_⟩ | ⟨hc1_, hc2_, hc3_⟩
      all_goals
        go_wp2_with fail
        refine HFL.out.mono ?_
        rintro e w20 ⟨v20, u20, rfl, hs20, ht20, hb20⟩
        clear hz0 hz1 HFL
        obtain ⟨A20, c20, e20⟩ := Kd.S_slice hs20
        subst e20
        obtain ⟨B20, d20, e20⟩ := Kd.S_slice ht20
        subst e20
        rw [LH_length] at hs20
        rw [LH_length, List.length_nil]
        rw [List.length_nil] at ht20
        have HS2 := Aside0.mk (Kd.S_below HS1.out hb20)
        have HT2 := Aside0.mk (Kd.S_below HT1.out hb20)
        have HL2 := Aside0.mk (Kd.S_below HL1.out hb20)
        have BKS2 := Aside0.mk (blk_below BKS1.out hb20)
        have HF2 := Aside0.mk (Kd.S_lower hs20 HB1.out.size)
        have HG2 := Aside0.mk (Kd.S_lower ht20 HB1.out.size)
        have HB2 := Aside0.mk (below_step HB1.out hb20)
        clear hs20 ht20 hb20 HS1 HT1 HL1 BKS1 HB1
        obtain ⟨gf, hgf⟩ : ∃ gf, gf = w20.heap.size := ⟨_, rfl⟩
        obtain ⟨W21, hW21⟩ : ∃ W21, W21 = w20.alloc (.cells #[.slice A20 n c20, .slice B20 0 d20] 28) := ⟨_, rfl⟩
        have hb21 : Below w20.heap.size w20 W21 := by rw [hW21]; exact below_alloc (Below.refl _ _) _
        have BKF3 := Aside0.mk (show W21.heap[gf]? = some (.cells #[.slice A20 n c20, .slice B20 0 d20] 28 (0, 0)) from by rw [hW21, hgf]; exact blk_new _ _)
        have HS3 := Aside0.mk (Kd.S_below HS2.out hb21)
        have HT3 := Aside0.mk (Kd.S_below HT2.out hb21)
        have HL3 := Aside0.mk (Kd.S_below HL2.out hb21)
        have BKS3 := Aside0.mk (blk_below BKS2.out hb21)
        have HF3 := Aside0.mk (Kd.S_below HF2.out hb21)
        have HG3 := Aside0.mk (Kd.S_below HG2.out hb21)
        have HB3 := Aside0.mk (below_step HB2.out hb21)
        clear HS2 HT2 HL2 BKS2 HF2 HG2 HB2 hb21
        have hz0 : W21.cell? ⟨gf, 0, none⟩ = some (.slice A20 n c20) := (blk_cell BKF3.out 0).trans rfl
        have hz1 : W21.cell? ⟨gf, 1, none⟩ = some (.slice B20 0 d20) := (blk_cell BKF3.out 1).trans rfl
        have HCR := disk_Crash.calls 1000 A20 c20 (LH n l1 l2 j) B20 d20 [] A3 c3 l3 0 1 (LH n l1 l2 j) [] 0 W21 (Kd.S_reads' HF3.out).2.2 (by have := (Kd.S_reads' HF3.out); omega) (Kd.S_reads' HG3.out).2.2 (by have := (Kd.S_reads' HG3.out).2.1; exact this) (Kd.C_below HR3.out HB3.out) HC3.out (hcrash_f hn1 hn20 j l3)
        rw [LH_length, List.length_nil] at HCR
        have HCR := Aside0.mk HCR
        go_wp2_with fail
        rw [← hW21, ← hgf]
        clear hW21 hgf
        refine HCR.out.mono ?_
        rintro e w22 ⟨v22, u22, rfl, hs22, ht22, hb22⟩
        clear hz0 hz1 HCR
        obtain ⟨A22, c22, e22⟩ := Kd.S_slice hs22
        subst e22
        obtain ⟨B22, d22, e22⟩ := Kd.S_slice ht22
        subst e22
        rw [LH_length] at hs22
        rw [LH_length, List.length_nil]
        rw [List.length_nil] at ht22
        have HS4 := Aside0.mk (Kd.S_below HS3.out hb22)
        have HT4 := Aside0.mk (Kd.S_below HT3.out hb22)
        have HL4 := Aside0.mk (Kd.S_below HL3.out hb22)
        have BKS4 := Aside0.mk (blk_below BKS3.out hb22)
        have BKF4 := Aside0.mk (blk_below BKF3.out hb22)
        have HF4 := Aside0.mk (Kd.S_below HF3.out hb22)
        have HG4 := Aside0.mk (Kd.S_below HG3.out hb22)
        have HC4 := Aside0.mk (Kd.S_lower hs22 HB3.out.size)
        have HD4 := Aside0.mk (Kd.S_lower ht22 HB3.out.size)
        have HB4 := Aside0.mk (below_step HB3.out hb22)
        clear hs22 ht22 hb22 HS3 HT3 HL3 BKS3 BKF3 HF3 HG3 HB3
        go_wp2_with fail
        refine (transeptlaw04_num.calls 0 0 _ rfl).mono ?_
        rintro e w23 ⟨rfl, ⟨⟨m23, rfl⟩⟩⟩
        go_wp2_with fail
        refine (transeptlaw04_num.calls 0 0 _ rfl).mono ?_
        rintro e w24 ⟨rfl, ⟨⟨m24, rfl⟩⟩⟩
        obtain ⟨gc, hgc⟩ : ∃ gc, gc = w22.heap.size := ⟨_, rfl⟩
        obtain ⟨W24, hW24⟩ : ∃ W24, W24 = ((w22.alloc (.cells #[.slice A22 n c22, .slice B22 0 d22] 28)).drewN m23).drewN m24 := ⟨_, rfl⟩
        have hb24 : Below w22.heap.size w22 W24 := by rw [hW24]; exact pw_below_drewN (pw_below_drewN (below_alloc (Below.refl _ _) _) _) _
        have BKC5 := Aside0.mk (show W24.heap[gc]? = some (.cells #[.slice A22 n c22, .slice B22 0 d22] 28 (0, 0)) from by rw [hW24, hgc]; exact blk_new _ _)
        have HS5 := Aside0.mk (Kd.S_below HS4.out hb24)
        have HT5 := Aside0.mk (Kd.S_below HT4.out hb24)
        have HL5 := Aside0.mk (Kd.S_below HL4.out hb24)
        have BKS5 := Aside0.mk (blk_below BKS4.out hb24)
        have BKF5 := Aside0.mk (blk_below BKF4.out hb24)
        have HF5 := Aside0.mk (Kd.S_below HF4.out hb24)
        have HG5 := Aside0.mk (Kd.S_below HG4.out hb24)
        have HC5 := Aside0.mk (Kd.S_below HC4.out hb24)
        have HD5 := Aside0.mk (Kd.S_below HD4.out hb24)
        have HB5 := Aside0.mk (below_step HB4.out hb24)
        clear hb24 HS4 HT4 HL4 BKS4 BKF4 HF4 HG4 HC4 HD4 HB4
        rw [← hW24, ← hgc]
        clear hW24 hgc
        obtain ⟨g, c0', eL, hgb, hgl, cg, hcg⟩ := Kd.S_form HL5.out (by rw [lastH_length]; omega)
        rw [lastH_length] at eL
        injection eL with eA _ eC
        subst eA eC
        clear hgb hgl hcg
        go_wp2_with fail
        go_loopw [21] (fun v wx => ∃ i : Nat, i ≤ n ∧ v = .int .i64 i ∧ Hid (Below W24.heap.size W24 wx)) (fun v _ => n - (intOf v).toNat)
        case atStart => exact ⟨0, by omega, rfl, Lib.hid (Below.refl _ _)⟩
        case round =>
          obtain ⟨i, hi, rfl, HX⟩ := hrel
          by_cases hlt : i < n
          · have hz0 := pw_cell_below HX ((blk_cell BKS5.out 0).trans rfl)
            have hz1 := pw_cell_below HX ((blk_cell BKS5.out 1).trans rfl)
            have HG1 := disk_Get.calls 1000 Aj cj (ZH n) Bj dj (wsH n l1 l2 j) (i : Int) (wantH n l1 l2 j i) 0 wr (Kd.C_below (Kd.S_reads' HS5.out).2.2 HX) (by have := (Kd.S_reads' HS5.out); omega) (Kd.C_below (Kd.S_reads' HT5.out).2.2 HX) (by have := (Kd.S_reads' HT5.out); omega) (hget_s hn1 hn20 hJ3 hlt)
            rw [wsH_length, List.length_replicate] at HG1
            go_wp2_with fail
            refine HG1.mono ?_
            clear HG1 hz0 hz1
            rintro e w31 ⟨v31, rfl, hr31, hb31⟩
            obtain ⟨A31, c31, e31⟩ := Kd.R_slice hr31
            subst e31
            have HV1 := Aside0.mk (Kd.R_reads' hr31)
            rw [want_len]
            have HX1 := Aside0.mk (below_step HX hb31)
            have hz0 := pw_cell_below HX1.out ((blk_cell BKF5.out 0).trans rfl)
            have hz1 := pw_cell_below HX1.out ((blk_cell BKF5.out 1).trans rfl)
            have HG1 := disk_Get.calls 1000 A20 c20 (LH n l1 l2 j) B20 d20 [] (i : Int) (wantH n l1 l2 j i) 0 w31 (Kd.C_below (Kd.S_reads' HF5.out).2.2 HX1.out) (by have := (Kd.S_reads' HF5.out); omega) (Kd.C_below (Kd.S_reads' HG5.out).2.2 HX1.out) (by have := (Kd.S_reads' HG5.out).2.1; exact this) (hget_t hn1 hn20 hJ3 hlt)
            rw [LH_length, List.length_nil] at HG1
            clear hr31 hb31
            go_wp2_with fail
            refine HG1.mono ?_
            clear HG1 hz0 hz1
            rintro e w32 ⟨v32, rfl, hr32, hb32⟩
            obtain ⟨A32, c32, e32⟩ := Kd.R_slice hr32
            subst e32
            have HV2 := Aside0.mk (Kd.R_reads' hr32)
            rw [want_len]
            have HX2 := Aside0.mk (below_step HX1.out hb32)
            have HY2 := Aside0.mk (show Below w31.heap.size w31 w32 from hb32)
            have hz0 := pw_cell_below HX2.out ((blk_cell BKC5.out 0).trans rfl)
            have hz1 := pw_cell_below HX2.out ((blk_cell BKC5.out 1).trans rfl)
            have HG1 := disk_Get.calls 1000 A22 c22 (LH n l1 l2 j) B22 d22 [] (i : Int) (wantH n l1 l2 j i) 0 w32 (Kd.C_below (Kd.S_reads' HC5.out).2.2 HX2.out) (by have := (Kd.S_reads' HC5.out); omega) (Kd.C_below (Kd.S_reads' HD5.out).2.2 HX2.out) (by have := (Kd.S_reads' HD5.out).2.1; exact this) (hget_t hn1 hn20 hJ3 hlt)
            rw [LH_length, List.length_nil] at HG1
            clear hr32 hb32
            go_wp2_with fail
            refine HG1.mono ?_
            clear HG1 hz0 hz1
            rintro e w33 ⟨v33, rfl, hr33, hb33⟩
            obtain ⟨A33, c33, e33⟩ := Kd.R_slice hr33
            subst e33
            have HV3 := Aside0.mk (Kd.R_reads' hr33)
            rw [want_len]
            have HX3 := Aside0.mk (below_step HX2.out hb33)
            have HY3 := Aside0.mk (show Below w32.heap.size w32 w33 from hb33)
            clear hr33 hb33
            obtain ⟨oki, cc, hcl, hM, hcc, hfr, hoki, hH⟩ := Kd.S_elem HL5.out ([] : List Int) (i : Int) (by omega) (by omega)
            obtain ⟨x, hx⟩ : ∃ x, x = (lastH n l1 l2 j).getD i [] := ⟨_, rfl⟩
            rw [Int.toNat_natCast, ← hx] at hM
            obtain ⟨vx, rfl, hrx⟩ := hM
            obtain ⟨Ax, cx, ex⟩ := Kd.R_slice hrx
            subst ex
            rw [Int.toNat_natCast] at hcc
            have hcw : W24.cell? ⟨g, i, none⟩ = some (.slice Ax x.length cx) := by have := hcc 0 _ rfl; rwa [show i * (kB).sz + 0 = i from by show i * 1 + 0 = i; omega] at this
            have hcx := pw_cell_below HX3.out hcw
            have hxl : x.length = 0 ∨ x.length = 64 := by
              rcases lastH_all (n := n) (l1 := l1) (l2 := l2) j x (by rw [hx, List.getD_eq_getElem?_getD, List.getElem?_eq_getElem (by rw [lastH_length]; exact hlt)]; exact List.getElem_mem _) with h_ | h_
              · exact .inl (by rw [h_]; rfl)
              · exact .inr h_
            have HWX := Aside0.mk (show wantH n l1 l2 j i = if x.length = 0 then zeros64 else x from by rw [hx]; rfl)
            have HRX := Aside0.mk (Kd.R_reads' hrx)
            clear hcl hcc hfr hoki hH hrx hcw hx
            rcases hxl with hx0 | hx64
            · rw [hx0] at hcx
              have HW0 := Aside0.mk (show wantH n l1 l2 j i = zeros64 from by rw [HWX.out, if_pos hx0])
              clear hx0
              go_wp2_with (first
                | ((with_reducible refine gate_dst (N := 150) rfl ?_); refine Kd.R_make (Kd.int .u8) (w0 := w33) w33.heap.size 5 rfl (N := 150) rfl 50 _ _ rfl 64 rfl rfl Try.underlying50 (.int .u8 0) 1 info5 rfl (by decide) (by omega) 0 (ok := fun _ => True) (okp := fun _ => True) rfl (fun _ hk => hk) trivial (by omega) (by omega) (Below.refl _ _) (Nat.le_refl _) ?_
                   intro v35 w35 ho35 hb35 hg35 hn35
                   obtain ⟨A35, c35, e35⟩ := Kd.R_slice ho35
                   subst e35
                   rw [List.length_replicate]
                   have HX5 := Aside0.mk (below_step HX3.out hb35)
                   have HR35 := Aside0.mk (show w35 = w35 ∧ c35 = c35 ∧ (wantH n l1 l2 j i).length ≤ c35 ∧ (Kd.int .u8).C w35 A35 (wantH n l1 l2 j i).length (wantH n l1 l2 j i) from ⟨rfl, rfl, by rw [HW0.out]; exact (Kd.R_reads' ho35).2.1, by rw [HW0.out]; exact (Kd.R_reads' ho35).2.2⟩)
                   have HC31 := Aside0.mk (Kd.C_below (Kd.C_below (Kd.C_below HV1.out.2.2 HY2.out) HY3.out) hb35)
                   have HC32 := Aside0.mk (Kd.C_below (Kd.C_below HV2.out.2.2 HY3.out) hb35)
                   have HC33 := Aside0.mk (Kd.C_below HV3.out.2.2 hb35)
                   have HSM := Aside0.mk (fun (A' : Option Addr) (c' : Nat) (W' : World) (h1 : (Kd.int .u8).C w35 A' (wantH n l1 l2 j i).length (wantH n l1 l2 j i)) (h2 : 64 ≤ c') (hb : Below w35.heap.size w35 W') => (by
                     have h_ := transeptplain_SameBytes.calls 1000 A' c' (wantH n l1 l2 j i) A35 c35 (wantH n l1 l2 j i) true W' (Kd.C_below h1 hb) (by rw [want_len]; exact h2) (Kd.C_below HR35.out.2.2.2 hb) HR35.out.2.2.1 (by rw [same_f (by rw [want_len]; omega) (by rw [want_len]; omega), decide_eq_true rfl])
                     rw [want_len] at h_
                     exact h_ : Calls Try.prog 28 #[.slice A' 64 c', .slice A35 64 c35] W' fun e w' => e = .returned (.bool true) ∧ Drawn0 W' w'))
                   clear ho35 hb35 hg35 hn35 HX3))
              refine (transeptlaw04_num.calls 0 0 _ rfl).mono ?_
              rintro e w36 ⟨rfl, ⟨⟨m36, rfl⟩⟩⟩
              go_wp2_with fail
              refine (transeptlaw04_num.calls 0 0 _ rfl).mono ?_
              rintro e w37 ⟨rfl, ⟨⟨m37, rfl⟩⟩⟩
              go_wp2_with fail
              refine (transeptlaw04_num.calls 0 0 _ rfl).mono ?_
              rintro e w38 ⟨rfl, ⟨⟨m38, rfl⟩⟩⟩
              go_wp2_with fail
              refine (HSM.out A31 c31 _ HC31.out (by have := HV1.out.2.1; rw [want_len] at this; exact this) (pw_below_drewN (Below.refl _ _) _)).mono ?_
              rintro e w39 ⟨rfl, ⟨⟨m39, rfl⟩⟩⟩
              go_wp2_with fail
              refine (HSM.out A32 c32 _ HC32.out (by have := HV2.out.2.1; rw [want_len] at this; exact this) (pw_below_drewN (Below.refl _ _) _)).mono ?_
              rintro e w40 ⟨rfl, ⟨⟨m40, rfl⟩⟩⟩
              go_wp2_with fail
              refine (HSM.out A33 c33 _ HC33.out (by have := HV3.out.2.1; rw [want_len] at this; exact this) (pw_below_drewN (Below.refl _ _) _)).mono ?_
              rintro e w41 ⟨rfl, ⟨⟨m41, rfl⟩⟩⟩
              go_wp2_with fail
              go_roundw
              case rel => exact ⟨i + 1, by omega, by go_num, Lib.hid (pw_below_drewN HX5.out _)⟩
              case measure => simp [intOf]; omega
            · rw [hx64] at hcx
              have HW0 := Aside0.mk (show wantH n l1 l2 j i = x from by rw [HWX.out, if_neg (by omega)])
              clear hx64
              have HX5 := HX3
              have HR35 := Aside0.mk (show (wantH n l1 l2 j i).length ≤ cx ∧ (Kd.int .u8).C w33 Ax (wantH n l1 l2 j i).length (wantH n l1 l2 j i) from by rw [HW0.out]; exact ⟨HRX.out.2.1, Kd.C_below HRX.out.2.2 HX3.out⟩)
              have HC31 := Aside0.mk (Kd.C_below (Kd.C_below HV1.out.2.2 HY2.out) HY3.out)
              have HC32 := Aside0.mk (Kd.C_below HV2.out.2.2 HY3.out)
              have HC33 := Aside0.mk HV3.out.2.2
              have HSM := Aside0.mk (fun (A' : Option Addr) (c' : Nat) (W' : World) (h1 : (Kd.int .u8).C w33 A' (wantH n l1 l2 j i).length (wantH n l1 l2 j i)) (h2 : 64 ≤ c') (hb : Below w33.heap.size w33 W') => (by
                have h_ := transeptplain_SameBytes.calls 1000 A' c' (wantH n l1 l2 j i) Ax cx (wantH n l1 l2 j i) true W' (Kd.C_below h1 hb) (by rw [want_len]; exact h2) (Kd.C_below HR35.out.2 hb) HR35.out.1 (by rw [same_f (by rw [want_len]; omega) (by rw [want_len]; omega), decide_eq_true rfl])
                rw [want_len] at h_
                exact h_ : Calls Try.prog 28 #[.slice A' 64 c', .slice Ax 64 cx] W' fun e w' => e = .returned (.bool true) ∧ Drawn0 W' w'))
              go_wp2_with fail
              refine (transeptlaw04_num.calls 0 0 _ rfl).mono ?_
              rintro e w36 ⟨rfl, ⟨⟨m36, rfl⟩⟩⟩
              go_wp2_with fail
              refine (transeptlaw04_num.calls 0 0 _ rfl).mono ?_
              rintro e w37 ⟨rfl, ⟨⟨m37, rfl⟩⟩⟩
              go_wp2_with fail
              refine (transeptlaw04_num.calls 0 0 _ rfl).mono ?_
              rintro e w38 ⟨rfl, ⟨⟨m38, rfl⟩⟩⟩
              go_wp2_with fail
              refine (HSM.out A31 c31 _ HC31.out (by have := HV1.out.2.1; rw [want_len] at this; exact this) (pw_below_drewN (Below.refl _ _) _)).mono ?_
              rintro e w39 ⟨rfl, ⟨⟨m39, rfl⟩⟩⟩
              go_wp2_with fail
              refine (HSM.out A32 c32 _ HC32.out (by have := HV2.out.2.1; rw [want_len] at this; exact this) (pw_below_drewN (Below.refl _ _) _)).mono ?_
              rintro e w40 ⟨rfl, ⟨⟨m40, rfl⟩⟩⟩
              go_wp2_with fail
              refine (HSM.out A33 c33 _ HC33.out (by have := HV3.out.2.1; rw [want_len] at this; exact this) (pw_below_drewN (Below.refl _ _) _)).mono ?_
              rintro e w41 ⟨rfl, ⟨⟨m41, rfl⟩⟩⟩
              go_wp2_with fail
              go_roundw
              case rel => exact ⟨i + 1, by omega, by go_num, Lib.hid (pw_below_drewN HX5.out _)⟩
              case measure => simp [intOf]; omega
          · go_wp2_with fail
            go_ret
            exact ⟨rfl, below_step HB5.out HX⟩
end Go.Proofs.Ytiiphlfgdkjjiaa.Q
