/- SuperTells, walked by hand: it answers true; no condition but that octets are octets. -/
import Derived.Test.YtiiphlfgdkjjiaaZTellsSAlive
import Derived.Test.YtiiphlfgdkjjiaaZTellsSPick
import Derived.Test.YtiiphlfgdkjjiaaZTellsSRefDec
import Derived.Test.YtiiphlfgdkjjiaaZTellsDPlain
import Derived.Test.YtiiphlfgdkjjiaaZTellsQ40
import Derived.Test.YtiiphlfgdkjjiaaZTellsQ24
namespace Go.Proofs.Ytiiphlfgdkjjiaa.Q
open Go.RowKit Go.Proofs.YtiiphlfgdkjjiaaW.PrintWords Go.Proofs.YtiiphlfgdkjjiaaW.PrintLast Go.Proofs.YtiiphlfgdkjjiaaW.PrintMore
open Go.Proofs.Ytiiphlfgdkjjiaa.CrcP
set_option linter.unusedVariables false
set_option linter.unusedSimpArgs false

theorem refpick_j0 (k : Nat) (p0 p1 p2 p3 p4 pe q0 q1 q2 q3 q4 qe : Int) (b : Bool) (hb : b = (decide (pe ≠ 0) && decide (qe ≠ 0))) :
    transeptref06_Pick.j0 (k + 1) pe qe b p0 p1 p2 p3 p4 q0 q1 q2 q3 q4 = some (pick (p0, p1, p2, p3, p4, pe) (q0, q1, q2, q3, q4, qe)) := by
  rw [transeptref06_Pick.j0]
  unfold pick stp st0
  dsimp only
  by_cases hp : pe = 0
  · rw [if_neg (by rw [hb, decide_eq_false (not_not_intro hp), Bool.false_and]; decide), if_pos hp, if_pos (⟨hp, .inl (by decide)⟩ : pe = 0 ∧ ((21 : Int) ≠ 0 ∨ (0 : Int) < p0))]
    dsimp only
    by_cases hq : qe = 0
    · rw [if_pos hq]
      by_cases hlt : q0 > p0
      · rw [if_pos hlt, if_pos ⟨hq, .inr hlt⟩]
      · rw [if_neg hlt, if_neg (fun h => h.2.elim (fun h_ => h_ rfl) (fun h_ => hlt h_))]
    · rw [if_neg hq, if_neg (fun h => hq h.1)]
  · rw [if_neg (fun h : pe = 0 ∧ _ => hp h.1)]
    dsimp only
    by_cases hq : qe = 0
    · rw [if_neg (by rw [hb, decide_eq_false (not_not_intro hq), Bool.and_false]; decide), if_neg hp, if_pos ⟨hq, .inl (by decide)⟩]
    · rw [if_pos (by rw [hb, decide_eq_true hp, decide_eq_true hq]; rfl), if_neg (fun h => hq h.1)]
theorem refpick_f {l0 l1 : List Int} {k : Nat} (h0 : octs l0 = true) (h1 : octs l1 = true) (hk : 1 ≤ k) : transeptref06_Pick.f k l0 l1 = some (pick (dec l0) (dec l1)) := by
  obtain ⟨k, rfl⟩ : ∃ j, k = j + 1 := ⟨k - 1, by omega⟩
  unfold transeptref06_Pick.f transeptref06_Decode.f
  rw [if_pos h0, if_pos h1, Option.bind_some, Option.bind_some]
  obtain ⟨p0, p1, p2, p3, p4, pe⟩ := dec l0
  obtain ⟨q0, q1, q2, q3, q4, qe⟩ := dec l1
  dsimp only
  by_cases hp : pe = 0
  · rw [if_pos hp]
    exact refpick_j0 k _ _ _ _ _ _ _ _ _ _ _ _ _ (by rw [decide_eq_false (not_not_intro hp)]; rfl)
  · rw [if_neg hp]
    exact refpick_j0 k _ _ _ _ _ _ _ _ _ _ _ _ _ (by rw [decide_eq_true hp, Bool.true_and]; by_cases hq : qe = 0 <;> simp [hq])
def transeptlaw06_SuperTells.f (k : Nat) (a0 a1 a2 a3 a4 : Int) (l1 l2 : List Int) : Option Bool := if octs l1 = true ∧ octs l2 = true then some true else none

theorem enc_any (a0 a1 a2 a3 a4 : Int) : ∃ pl pc, super_Encode.f a0 a1 a2 a3 a4 = some (pl, pc) ∧ pl.length ≤ 64 := by
  unfold super_Encode.f
  by_cases h : blkOk a0 a1 a2 a3 a4 = true
  · rw [if_pos h]; exact ⟨_, _, rfl, by rw [sect_length]; exact Nat.le_refl _⟩
  · rw [if_neg h]; exact ⟨_, _, rfl, Nat.zero_le _⟩

set_option maxHeartbeats 16000000 in
set_option maxRecDepth 100000 in
theorem transeptlaw06_SuperTells.calls (k : Nat) (a0 a1 a2 a3 a4 : Int) (A1 : Option Addr) (c1 : Nat) (l1 : List Int) (A2 : Option Addr) (c2 : Nat) (l2 : List Int) (r : Bool) (w : World) (hr1 : Kd.C (Kd.int .u8) w A1 l1.length l1) (hc1 : l1.length ≤ c1) (hr2 : Kd.C (Kd.int .u8) w A2 l2.length l2) (hc2 : l2.length ≤ c2) (h : transeptlaw06_SuperTells.f k a0 a1 a2 a3 a4 l1 l2 = some r) :
    Calls Try.prog 12 #[.agg #[.int .i64 a0, .int .i64 a1, .int .i64 a2, .int .i64 a3, .int .i64 a4], .slice A1 l1.length c1, .slice A2 l2.length c2] w fun e w' => e = .returned (.bool r) ∧ Below w.heap.size w w' := by
  have hu := Try.underlying33
  have hur := Try.underlying23
  unfold transeptlaw06_SuperTells.f at h
  have hoo : octs l1 = true ∧ octs l2 = true := by
    by_cases hb : octs l1 = true ∧ octs l2 = true
    · exact hb
    · rw [if_neg hb] at h; cases h
  rw [if_pos hoo] at h
  obtain rfl := Option.some.inj h
  have HO1 := Aside0.mk hoo.1
  have HO2 := Aside0.mk hoo.2
  have HR1 := Aside0.mk hr1
  have HR2 := Aside0.mk hr2
  have HC1 := Aside0.mk hc1
  have HC2 := Aside0.mk hc2
  obtain ⟨pl, pc, hE, hpl⟩ := enc_any a0 a1 a2 a3 a4
  obtain ⟨⟨u0, u1, u2, u3, u4, g⟩, hD⟩ : ∃ t, dec l1 = t := ⟨_, rfl⟩
  obtain ⟨⟨s0, s1, s2, s3, s4, n, i⟩, hP⟩ : ∃ t, pick (dec l1) (dec l2) = t := ⟨_, rfl⟩
  have HE := Aside0.mk hE
  have HPL := Aside0.mk hpl
  have HD := Aside0.mk hD
  have HP := Aside0.mk hP
  clear h hoo hr1 hr2 hc1 hc2 hE hpl hD hP
  go_enter Try.func12, Try.ntmps12
  go_wp2_with fail
  refine (super_Encode.calls _ _ _ _ _ _ _ _ HE.out).mono ?_
  rintro e w2 ⟨v2, rfl, ho, hb⟩
  obtain ⟨A, c, ev⟩ := Kd.R_slice ho
  subst ev
  have HPC := Aside0.mk (Kd.R_reads' ho).2.1
  have HPR := Aside0.mk (Kd.R_reads' ho).2.2
  have BK := Aside0.mk (blk_below (blk_new w (.cells #[.int .i64 a0, .int .i64 a1, .int .i64 a2, .int .i64 a3, .int .i64 a4] 23)) hb)
  have HB := Aside0.mk (below_step (below_alloc (Below.refl w.heap.size w) (.cells #[.int .i64 a0, .int .i64 a1, .int .i64 a2, .int .i64 a3, .int .i64 a4] 23)) hb)
  clear hb ho
  have x0 : w2.cell? ⟨w.heap.size, 0, none⟩ = some (.int .i64 a0) := (blk_cell BK.out 0).trans rfl
  have x1 : w2.cell? ⟨w.heap.size, 1, none⟩ = some (.int .i64 a1) := (blk_cell BK.out 1).trans rfl
  have x2 : w2.cell? ⟨w.heap.size, 2, none⟩ = some (.int .i64 a2) := (blk_cell BK.out 2).trans rfl
  have x3 : w2.cell? ⟨w.heap.size, 3, none⟩ = some (.int .i64 a3) := (blk_cell BK.out 3).trans rfl
  have x4 : w2.cell? ⟨w.heap.size, 4, none⟩ = some (.int .i64 a4) := (blk_cell BK.out 4).trans rfl
  go_wp2_with fail
  refine (transeptref06_Encode.calls a0 a1 a2 a3 a4 pl pc _ HE.out).mono ?_
  rintro e w3 ⟨v3, rfl, ho, hb⟩
  obtain ⟨A', c', ev⟩ := Kd.R_slice ho
  subst ev
  have HQC := Aside0.mk (Kd.R_reads' ho).2.1
  have HQR := Aside0.mk (Kd.R_reads' ho).2.2
  have HPR3 := Aside0.mk (Kd.C_below HPR.out hb)
  have BK3 := Aside0.mk (blk_below BK.out hb)
  have HB3 := Aside0.mk (below_step HB.out hb)
  clear hb ho x0 x1 x2 x3 x4 BK HB HPR
  go_wp2_with fail
  refine (super_Decode.calls A1 c1 l1 u0 u1 u2 u3 u4 g w3 (Kd.C_below HR1.out HB3.out) HC1.out (by unfold super_Decode.f; rw [if_pos HO1.out, HD.out])).mono ?_
  rintro e w4 ⟨rfl, hb⟩
  obtain ⟨gu, hgu⟩ : ∃ gu, gu = w4.heap.size := ⟨_, rfl⟩
  obtain ⟨W4, hW4⟩ : ∃ W4, W4 = w4.alloc (.cells #[.int .i64 u0, .int .i64 u1, .int .i64 u2, .int .i64 u3, .int .i64 u4] 33) := ⟨_, rfl⟩
  have hal : Below w4.heap.size w4 W4 := by rw [hW4]; exact below_alloc (Below.refl _ _) _
  have hb := below_step hb hal
  have BKU4 := Aside0.mk (show W4.heap[gu]? = some (.cells #[.int .i64 u0, .int .i64 u1, .int .i64 u2, .int .i64 u3, .int .i64 u4] 33 (0, 0)) from by rw [hW4, hgu]; exact blk_new _ _)
  have HPR4 := Aside0.mk (Kd.C_below HPR3.out hb)
  have HQR4 := Aside0.mk (Kd.C_below HQR.out hb)
  have BK4 := Aside0.mk (blk_below BK3.out hb)
  have HB4 := Aside0.mk (below_step HB3.out hb)
  have HW := Aside0.mk hW4
  have HG := Aside0.mk hgu
  clear hb hal hW4 hgu HPR3 HQR BK3 HB3
  go_wp2_with fail
  rw [← HW.out, ← HG.out]
  clear HW HG
  refine (transeptref06_Decode.calls A1 c1 l1 u0 u1 u2 u3 u4 g W4 (Kd.C_below HR1.out HB4.out) HC1.out (by unfold transeptref06_Decode.f; rw [if_pos HO1.out, HD.out])).mono ?_
  rintro e w5 ⟨rfl, hb⟩
  obtain ⟨gv, hgv⟩ : ∃ gv, gv = w5.heap.size := ⟨_, rfl⟩
  obtain ⟨W5, hW5⟩ : ∃ W5, W5 = w5.alloc (.cells #[.int .i64 u0, .int .i64 u1, .int .i64 u2, .int .i64 u3, .int .i64 u4] 23) := ⟨_, rfl⟩
  have hal : Below w5.heap.size w5 W5 := by rw [hW5]; exact below_alloc (Below.refl _ _) _
  have hb := below_step hb hal
  have BKV5 := Aside0.mk (show W5.heap[gv]? = some (.cells #[.int .i64 u0, .int .i64 u1, .int .i64 u2, .int .i64 u3, .int .i64 u4] 23 (0, 0)) from by rw [hW5, hgv]; exact blk_new _ _)
  have BKU5 := Aside0.mk (blk_below BKU4.out hb)
  have HPR5 := Aside0.mk (Kd.C_below HPR4.out hb)
  have HQR5 := Aside0.mk (Kd.C_below HQR4.out hb)
  have BK5 := Aside0.mk (blk_below BK4.out hb)
  have HB5 := Aside0.mk (below_step HB4.out hb)
  have HW := Aside0.mk hW5
  have HG := Aside0.mk hgv
  clear hb hal hW5 hgv HPR4 HQR4 BK4 HB4 BKU4
  go_wp2_with fail
  rw [← HW.out, ← HG.out]
  clear HW HG
  refine (super_Pick.calls A1 c1 l1 A2 c2 l2 s0 s1 s2 s3 s4 n i W5 (Kd.C_below HR1.out HB5.out) HC1.out (Kd.C_below HR2.out HB5.out) HC2.out (by unfold super_Pick.f super_Decode.f; rw [if_pos HO1.out, if_pos HO2.out, Option.bind_some, Option.bind_some, HP.out])).mono ?_
  rintro e w6 ⟨rfl, hb⟩
  obtain ⟨gs, hgs⟩ : ∃ gs, gs = w6.heap.size := ⟨_, rfl⟩
  obtain ⟨W6, hW6⟩ : ∃ W6, W6 = w6.alloc (.cells #[.int .i64 s0, .int .i64 s1, .int .i64 s2, .int .i64 s3, .int .i64 s4] 33) := ⟨_, rfl⟩
  have hal : Below w6.heap.size w6 W6 := by rw [hW6]; exact below_alloc (Below.refl _ _) _
  have hb := below_step hb hal
  have BKS6 := Aside0.mk (show W6.heap[gs]? = some (.cells #[.int .i64 s0, .int .i64 s1, .int .i64 s2, .int .i64 s3, .int .i64 s4] 33 (0, 0)) from by rw [hW6, hgs]; exact blk_new _ _)
  have BKU6 := Aside0.mk (blk_below BKU5.out hb)
  have BKV6 := Aside0.mk (blk_below BKV5.out hb)
  have HPR6 := Aside0.mk (Kd.C_below HPR5.out hb)
  have HQR6 := Aside0.mk (Kd.C_below HQR5.out hb)
  have BK6 := Aside0.mk (blk_below BK5.out hb)
  have HB6 := Aside0.mk (below_step HB5.out hb)
  have HW := Aside0.mk hW6
  have HG := Aside0.mk hgs
  clear hb hal hW6 hgs HPR5 HQR5 BK5 HB5 BKU5 BKV5
  go_wp2_with fail
  rw [← HW.out, ← HG.out]
  clear HW HG
  refine (transeptref06_Pick.calls 20 A1 c1 l1 A2 c2 l2 s0 s1 s2 s3 s4 n i W6 (Kd.C_below HR1.out HB6.out) HC1.out (Kd.C_below HR2.out HB6.out) HC2.out (by rw [refpick_f HO1.out HO2.out (by omega), HP.out])).mono ?_
  rintro e w7 ⟨rfl, hb⟩
  obtain ⟨gt, hgt⟩ : ∃ gt, gt = w7.heap.size := ⟨_, rfl⟩
  obtain ⟨W7, hW7⟩ : ∃ W7, W7 = w7.alloc (.cells #[.int .i64 s0, .int .i64 s1, .int .i64 s2, .int .i64 s3, .int .i64 s4] 23) := ⟨_, rfl⟩
  have hal : Below w7.heap.size w7 W7 := by rw [hW7]; exact below_alloc (Below.refl _ _) _
  have hb := below_step hb hal
  have BKT7 := Aside0.mk (show W7.heap[gt]? = some (.cells #[.int .i64 s0, .int .i64 s1, .int .i64 s2, .int .i64 s3, .int .i64 s4] 23 (0, 0)) from by rw [hW7, hgt]; exact blk_new _ _)
  have BKS7 := Aside0.mk (blk_below BKS6.out hb)
  have BKU7 := Aside0.mk (blk_below BKU6.out hb)
  have BKV7 := Aside0.mk (blk_below BKV6.out hb)
  have HPR7 := Aside0.mk (Kd.C_below HPR6.out hb)
  have HQR7 := Aside0.mk (Kd.C_below HQR6.out hb)
  have BK7 := Aside0.mk (blk_below BK6.out hb)
  have HB7 := Aside0.mk (below_step HB6.out hb)
  have HW := Aside0.mk hW7
  have HG := Aside0.mk hgt
  clear hb hal hW7 hgt HPR6 HQR6 BK6 HB6 BKU6 BKV6 BKS6
  go_wp2_with fail
  rw [← HW.out, ← HG.out]
  clear HW HG
  refine (transeptplain_SameBytes.calls 100 A c pl A' c' pl true W7 HPR7.out HPC.out HQR7.out HQC.out (by rw [same_f (by have := HPL.out; omega) (by have := HPL.out; omega), decide_eq_true rfl])).mono ?_
  rintro e w8 ⟨rfl, ⟨⟨m8, rfl⟩⟩⟩
  clear HPR7 HQR7 HPC HQC
  go_wp2_with fail
  refine (transeptlaw06_num.calls pc pc _ rfl).mono ?_
  rintro e w9 ⟨rfl, ⟨⟨m9, rfl⟩⟩⟩
  obtain ⟨W9, hW9⟩ : ∃ W9, W9 = (W7.drewN m8).drewN m9 := ⟨_, rfl⟩
  have hb9 : Below W7.heap.size W7 W9 := by rw [hW9]; exact pw_below_drewN (pw_below_drewN (Below.refl _ _) _) _
  have BKT9 := Aside0.mk (blk_below BKT7.out hb9)
  have BKS9 := Aside0.mk (blk_below BKS7.out hb9)
  have BKU9 := Aside0.mk (blk_below BKU7.out hb9)
  have BKV9 := Aside0.mk (blk_below BKV7.out hb9)
  have BK9 := Aside0.mk (blk_below BK7.out hb9)
  have HB9 := Aside0.mk (below_step HB7.out hb9)
  rw [← hW9]
  clear hW9 hb9 BKT7 BKS7 BKU7 BKV7 BK7 HB7
  have y0 : W9.cell? ⟨gu, 0, none⟩ = some (.int .i64 u0) := (blk_cell BKU9.out 0).trans rfl
  have y1 : W9.cell? ⟨gu, 1, none⟩ = some (.int .i64 u1) := (blk_cell BKU9.out 1).trans rfl
  have y2 : W9.cell? ⟨gu, 2, none⟩ = some (.int .i64 u2) := (blk_cell BKU9.out 2).trans rfl
  have y3 : W9.cell? ⟨gu, 3, none⟩ = some (.int .i64 u3) := (blk_cell BKU9.out 3).trans rfl
  have y4 : W9.cell? ⟨gu, 4, none⟩ = some (.int .i64 u4) := (blk_cell BKU9.out 4).trans rfl
  have z0 : W9.cell? ⟨gv, 0, none⟩ = some (.int .i64 u0) := (blk_cell BKV9.out 0).trans rfl
  have z1 : W9.cell? ⟨gv, 1, none⟩ = some (.int .i64 u1) := (blk_cell BKV9.out 1).trans rfl
  have z2 : W9.cell? ⟨gv, 2, none⟩ = some (.int .i64 u2) := (blk_cell BKV9.out 2).trans rfl
  have z3 : W9.cell? ⟨gv, 3, none⟩ = some (.int .i64 u3) := (blk_cell BKV9.out 3).trans rfl
  have z4 : W9.cell? ⟨gv, 4, none⟩ = some (.int .i64 u4) := (blk_cell BKV9.out 4).trans rfl
  go_wp2_with fail
  refine (transeptlaw06_num.calls g g _ rfl).mono ?_
  rintro e w10 ⟨rfl, ⟨⟨m10, rfl⟩⟩⟩
  obtain ⟨ck, hck⟩ : ∃ ck : Int, ck = (if blkOk a0 a1 a2 a3 a4 = true then 0 else 4) := ⟨_, rfl⟩
  have CK1 := Aside0.mk (show super_Check.f a0 a1 a2 a3 a4 = some ck from by rw [hck]; rfl)
  have CK2 := Aside0.mk (show transeptref06_Check.f 20 a0 a1 a2 a3 a4 = some ck from by rw [hck]; exact refcheck_f a0 a1 a2 a3 a4)
  obtain ⟨W10, hW10⟩ : ∃ W10, W10 = W9.drewN m10 := ⟨_, rfl⟩
  have hb10 : Below W9.heap.size W9 W10 := by rw [hW10]; exact pw_below_drewN (Below.refl _ _) _
  have BKT := Aside0.mk (blk_drew (blk_below BKT9.out hb10))
  have BKS := Aside0.mk (blk_drew (blk_below BKS9.out hb10))
  have BK := Aside0.mk (blk_drew (blk_below BK9.out hb10))
  have HB := Aside0.mk (below_drew1 (below_step HB9.out hb10))
  rw [← hW10]
  clear hW10 hb10 BKT9 BKS9 BKU9 BKV9 BK9 HB9 hck y0 y1 y2 y3 y4 z0 z1 z2 z3 z4
  go_wp2_with fail
  refine start_ (n := 26) (S := fun w' => w'.cell? ⟨gs, 0, none⟩ = some (.int .i64 s0) ∧ w'.cell? ⟨gs, 1, none⟩ = some (.int .i64 s1) ∧ w'.cell? ⟨gs, 2, none⟩ = some (.int .i64 s2) ∧ w'.cell? ⟨gs, 3, none⟩ = some (.int .i64 s3) ∧ w'.cell? ⟨gs, 4, none⟩ = some (.int .i64 s4) ∧ w'.cell? ⟨gt, 0, none⟩ = some (.int .i64 s0) ∧ w'.cell? ⟨gt, 1, none⟩ = some (.int .i64 s1) ∧ w'.cell? ⟨gt, 2, none⟩ = some (.int .i64 s2) ∧ w'.cell? ⟨gt, 3, none⟩ = some (.int .i64 s3) ∧ w'.cell? ⟨gt, 4, none⟩ = some (.int .i64 s4) ∧ w'.cell? ⟨w.heap.size, 0, none⟩ = some (.int .i64 a0) ∧ w'.cell? ⟨w.heap.size, 1, none⟩ = some (.int .i64 a1) ∧ w'.cell? ⟨w.heap.size, 2, none⟩ = some (.int .i64 a2) ∧ w'.cell? ⟨w.heap.size, 3, none⟩ = some (.int .i64 a3) ∧ w'.cell? ⟨w.heap.size, 4, none⟩ = some (.int .i64 a4)) (ds := []) #[false, false, false, false, false, false, false, false, false, false, false, false, false, false, false, false, false, false, false, false, false, false, false, false, false, false] (by kernel_rfl) rfl rfl ⟨(blk_cell BKS.out 0).trans rfl, (blk_cell BKS.out 1).trans rfl, (blk_cell BKS.out 2).trans rfl, (blk_cell BKS.out 3).trans rfl, (blk_cell BKS.out 4).trans rfl, (blk_cell BKT.out 0).trans rfl, (blk_cell BKT.out 1).trans rfl, (blk_cell BKT.out 2).trans rfl, (blk_cell BKT.out 3).trans rfl, (blk_cell BKT.out 4).trans rfl, (blk_cell BK.out 0).trans rfl, (blk_cell BK.out 1).trans rfl, (blk_cell BK.out 2).trans rfl, (blk_cell BK.out 3).trans rfl, (blk_cell BK.out 4).trans rfl⟩ (fun hHeld => ?_)
  refine take_ (i := 0) (N := some 76) (v := ?_) (a' := ?_) #[true, false, false, false, false, false, false, false, false, false, false, false, false, false, false, false, false, false, false, false, false, false, false, false, false, false] rfl rfl (by kernel_rfl) (fun _ _ _ h => h) (Or.inl ⟨by rfl, ?_⟩) hHeld ?_ ?_
  rotate_left
  · rintro w' ⟨s0, s1, s2, s3, s4, s5, s6, s7, s8, s9, s10, s11, s12, s13, s14⟩
    go_simp
    with_reducible rfl
  rotate_left
  · simp only [Act.put, List.setIfInBounds_toArray, List.set_cons_zero, List.set_cons_succ, i64_w, i32_w]
    rfl
  refine take_ (i := 1) (N := some 77) (v := ?_) (a' := ?_) #[true, true, false, false, false, false, false, false, false, false, false, false, false, false, false, false, false, false, false, false, false, false, false, false, false, false] rfl rfl (by kernel_rfl) (fun _ _ _ h => h) (Or.inl ⟨by rfl, ?_⟩) hHeld ?_ ?_
  rotate_left
  · rintro w' ⟨s0, s1, s2, s3, s4, s5, s6, s7, s8, s9, s10, s11, s12, s13, s14⟩
    go_simp
    with_reducible rfl
  rotate_left
  · simp only [Act.put, List.setIfInBounds_toArray, List.set_cons_zero, List.set_cons_succ, i64_w, i32_w]
    rfl
  refine pure_ (i := 2) (N := some 78) (v := ?_) (a' := ?_) #[true, true, true, false, false, false, false, false, false, false, false, false, false, false, false, false, false, false, false, false, false, false, false, false, false, false] rfl rfl (by kernel_rfl) (fun _ _ _ h => h) (Or.inl ⟨by rfl, ?_⟩) ?_ ?_
  rotate_left
  · intro w'
    go_simp
    with_reducible rfl
  rotate_left
  · simp only [Act.put, List.setIfInBounds_toArray, List.set_cons_zero, List.set_cons_succ, i64_w, i32_w]
    rfl
  refine pure_ (i := 3) (N := some 79) (v := ?_) (a' := ?_) #[true, true, true, true, false, false, false, false, false, false, false, false, false, false, false, false, false, false, false, false, false, false, false, false, false, false] rfl rfl (by kernel_rfl) (fun _ _ _ h => h) (Or.inl ⟨by rfl, ?_⟩) ?_ ?_
  rotate_left
  · intro w'
    go_simp
    with_reducible rfl
  rotate_left
  · simp only [Act.put, List.setIfInBounds_toArray, List.set_cons_zero, List.set_cons_succ, i64_w, i32_w]
    rfl
  refine pure_ (i := 4) (N := some 80) (v := ?_) (a' := ?_) #[true, true, true, true, true, false, false, false, false, false, false, false, false, false, false, false, false, false, false, false, false, false, false, false, false, false] rfl rfl (by kernel_rfl) (fun _ _ _ h => h) (Or.inl ⟨by rfl, ?_⟩) ?_ ?_
  rotate_left
  · intro w'
    go_simp
    with_reducible rfl
  rotate_left
  · simp only [Act.put, List.setIfInBounds_toArray, List.set_cons_zero, List.set_cons_succ, i64_w, i32_w]
    rfl
  refine pure_ (i := 5) (N := some 81) (v := ?_) (a' := ?_) #[true, true, true, true, true, true, false, false, false, false, false, false, false, false, false, false, false, false, false, false, false, false, false, false, false, false] rfl rfl (by kernel_rfl) (fun _ _ _ h => h) (Or.inl ⟨by rfl, ?_⟩) ?_ ?_
  rotate_left
  · intro w'
    go_simp
    with_reducible rfl
  rotate_left
  · simp only [Act.put, List.setIfInBounds_toArray, List.set_cons_zero, List.set_cons_succ, i64_w, i32_w]
    rfl
  refine pure_ (i := 6) (N := some 82) (v := ?_) (a' := ?_) #[true, true, true, true, true, true, true, false, false, false, false, false, false, false, false, false, false, false, false, false, false, false, false, false, false, false] rfl rfl (by kernel_rfl) (fun _ _ _ h => h) (Or.inl ⟨by rfl, ?_⟩) ?_ ?_
  rotate_left
  · intro w'
    go_simp
    with_reducible rfl
  rotate_left
  · simp only [Act.put, List.setIfInBounds_toArray, List.set_cons_zero, List.set_cons_succ, i64_w, i32_w]
    rfl
  refine pure_ (i := 7) (N := some 83) (v := ?_) (a' := ?_) #[true, true, true, true, true, true, true, true, false, false, false, false, false, false, false, false, false, false, false, false, false, false, false, false, false, false] rfl rfl (by kernel_rfl) (fun _ _ _ h => h) (Or.inl ⟨by rfl, ?_⟩) ?_ ?_
  rotate_left
  · intro w'
    go_simp
    with_reducible rfl
  rotate_left
  · simp only [Act.put, List.setIfInBounds_toArray, List.set_cons_zero, List.set_cons_succ, i64_w, i32_w]
    rfl
  refine pure_ (i := 8) (N := some 84) (v := ?_) (a' := ?_) #[true, true, true, true, true, true, true, true, true, false, false, false, false, false, false, false, false, false, false, false, false, false, false, false, false, false] rfl rfl (by kernel_rfl) (fun _ _ _ h => h) (Or.inl ⟨by rfl, ?_⟩) ?_ ?_
  rotate_left
  · intro w'
    go_simp
    with_reducible rfl
  rotate_left
  · simp only [Act.put, List.setIfInBounds_toArray, List.set_cons_zero, List.set_cons_succ, i64_w, i32_w]
    rfl
  refine pure_ (i := 9) (N := some 85) (v := ?_) (a' := ?_) #[true, true, true, true, true, true, true, true, true, true, false, false, false, false, false, false, false, false, false, false, false, false, false, false, false, false] rfl rfl (by kernel_rfl) (fun _ _ _ h => h) (Or.inl ⟨by rfl, ?_⟩) ?_ ?_
  rotate_left
  · intro w'
    go_simp
    with_reducible rfl
  rotate_left
  · simp only [Act.put, List.setIfInBounds_toArray, List.set_cons_zero, List.set_cons_succ, i64_w, i32_w]
    rfl
  refine pure_ (i := 11) (N := some 87) (v := ?_) (a' := ?_) #[true, true, true, true, true, true, true, true, true, true, false, true, false, false, false, false, false, false, false, false, false, false, false, false, false, false] rfl rfl (by kernel_rfl) (fun _ _ _ h => h) (Or.inl ⟨by rfl, ?_⟩) ?_ ?_
  rotate_left
  · intro w'
    go_simp
    with_reducible rfl
  rotate_left
  · simp only [Act.put, List.setIfInBounds_toArray, List.set_cons_zero, List.set_cons_succ, i64_w, i32_w]
    rfl
  refine one_ (i := 10) (N := some 86) #[true, true, true, true, true, true, true, true, true, true, true, true, false, false, false, false, false, false, false, false, false, false, false, false, false, false] rfl rfl (by kernel_rfl) (by decide) (fun K hK => ?_)
  refine goes_ Try.func17 (by kernel_rfl) rfl #[.int .i64 i] (by rfl) rfl rfl (by (try simp only [List.map_toArray, List.map_cons, List.map_nil]); rfl) ?_
  refine (transeptlaw06_num.calls i i _ rfl).mono ?_
  rintro e w3 ⟨rfl, hd⟩
  refine ⟨_, rfl, ?_⟩
  have hb := hd.below
  clear hd
  replace BKS := Aside0.mk (blk_below BKS.out hb)
  replace BKT := Aside0.mk (blk_below BKT.out hb)
  replace BK := Aside0.mk (blk_below BK.out hb)
  replace HB := Aside0.mk (below_step HB.out hb)
  clear hb
  refine hK.out _ _ ⟨(blk_cell BKS.out 0).trans rfl, (blk_cell BKS.out 1).trans rfl, (blk_cell BKS.out 2).trans rfl, (blk_cell BKS.out 3).trans rfl, (blk_cell BKS.out 4).trans rfl, (blk_cell BKT.out 0).trans rfl, (blk_cell BKT.out 1).trans rfl, (blk_cell BKT.out 2).trans rfl, (blk_cell BKT.out 3).trans rfl, (blk_cell BKT.out 4).trans rfl, (blk_cell BK.out 0).trans rfl, (blk_cell BK.out 1).trans rfl, (blk_cell BK.out 2).trans rfl, (blk_cell BK.out 3).trans rfl, (blk_cell BK.out 4).trans rfl⟩ (fun hHeld => ?_)
  clear hK K
  refine norm_ (a' := ?_) ?_ ?_
  rotate_left
  · show Act.put _ (some 86) _ = _
    simp only [Act.put, List.setIfInBounds_toArray, List.set_cons_zero, List.set_cons_succ, i64_w, i32_w]
    rfl
  refine pure_ (i := 12) (N := some 88) (v := ?_) (a' := ?_) #[true, true, true, true, true, true, true, true, true, true, true, true, true, false, false, false, false, false, false, false, false, false, false, false, false, false] rfl rfl (by kernel_rfl) (fun _ _ _ h => h) (Or.inl ⟨by rfl, ?_⟩) ?_ ?_
  rotate_left
  · intro w'
    go_simp
    with_reducible rfl
  rotate_left
  · simp only [Act.put, List.setIfInBounds_toArray, List.set_cons_zero, List.set_cons_succ, i64_w, i32_w]
    rfl
  refine pure_ (i := 13) (N := some 89) (v := ?_) (a' := ?_) #[true, true, true, true, true, true, true, true, true, true, true, true, true, true, false, false, false, false, false, false, false, false, false, false, false, false] rfl rfl (by kernel_rfl) (fun _ _ _ h => h) (Or.inl ⟨by rfl, ?_⟩) ?_ ?_
  rotate_left
  · intro w'
    go_simp
    with_reducible rfl
  rotate_left
  · simp only [Act.put, List.setIfInBounds_toArray, List.set_cons_zero, List.set_cons_succ, i64_w, i32_w]
    rfl
  refine pure_ (i := 14) (N := some 90) (v := ?_) (a' := ?_) #[true, true, true, true, true, true, true, true, true, true, true, true, true, true, true, false, false, false, false, false, false, false, false, false, false, false] rfl rfl (by kernel_rfl) (fun _ _ _ h => h) (Or.inl ⟨by rfl, ?_⟩) ?_ ?_
  rotate_left
  · intro w'
    go_simp
    with_reducible rfl
  rotate_left
  · simp only [Act.put, List.setIfInBounds_toArray, List.set_cons_zero, List.set_cons_succ, i64_w, i32_w]
    rfl
  refine take_ (i := 15) (N := some 91) (v := ?_) (a' := ?_) #[true, true, true, true, true, true, true, true, true, true, true, true, true, true, true, true, false, false, false, false, false, false, false, false, false, false] rfl rfl (by kernel_rfl) (fun _ _ _ h => h) (Or.inl ⟨by rfl, ?_⟩) hHeld ?_ ?_
  rotate_left
  · rintro w' ⟨s0, s1, s2, s3, s4, s5, s6, s7, s8, s9, s10, s11, s12, s13, s14⟩
    go_simp
    with_reducible rfl
  rotate_left
  · simp only [Act.put, List.setIfInBounds_toArray, List.set_cons_zero, List.set_cons_succ, i64_w, i32_w]
    rfl
  refine take_ (i := 18) (N := some 94) (v := ?_) (a' := ?_) #[true, true, true, true, true, true, true, true, true, true, true, true, true, true, true, true, false, false, true, false, false, false, false, false, false, false] rfl rfl (by kernel_rfl) (fun _ _ _ h => h) (Or.inl ⟨by rfl, ?_⟩) hHeld ?_ ?_
  rotate_left
  · rintro w' ⟨s0, s1, s2, s3, s4, s5, s6, s7, s8, s9, s10, s11, s12, s13, s14⟩
    go_simp
    with_reducible rfl
  rotate_left
  · simp only [Act.put, List.setIfInBounds_toArray, List.set_cons_zero, List.set_cons_succ, i64_w, i32_w]
    rfl
  refine one_ (i := 16) (N := some 92) #[true, true, true, true, true, true, true, true, true, true, true, true, true, true, true, true, true, false, true, false, false, false, false, false, false, false] rfl rfl (by kernel_rfl) (by decide) (fun K hK => ?_)
  refine goes_ Try.func45 (by kernel_rfl) rfl #[.agg #[.int .i64 a0, .int .i64 a1, .int .i64 a2, .int .i64 a3, .int .i64 a4]] (by rfl) rfl rfl (by (try simp only [List.map_toArray, List.map_cons, List.map_nil]); rfl) ?_
  refine (super_Check.calls a0 a1 a2 a3 a4 ck _ CK1.out).mono ?_
  rintro e w3 ⟨rfl, hb⟩
  refine ⟨_, rfl, ?_⟩
  replace BKS := Aside0.mk (blk_below BKS.out hb)
  replace BKT := Aside0.mk (blk_below BKT.out hb)
  replace BK := Aside0.mk (blk_below BK.out hb)
  replace HB := Aside0.mk (below_step HB.out hb)
  clear hb
  refine hK.out _ _ ⟨(blk_cell BKS.out 0).trans rfl, (blk_cell BKS.out 1).trans rfl, (blk_cell BKS.out 2).trans rfl, (blk_cell BKS.out 3).trans rfl, (blk_cell BKS.out 4).trans rfl, (blk_cell BKT.out 0).trans rfl, (blk_cell BKT.out 1).trans rfl, (blk_cell BKT.out 2).trans rfl, (blk_cell BKT.out 3).trans rfl, (blk_cell BKT.out 4).trans rfl, (blk_cell BK.out 0).trans rfl, (blk_cell BK.out 1).trans rfl, (blk_cell BK.out 2).trans rfl, (blk_cell BK.out 3).trans rfl, (blk_cell BK.out 4).trans rfl⟩ (fun hHeld => ?_)
  clear hK K
  refine norm_ (a' := ?_) ?_ ?_
  rotate_left
  · show Act.put _ (some 92) _ = _
    simp only [Act.put, List.setIfInBounds_toArray, List.set_cons_zero, List.set_cons_succ, i64_w, i32_w]
    rfl
  refine one_ (i := 17) (N := some 93) #[true, true, true, true, true, true, true, true, true, true, true, true, true, true, true, true, true, true, true, false, false, false, false, false, false, false] rfl rfl (by kernel_rfl) (by decide) (fun K hK => ?_)
  refine goes_ Try.func17 (by kernel_rfl) rfl #[.int .i64 ck] (by rfl) rfl rfl (by (try simp only [List.map_toArray, List.map_cons, List.map_nil]); rfl) ?_
  refine (transeptlaw06_num.calls ck ck _ rfl).mono ?_
  rintro e w3 ⟨rfl, hd⟩
  refine ⟨_, rfl, ?_⟩
  have hb := hd.below
  clear hd
  replace BKS := Aside0.mk (blk_below BKS.out hb)
  replace BKT := Aside0.mk (blk_below BKT.out hb)
  replace BK := Aside0.mk (blk_below BK.out hb)
  replace HB := Aside0.mk (below_step HB.out hb)
  clear hb
  refine hK.out _ _ ⟨(blk_cell BKS.out 0).trans rfl, (blk_cell BKS.out 1).trans rfl, (blk_cell BKS.out 2).trans rfl, (blk_cell BKS.out 3).trans rfl, (blk_cell BKS.out 4).trans rfl, (blk_cell BKT.out 0).trans rfl, (blk_cell BKT.out 1).trans rfl, (blk_cell BKT.out 2).trans rfl, (blk_cell BKT.out 3).trans rfl, (blk_cell BKT.out 4).trans rfl, (blk_cell BK.out 0).trans rfl, (blk_cell BK.out 1).trans rfl, (blk_cell BK.out 2).trans rfl, (blk_cell BK.out 3).trans rfl, (blk_cell BK.out 4).trans rfl⟩ (fun hHeld => ?_)
  clear hK K
  refine norm_ (a' := ?_) ?_ ?_
  rotate_left
  · show Act.put _ (some 93) _ = _
    simp only [Act.put, List.setIfInBounds_toArray, List.set_cons_zero, List.set_cons_succ, i64_w, i32_w]
    rfl
  refine one_ (i := 19) (N := some 95) #[true, true, true, true, true, true, true, true, true, true, true, true, true, true, true, true, true, true, true, true, false, false, false, false, false, false] rfl rfl (by kernel_rfl) (by decide) (fun K hK => ?_)
  refine goes_ Try.func18 (by kernel_rfl) rfl #[.agg #[.int .i64 a0, .int .i64 a1, .int .i64 a2, .int .i64 a3, .int .i64 a4]] (by rfl) rfl rfl (by (try simp only [List.map_toArray, List.map_cons, List.map_nil]); rfl) ?_
  refine (transeptref06_Check.calls 20 a0 a1 a2 a3 a4 ck _ CK2.out).mono ?_
  rintro e w3 ⟨rfl, hb⟩
  refine ⟨_, rfl, ?_⟩
  replace BKS := Aside0.mk (blk_below BKS.out hb)
  replace BKT := Aside0.mk (blk_below BKT.out hb)
  replace BK := Aside0.mk (blk_below BK.out hb)
  replace HB := Aside0.mk (below_step HB.out hb)
  clear hb
  refine hK.out _ _ ⟨(blk_cell BKS.out 0).trans rfl, (blk_cell BKS.out 1).trans rfl, (blk_cell BKS.out 2).trans rfl, (blk_cell BKS.out 3).trans rfl, (blk_cell BKS.out 4).trans rfl, (blk_cell BKT.out 0).trans rfl, (blk_cell BKT.out 1).trans rfl, (blk_cell BKT.out 2).trans rfl, (blk_cell BKT.out 3).trans rfl, (blk_cell BKT.out 4).trans rfl, (blk_cell BK.out 0).trans rfl, (blk_cell BK.out 1).trans rfl, (blk_cell BK.out 2).trans rfl, (blk_cell BK.out 3).trans rfl, (blk_cell BK.out 4).trans rfl⟩ (fun hHeld => ?_)
  clear hK K
  refine norm_ (a' := ?_) ?_ ?_
  rotate_left
  · show Act.put _ (some 95) _ = _
    simp only [Act.put, List.setIfInBounds_toArray, List.set_cons_zero, List.set_cons_succ, i64_w, i32_w]
    rfl
  refine pure_ (i := 20) (N := some 96) (v := ?_) (a' := ?_) #[true, true, true, true, true, true, true, true, true, true, true, true, true, true, true, true, true, true, true, true, true, false, false, false, false, false] rfl rfl (by kernel_rfl) (fun _ _ _ h => h) (Or.inl ⟨by rfl, ?_⟩) ?_ ?_
  rotate_left
  · intro w'
    go_simp
    with_reducible rfl
  rotate_left
  · simp only [Act.put, List.setIfInBounds_toArray, List.set_cons_zero, List.set_cons_succ, i64_w, i32_w]
    rfl
  refine pure_ (i := 21) (N := some 97) (v := ?_) (a' := ?_) #[true, true, true, true, true, true, true, true, true, true, true, true, true, true, true, true, true, true, true, true, true, true, false, false, false, false] rfl rfl (by kernel_rfl) (fun _ _ _ h => h) (Or.inl ⟨by rfl, ?_⟩) ?_ ?_
  rotate_left
  · intro w'
    go_simp
    with_reducible rfl
  rotate_left
  · simp only [Act.put, List.setIfInBounds_toArray, List.set_cons_zero, List.set_cons_succ, i64_w, i32_w]
    rfl
  refine pure_ (i := 22) (N := some 98) (v := ?_) (a' := ?_) #[true, true, true, true, true, true, true, true, true, true, true, true, true, true, true, true, true, true, true, true, true, true, true, false, false, false] rfl rfl (by kernel_rfl) (fun _ _ _ h => h) (Or.inl ⟨by rfl, ?_⟩) ?_ ?_
  rotate_left
  · intro w'
    go_simp
    with_reducible rfl
  rotate_left
  · simp only [Act.put, List.setIfInBounds_toArray, List.set_cons_zero, List.set_cons_succ, i64_w, i32_w]
    rfl
  refine one_ (i := 23) (N := some 99) #[true, true, true, true, true, true, true, true, true, true, true, true, true, true, true, true, true, true, true, true, true, true, true, true, false, false] rfl rfl (by kernel_rfl) (by decide) (fun K hK => ?_)
  refine goes_ Try.func14 (by kernel_rfl) rfl #[] (by rfl) rfl rfl Array.map_empty ?_
  refine (transeptlaw06_alive.calls true _ rfl).mono ?_
  rintro e w3 ⟨rfl, hb⟩
  refine ⟨_, rfl, ?_⟩
  replace BKS := Aside0.mk (blk_below BKS.out hb)
  replace BKT := Aside0.mk (blk_below BKT.out hb)
  replace BK := Aside0.mk (blk_below BK.out hb)
  replace HB := Aside0.mk (below_step HB.out hb)
  clear hb
  refine hK.out _ _ ⟨(blk_cell BKS.out 0).trans rfl, (blk_cell BKS.out 1).trans rfl, (blk_cell BKS.out 2).trans rfl, (blk_cell BKS.out 3).trans rfl, (blk_cell BKS.out 4).trans rfl, (blk_cell BKT.out 0).trans rfl, (blk_cell BKT.out 1).trans rfl, (blk_cell BKT.out 2).trans rfl, (blk_cell BKT.out 3).trans rfl, (blk_cell BKT.out 4).trans rfl, (blk_cell BK.out 0).trans rfl, (blk_cell BK.out 1).trans rfl, (blk_cell BK.out 2).trans rfl, (blk_cell BK.out 3).trans rfl, (blk_cell BK.out 4).trans rfl⟩ (fun hHeld => ?_)
  clear hK K
  refine norm_ (a' := ?_) ?_ ?_
  rotate_left
  · show Act.put _ (some 99) _ = _
    simp only [Act.put, List.setIfInBounds_toArray, List.set_cons_zero, List.set_cons_succ, i64_w, i32_w]
    rfl
  refine pure_ (i := 24) (N := some 100) (v := ?_) (a' := ?_) #[true, true, true, true, true, true, true, true, true, true, true, true, true, true, true, true, true, true, true, true, true, true, true, true, true, false] rfl rfl (by kernel_rfl) (fun _ _ _ h => h) (Or.inl ⟨by rfl, ?_⟩) ?_ ?_
  rotate_left
  · intro w'
    go_simp
    with_reducible rfl
  rotate_left
  · simp only [Act.put, List.setIfInBounds_toArray, List.set_cons_zero, List.set_cons_succ, i64_w, i32_w]
    rfl
  refine pure_ (i := 25) (N := some 6) (v := ?_) (a' := ?_) #[true, true, true, true, true, true, true, true, true, true, true, true, true, true, true, true, true, true, true, true, true, true, true, true, true, true] rfl rfl (by kernel_rfl) (fun _ _ _ h => h) (Or.inl ⟨by rfl, ?_⟩) ?_ ?_
  rotate_left
  · intro w'
    go_simp
    with_reducible rfl
  rotate_left
  · simp only [Act.put, List.setIfInBounds_toArray, List.set_cons_zero, List.set_cons_succ, i64_w, i32_w]
    rfl
  refine done_ (by kernel_rfl) ?_
  go_wp2_with fail
  go_ret
  exact ⟨rfl, HB.out⟩
end Go.Proofs.Ytiiphlfgdkjjiaa.Q
