/- super.Pick: the newer one of two; no condition but that octets are octets. -/
import Derived.Test.YtiiphlfgdkjjiaaZTellsSDec
namespace Go.Proofs.Ytiiphlfgdkjjiaa.Q
open Go.RowKit Go.Proofs.YtiiphlfgdkjjiaaW.PrintWords Go.Proofs.YtiiphlfgdkjjiaaW.PrintLast Go.Proofs.YtiiphlfgdkjjiaaW.PrintMore
open Go.Proofs.Ytiiphlfgdkjjiaa.CrcP
set_option linter.unusedVariables false
set_option linter.unusedSimpArgs false

abbrev Dc := Int × Int × Int × Int × Int × Int
abbrev St := Int × Int × Int × Int × Int × Int × Int
/-- A sector more is looked at: the i-th. -/
def stp (s : St) (i : Int) (d : Dc) : St := if d.2.2.2.2.2 = 0 ∧ (s.2.2.2.2.2.2 ≠ 0 ∨ s.1 < d.1) then (d.1, d.2.1, d.2.2.1, d.2.2.2.1, d.2.2.2.2.1, i, 0) else s
def st0 : St := (0, 0, 0, 0, 0, 0, 21)
def pick (p q : Dc) : St := stp (stp st0 0 p) 1 q
def stN (p q : Dc) : Nat → St
  | 0 => st0
  | 1 => stp st0 0 p
  | _ => pick p q
def super_Pick.f (l0 l1 : List Int) : Option St := (super_Decode.f l0).bind fun p => (super_Decode.f l1).bind fun q => some (pick p q)

theorem five_far {W : World} {g g' t : Nat} {cs : Array Value} {v0 v1 v2 v3 v4 : Value} (h : W.heap[g']? = some (.cells cs t (0, 0))) (hn : g' ≠ g) :
    (((((W.setCell ⟨g, 0, none⟩ v0).setCell ⟨g, 1, none⟩ v1).setCell ⟨g, 2, none⟩ v2).setCell ⟨g, 3, none⟩ v3).setCell ⟨g, 4, none⟩ v4).heap[g']? = some (.cells cs t (0, 0)) :=
  blk_far (blk_far (blk_far (blk_far (blk_far h (p := ⟨g, 0, none⟩) hn v0) (p := ⟨g, 1, none⟩) hn v1) (p := ⟨g, 2, none⟩) hn v2) (p := ⟨g, 3, none⟩) hn v3) (p := ⟨g, 4, none⟩) hn v4

set_option maxHeartbeats 8000000 in
set_option maxRecDepth 100000 in
theorem super_Pick.calls (A0 : Option Addr) (c0 : Nat) (l0 : List Int) (A1 : Option Addr) (c1 : Nat) (l1 : List Int) (r1 r2 r3 r4 r5 r6 r7 : Int) (w : World) (hr0 : Kd.C (Kd.int .u8) w A0 l0.length l0) (hc0 : l0.length ≤ c0) (hr1 : Kd.C (Kd.int .u8) w A1 l1.length l1) (hc1 : l1.length ≤ c1) (h : super_Pick.f l0 l1 = some (r1, r2, r3, r4, r5, r6, r7)) :
    Calls Try.prog 43 #[.slice A0 l0.length c0, .slice A1 l1.length c1] w fun e w' => e = .returned (.tuple #[.agg #[.int .i64 r1, .int .i64 r2, .int .i64 r3, .int .i64 r4, .int .i64 r5], .int .i64 r6, .int .i64 r7]) ∧ Below w.heap.size w w' := by
  have hu := Try.underlying33
  unfold super_Pick.f at h
  obtain ⟨⟨p0, p1, p2, p3, p4, p5⟩, hp, h⟩ := Option.bind_eq_some_iff.mp h
  obtain ⟨⟨q0, q1, q2, q3, q4, q5⟩, hq, h⟩ := Option.bind_eq_some_iff.mp h
  have H := Aside0.mk (Option.some.inj h)
  have HP := Aside0.mk hp
  have HQ := Aside0.mk hq
  have HR0 := Aside0.mk hr0
  have HR1 := Aside0.mk hr1
  have HC0 := Aside0.mk hc0
  have HC1 := Aside0.mk hc1
  clear h hp hq hr0 hr1 hc0 hc1
  go_enter Try.func43, Try.ntmps43
  go_wp2_with fail
  obtain ⟨W3, hW3⟩ : ∃ W3, W3 = ((w.alloc (.cells #[.int .i64 0, .int .i64 0, .int .i64 0, .int .i64 0, .int .i64 0] 33)).alloc (.cells #[.int .i64 0, .int .i64 0, .int .i64 0, .int .i64 0, .int .i64 0] 33)).alloc (.cells #[.slice A0 l0.length c0, .slice A1 l1.length c1] 50) := ⟨_, rfl⟩
  have BKR := Aside0.mk (show W3.heap[w.heap.size]? = some (.cells #[.int .i64 0, .int .i64 0, .int .i64 0, .int .i64 0, .int .i64 0] 33 (0, 0)) from by rw [hW3]; exact blk_alloc (blk_alloc (blk_new _ _) _) _)
  have BKB := Aside0.mk (show W3.heap[w.heap.size + 1]? = some (.cells #[.int .i64 0, .int .i64 0, .int .i64 0, .int .i64 0, .int .i64 0] 33 (0, 0)) from by rw [hW3]; have := blk_alloc (blk_new (w.alloc (.cells #[.int .i64 0, .int .i64 0, .int .i64 0, .int .i64 0, .int .i64 0] 33)) (.cells #[.int .i64 0, .int .i64 0, .int .i64 0, .int .i64 0, .int .i64 0] 33)) (.cells #[.slice A0 l0.length c0, .slice A1 l1.length c1] 50); rw [World.size_alloc] at this; exact this)
  have BKL := Aside0.mk (show W3.heap[w.heap.size + 2]? = some (.cells #[.slice A0 l0.length c0, .slice A1 l1.length c1] 50 (0, 0)) from by rw [hW3]; have := blk_new ((w.alloc (.cells #[.int .i64 0, .int .i64 0, .int .i64 0, .int .i64 0, .int .i64 0] 33)).alloc (.cells #[.int .i64 0, .int .i64 0, .int .i64 0, .int .i64 0, .int .i64 0] 33)) (.cells #[.slice A0 l0.length c0, .slice A1 l1.length c1] 50); rw [World.size_alloc, World.size_alloc] at this; exact this)
  have HB := Aside0.mk (show Below w.heap.size w W3 from by rw [hW3]; exact below_alloc (below_alloc (below_alloc (Below.refl _ _) _) _) _)
  rw [← hW3]
  clear hW3
  go_loopw [8, 9, 19] (fun wh ev i wr => ∃ k : Nat, k ≤ 2 ∧ i = .int .i64 k ∧ ∃ b0 b1 b2 b3 b4 b5 b6 : Int, wh = .int .i64 b5 ∧ ev = .int .i64 b6 ∧ Hid (stN (p0, p1, p2, p3, p4, p5) (q0, q1, q2, q3, q4, q5) k = (b0, b1, b2, b3, b4, b5, b6)) ∧ Hid (wr.heap[w.heap.size]? = some (.cells #[.int .i64 0, .int .i64 0, .int .i64 0, .int .i64 0, .int .i64 0] 33 (0, 0))) ∧ Hid (wr.heap[w.heap.size + 1]? = some (.cells #[.int .i64 b0, .int .i64 b1, .int .i64 b2, .int .i64 b3, .int .i64 b4] 33 (0, 0))) ∧ Hid (wr.heap[w.heap.size + 2]? = some (.cells #[.slice A0 l0.length c0, .slice A1 l1.length c1] 50 (0, 0))) ∧ Hid (Below w.heap.size w wr)) (fun _ _ i _ => 2 - (intOf i).toNat)
  case atStart => exact ⟨0, by omega, rfl, 0, 0, 0, 0, 0, 0, 21, rfl, rfl, rfl, BKR.out, BKB.out, BKL.out, HB.out⟩
  case round =>
    clear BKR BKB BKL HB
    obtain ⟨k, hk, rfl, b0, b1, b2, b3, b4, b5, b6, rfl, rfl, HS, BKR, BKB, BKL, HB⟩ := hrel
    by_cases hlt : k < 2
    · rcases (by omega : k = 0 ∨ k = 1) with rfl | rfl
      · have x0 : wr.cell? ⟨w.heap.size + 2, 0, none⟩ = some (.slice A0 l0.length c0) := (blk_cell BKL 0).trans rfl
        have hd := super_Decode.calls A0 c0 l0 p0 p1 p2 p3 p4 p5 wr (Kd.C_below HR0.out HB) HC0.out HP.out
        go_wp2_with fail
        refine hd.mono ?_
        clear hd x0
        rintro e w4 ⟨rfl, hb4⟩
        have hb5 : Below wr.heap.size wr (w4.alloc (.cells #[.int .i64 p0, .int .i64 p1, .int .i64 p2, .int .i64 p3, .int .i64 p4] 33)) := below_step hb4 (below_alloc (Below.refl _ _) _)
        have BKR5 := Aside0.mk (blk_below BKR hb5)
        have BKB5 := Aside0.mk (blk_below BKB hb5)
        have BKL5 := Aside0.mk (blk_below BKL hb5)
        have HB5 := Aside0.mk (below_step HB hb5)
        have NR := Aside0.mk (show w.heap.size ≠ w.heap.size + 1 from by omega)
        have NL := Aside0.mk (show w.heap.size + 2 ≠ w.heap.size + 1 from by omega)
        clear hb4 hb5 BKR BKB BKL HB
        have hs := (show stN (p0, p1, p2, p3, p4, p5) (q0, q1, q2, q3, q4, q5) 0 = (b0, b1, b2, b3, b4, b5, b6) from HS)
        have HN := Aside0.mk (show stN (p0, p1, p2, p3, p4, p5) (q0, q1, q2, q3, q4, q5) 1 = stp (b0, b1, b2, b3, b4, b5, b6) 0 (p0, p1, p2, p3, p4, p5) from by rw [← hs]; rfl)
        clear hs
        have y0 : (w4.alloc (.cells #[.int .i64 p0, .int .i64 p1, .int .i64 p2, .int .i64 p3, .int .i64 p4] 33)).cell? ⟨w.heap.size + 1, 0, none⟩ = some (.int .i64 b0) := (blk_cell BKB5.out 0).trans rfl
        have f0 := blk_frozen BKB5.out 0
        have y1 : (w4.alloc (.cells #[.int .i64 p0, .int .i64 p1, .int .i64 p2, .int .i64 p3, .int .i64 p4] 33)).cell? ⟨w.heap.size + 1, 1, none⟩ = some (.int .i64 b1) := (blk_cell BKB5.out 1).trans rfl
        have f1 := blk_frozen BKB5.out 1
        have y2 : (w4.alloc (.cells #[.int .i64 p0, .int .i64 p1, .int .i64 p2, .int .i64 p3, .int .i64 p4] 33)).cell? ⟨w.heap.size + 1, 2, none⟩ = some (.int .i64 b2) := (blk_cell BKB5.out 2).trans rfl
        have f2 := blk_frozen BKB5.out 2
        have y3 : (w4.alloc (.cells #[.int .i64 p0, .int .i64 p1, .int .i64 p2, .int .i64 p3, .int .i64 p4] 33)).cell? ⟨w.heap.size + 1, 3, none⟩ = some (.int .i64 b3) := (blk_cell BKB5.out 3).trans rfl
        have f3 := blk_frozen BKB5.out 3
        have y4 : (w4.alloc (.cells #[.int .i64 p0, .int .i64 p1, .int .i64 p2, .int .i64 p3, .int .i64 p4] 33)).cell? ⟨w.heap.size + 1, 4, none⟩ = some (.int .i64 b4) := (blk_cell BKB5.out 4).trans rfl
        have f4 := blk_frozen BKB5.out 4
        by_cases g1 : p5 = 0
        · have g1b : (p5 == 0) = true := by rw [beq_iff_eq]; exact g1
          by_cases g2 : b6 = 0
          · have g2b : (b6 != 0) = false := by rw [bne_eq_false_iff_eq]; exact g2
            by_cases g3 : b0 < p0
            · have g3b : decide (b0 < p0) = true := decide_eq_true g3
              have G := Aside0.mk (show (p5 = 0 ∧ (b6 ≠ 0 ∨ b0 < p0)) from ⟨g1, .inr g3⟩)
              clear g1 g2 g3
              have HNX := Lib.hid (show stN (p0, p1, p2, p3, p4, p5) (q0, q1, q2, q3, q4, q5) 1 = (p0, p1, p2, p3, p4, 0, 0) from by rw [HN.out, stp, if_pos G.out])
              go_wp2_with fail
              go_roundw
              case rel => exact ⟨1, by omega, rfl, p0, p1, p2, p3, p4, 0, 0, rfl, rfl, HNX, Lib.hid (five_far BKR5.out NR.out), Lib.hid (five_put BKB5.out), Lib.hid (five_far BKL5.out NL.out), Lib.hid (five_below HB5.out (Nat.le_succ _))⟩
              case measure => simp [intOf]
            · have g3b : decide (b0 < p0) = false := decide_eq_false g3
              have G := Aside0.mk (show ¬ (p5 = 0 ∧ (b6 ≠ 0 ∨ b0 < p0)) from fun h_ => h_.2.elim (fun e_ => e_ g2) g3)
              clear g1 g2 g3
              have HNX := Lib.hid (show stN (p0, p1, p2, p3, p4, p5) (q0, q1, q2, q3, q4, q5) 1 = (b0, b1, b2, b3, b4, b5, b6) from by rw [HN.out, stp, if_neg G.out])
              go_wp2_with fail
              go_roundw
              case rel => exact ⟨1, by omega, rfl, b0, b1, b2, b3, b4, b5, b6, rfl, rfl, HNX, Lib.hid BKR5.out, Lib.hid BKB5.out, Lib.hid BKL5.out, Lib.hid HB5.out⟩
              case measure => simp [intOf]
          · have g2b : (b6 != 0) = true := by rw [bne_iff_ne]; exact g2
            have G := Aside0.mk (show (p5 = 0 ∧ (b6 ≠ 0 ∨ b0 < p0)) from ⟨g1, .inl g2⟩)
            clear g1 g2
            have HNX := Lib.hid (show stN (p0, p1, p2, p3, p4, p5) (q0, q1, q2, q3, q4, q5) 1 = (p0, p1, p2, p3, p4, 0, 0) from by rw [HN.out, stp, if_pos G.out])
            go_wp2_with fail
            go_roundw
            case rel => exact ⟨1, by omega, rfl, p0, p1, p2, p3, p4, 0, 0, rfl, rfl, HNX, Lib.hid (five_far BKR5.out NR.out), Lib.hid (five_put BKB5.out), Lib.hid (five_far BKL5.out NL.out), Lib.hid (five_below HB5.out (Nat.le_succ _))⟩
            case measure => simp [intOf]
        · have g1b : (p5 == 0) = false := by rw [beq_eq_false_iff_ne]; exact g1
          have G := Aside0.mk (show ¬ (p5 = 0 ∧ (b6 ≠ 0 ∨ b0 < p0)) from fun h_ => g1 h_.1)
          clear g1
          have HNX := Lib.hid (show stN (p0, p1, p2, p3, p4, p5) (q0, q1, q2, q3, q4, q5) 1 = (b0, b1, b2, b3, b4, b5, b6) from by rw [HN.out, stp, if_neg G.out])
          go_wp2_with fail
          go_roundw
          case rel => exact ⟨1, by omega, rfl, b0, b1, b2, b3, b4, b5, b6, rfl, rfl, HNX, Lib.hid BKR5.out, Lib.hid BKB5.out, Lib.hid BKL5.out, Lib.hid HB5.out⟩
          case measure => simp [intOf]
      · have x1 : wr.cell? ⟨w.heap.size + 2, 1, none⟩ = some (.slice A1 l1.length c1) := (blk_cell BKL 1).trans rfl
        have hd := super_Decode.calls A1 c1 l1 q0 q1 q2 q3 q4 q5 wr (Kd.C_below HR1.out HB) HC1.out HQ.out
        go_wp2_with fail
        refine hd.mono ?_
        clear hd x1
        rintro e w4 ⟨rfl, hb4⟩
        have hb5 : Below wr.heap.size wr (w4.alloc (.cells #[.int .i64 q0, .int .i64 q1, .int .i64 q2, .int .i64 q3, .int .i64 q4] 33)) := below_step hb4 (below_alloc (Below.refl _ _) _)
        have BKR5 := Aside0.mk (blk_below BKR hb5)
        have BKB5 := Aside0.mk (blk_below BKB hb5)
        have BKL5 := Aside0.mk (blk_below BKL hb5)
        have HB5 := Aside0.mk (below_step HB hb5)
        have NR := Aside0.mk (show w.heap.size ≠ w.heap.size + 1 from by omega)
        have NL := Aside0.mk (show w.heap.size + 2 ≠ w.heap.size + 1 from by omega)
        clear hb4 hb5 BKR BKB BKL HB
        have hs := (show stN (p0, p1, p2, p3, p4, p5) (q0, q1, q2, q3, q4, q5) 1 = (b0, b1, b2, b3, b4, b5, b6) from HS)
        have HN := Aside0.mk (show stN (p0, p1, p2, p3, p4, p5) (q0, q1, q2, q3, q4, q5) 2 = stp (b0, b1, b2, b3, b4, b5, b6) 1 (q0, q1, q2, q3, q4, q5) from by rw [← hs]; rfl)
        clear hs
        have y0 : (w4.alloc (.cells #[.int .i64 q0, .int .i64 q1, .int .i64 q2, .int .i64 q3, .int .i64 q4] 33)).cell? ⟨w.heap.size + 1, 0, none⟩ = some (.int .i64 b0) := (blk_cell BKB5.out 0).trans rfl
        have f0 := blk_frozen BKB5.out 0
        have y1 : (w4.alloc (.cells #[.int .i64 q0, .int .i64 q1, .int .i64 q2, .int .i64 q3, .int .i64 q4] 33)).cell? ⟨w.heap.size + 1, 1, none⟩ = some (.int .i64 b1) := (blk_cell BKB5.out 1).trans rfl
        have f1 := blk_frozen BKB5.out 1
        have y2 : (w4.alloc (.cells #[.int .i64 q0, .int .i64 q1, .int .i64 q2, .int .i64 q3, .int .i64 q4] 33)).cell? ⟨w.heap.size + 1, 2, none⟩ = some (.int .i64 b2) := (blk_cell BKB5.out 2).trans rfl
        have f2 := blk_frozen BKB5.out 2
        have y3 : (w4.alloc (.cells #[.int .i64 q0, .int .i64 q1, .int .i64 q2, .int .i64 q3, .int .i64 q4] 33)).cell? ⟨w.heap.size + 1, 3, none⟩ = some (.int .i64 b3) := (blk_cell BKB5.out 3).trans rfl
        have f3 := blk_frozen BKB5.out 3
        have y4 : (w4.alloc (.cells #[.int .i64 q0, .int .i64 q1, .int .i64 q2, .int .i64 q3, .int .i64 q4] 33)).cell? ⟨w.heap.size + 1, 4, none⟩ = some (.int .i64 b4) := (blk_cell BKB5.out 4).trans rfl
        have f4 := blk_frozen BKB5.out 4
        by_cases g1 : q5 = 0
        · have g1b : (q5 == 0) = true := by rw [beq_iff_eq]; exact g1
          by_cases g2 : b6 = 0
          · have g2b : (b6 != 0) = false := by rw [bne_eq_false_iff_eq]; exact g2
            by_cases g3 : b0 < q0
            · have g3b : decide (b0 < q0) = true := decide_eq_true g3
              have G := Aside0.mk (show (q5 = 0 ∧ (b6 ≠ 0 ∨ b0 < q0)) from ⟨g1, .inr g3⟩)
              clear g1 g2 g3
              have HNX := Lib.hid (show stN (p0, p1, p2, p3, p4, p5) (q0, q1, q2, q3, q4, q5) 2 = (q0, q1, q2, q3, q4, 1, 0) from by rw [HN.out, stp, if_pos G.out])
              go_wp2_with fail
              go_roundw
              case rel => exact ⟨2, by omega, rfl, q0, q1, q2, q3, q4, 1, 0, rfl, rfl, HNX, Lib.hid (five_far BKR5.out NR.out), Lib.hid (five_put BKB5.out), Lib.hid (five_far BKL5.out NL.out), Lib.hid (five_below HB5.out (Nat.le_succ _))⟩
              case measure => simp [intOf]
            · have g3b : decide (b0 < q0) = false := decide_eq_false g3
              have G := Aside0.mk (show ¬ (q5 = 0 ∧ (b6 ≠ 0 ∨ b0 < q0)) from fun h_ => h_.2.elim (fun e_ => e_ g2) g3)
              clear g1 g2 g3
              have HNX := Lib.hid (show stN (p0, p1, p2, p3, p4, p5) (q0, q1, q2, q3, q4, q5) 2 = (b0, b1, b2, b3, b4, b5, b6) from by rw [HN.out, stp, if_neg G.out])
              go_wp2_with fail
              go_roundw
              case rel => exact ⟨2, by omega, rfl, b0, b1, b2, b3, b4, b5, b6, rfl, rfl, HNX, Lib.hid BKR5.out, Lib.hid BKB5.out, Lib.hid BKL5.out, Lib.hid HB5.out⟩
              case measure => simp [intOf]
          · have g2b : (b6 != 0) = true := by rw [bne_iff_ne]; exact g2
            have G := Aside0.mk (show (q5 = 0 ∧ (b6 ≠ 0 ∨ b0 < q0)) from ⟨g1, .inl g2⟩)
            clear g1 g2
            have HNX := Lib.hid (show stN (p0, p1, p2, p3, p4, p5) (q0, q1, q2, q3, q4, q5) 2 = (q0, q1, q2, q3, q4, 1, 0) from by rw [HN.out, stp, if_pos G.out])
            go_wp2_with fail
            go_roundw
            case rel => exact ⟨2, by omega, rfl, q0, q1, q2, q3, q4, 1, 0, rfl, rfl, HNX, Lib.hid (five_far BKR5.out NR.out), Lib.hid (five_put BKB5.out), Lib.hid (five_far BKL5.out NL.out), Lib.hid (five_below HB5.out (Nat.le_succ _))⟩
            case measure => simp [intOf]
        · have g1b : (q5 == 0) = false := by rw [beq_eq_false_iff_ne]; exact g1
          have G := Aside0.mk (show ¬ (q5 = 0 ∧ (b6 ≠ 0 ∨ b0 < q0)) from fun h_ => g1 h_.1)
          clear g1
          have HNX := Lib.hid (show stN (p0, p1, p2, p3, p4, p5) (q0, q1, q2, q3, q4, q5) 2 = (b0, b1, b2, b3, b4, b5, b6) from by rw [HN.out, stp, if_neg G.out])
          go_wp2_with fail
          go_roundw
          case rel => exact ⟨2, by omega, rfl, b0, b1, b2, b3, b4, b5, b6, rfl, rfl, HNX, Lib.hid BKR5.out, Lib.hid BKB5.out, Lib.hid BKL5.out, Lib.hid HB5.out⟩
          case measure => simp [intOf]
    · obtain rfl : k = 2 := by omega
      have z0 : wr.cell? ⟨w.heap.size, 0, none⟩ = some (.int .i64 0) := (blk_cell BKR 0).trans rfl
      have f0 := blk_frozen BKR 0
      have z1 : wr.cell? ⟨w.heap.size, 1, none⟩ = some (.int .i64 0) := (blk_cell BKR 1).trans rfl
      have f1 := blk_frozen BKR 1
      have z2 : wr.cell? ⟨w.heap.size, 2, none⟩ = some (.int .i64 0) := (blk_cell BKR 2).trans rfl
      have f2 := blk_frozen BKR 2
      have z3 : wr.cell? ⟨w.heap.size, 3, none⟩ = some (.int .i64 0) := (blk_cell BKR 3).trans rfl
      have f3 := blk_frozen BKR 3
      have z4 : wr.cell? ⟨w.heap.size, 4, none⟩ = some (.int .i64 0) := (blk_cell BKR 4).trans rfl
      have f4 := blk_frozen BKR 4
      have y0 : wr.cell? ⟨w.heap.size + 1, 0, none⟩ = some (.int .i64 b0) := (blk_cell BKB 0).trans rfl
      have y1 : wr.cell? ⟨w.heap.size + 1, 1, none⟩ = some (.int .i64 b1) := (blk_cell BKB 1).trans rfl
      have y2 : wr.cell? ⟨w.heap.size + 1, 2, none⟩ = some (.int .i64 b2) := (blk_cell BKB 2).trans rfl
      have y3 : wr.cell? ⟨w.heap.size + 1, 3, none⟩ = some (.int .i64 b3) := (blk_cell BKB 3).trans rfl
      have y4 : wr.cell? ⟨w.heap.size + 1, 4, none⟩ = some (.int .i64 b4) := (blk_cell BKB 4).trans rfl
      have BKR9 := Aside0.mk BKR
      have HB9 := Aside0.mk HB
      have he := (show pick (p0, p1, p2, p3, p4, p5) (q0, q1, q2, q3, q4, q5) = (b0, b1, b2, b3, b4, b5, b6) from HS)
      rw [H.out] at he
      simp only [Prod.mk.injEq] at he
      obtain ⟨rfl, rfl, rfl, rfl, rfl, rfl, rfl⟩ := he
      clear BKR BKB BKL HB HS
      have BK6 := five_put (v0 := .int .i64 r1) (v1 := .int .i64 r2) (v2 := .int .i64 r3) (v3 := .int .i64 r4) (v4 := .int .i64 r5) BKR9.out
      have e0 := (blk_cell BK6 0).trans rfl
      have e1 := (blk_cell BK6 1).trans rfl
      have e2 := (blk_cell BK6 2).trans rfl
      have e3 := (blk_cell BK6 3).trans rfl
      have e4 := (blk_cell BK6 4).trans rfl
      have HB6 := Aside0.mk (five_below (v0 := .int .i64 r1) (v1 := .int .i64 r2) (v2 := .int .i64 r3) (v3 := .int .i64 r4) (v4 := .int .i64 r5) HB9.out (Nat.le_refl _))
      go_wp2_with fail
      refine bodyPost_ret (v := .tuple #[.agg #[.int .i64 r1, .int .i64 r2, .int .i64 r3, .int .i64 r4, .int .i64 r5], .int .i64 r6, .int .i64 r7]) (by simp [results, Try.f43, go_sem, hu, e0, e1, e2, e3, e4]) rfl ⟨rfl, HB6.out⟩
end Go.Proofs.Ytiiphlfgdkjjiaa.Q
