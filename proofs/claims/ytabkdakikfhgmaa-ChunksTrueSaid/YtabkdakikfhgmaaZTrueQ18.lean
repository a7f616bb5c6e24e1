/- Written by a program of this session (pr2.py) that drives the kit's print. Lean checks it. -/
import Derived.Test.YtabkdakikfhgmaaZTrueQ0
import Derived.Test.YtabkdakikfhgmaaZTrueCrcA
import Derived.Test.YtabkdakikfhgmaaZTrueCln
namespace Go.Proofs.Ytabkdakikfhgmaa.Q
open Go.RowKit Go.Proofs.YtabkdakikfhgmaaW.PrintWords Go.Proofs.YtabkdakikfhgmaaW.PrintLast Go.Proofs.YtabkdakikfhgmaaW.PrintMore
attribute [local go_sem] max2_int min2_int max_two min_two max_three min_three max_four min_four   -- for this text's walks alone
set_option linter.unusedVariables false
set_option linter.unusedSimpArgs false

mutual
def chunks_Add.j0 : Nat → Bool → Int → Int → List Int → Int → Int → Int → List Int → Option (Int × Int × List Int × Bool × Int)
  | 0, _, _, _, _, _, _, _, _ => none
  | k + 1, x23, x182000, x182001, x182002, x183000, x183001, x183002, x183003 => if x23 = true then (some (0, 0, ([] : List Int), false, 9)) else (if x183000 < 0 then (chunks_Add.j1 k true x182000 x182001 x182002 x183000 x183001 x183002 x183003) else (if x183000 > 1048576 then (chunks_Add.j1 k true x182000 x182001 x182002 x183000 x183001 x183002 x183003) else (if x183002 < 0 then (chunks_Add.j1 k true x182000 x182001 x182002 x183000 x183001 x183002 x183003) else (if x183002 > x183000 then (chunks_Add.j1 k true x182000 x182001 x182002 x183000 x183001 x183002 x183003) else (chunks_Add.j1 k (decide ((wrap64 (x183002 + (x183003.length : Int))) > x183000)) x182000 x182001 x182002 x183000 x183001 x183002 x183003)))))
def chunks_Add.j1 : Nat → Bool → Int → Int → List Int → Int → Int → Int → List Int → Option (Int × Int × List Int × Bool × Int)
  | 0, _, _, _, _, _, _, _, _ => none
  | k + 1, x55, x182000, x182001, x182002, x183000, x183001, x183002, x183003 => if x55 = true then (some (0, 0, ([] : List Int), false, 4)) else ((bytes_Clone.f x182002).bind fun t184 => (if x183002 = 0 then (chunks_Add.j2 k x183000 x183001 ([] : List Int) x183000 x183001 x183002 x183003) else (chunks_Add.j2 k x182000 x182001 t184 x183000 x183001 x183002 x183003)))
def chunks_Add.j2 : Nat → Int → Int → List Int → Int → Int → Int → List Int → Option (Int × Int × List Int × Bool × Int)
  | 0, _, _, _, _, _, _, _ => none
  | k + 1, x182000, x182001, x182002, x183000, x183001, x183002, x183003 => if x182000 = x183000 then (if x182001 = x183001 then (chunks_Add.j3 k (x182002.length : Int) (decide (x183002 > (x182002.length : Int))) x182000 x182001 x182002 x183000 x183001 x183002 x183003) else (chunks_Add.j3 k (x182002.length : Int) true x182000 x182001 x182002 x183000 x183001 x183002 x183003)) else (chunks_Add.j3 k (x182002.length : Int) true x182000 x182001 x182002 x183000 x183001 x183002 x183003)
def chunks_Add.j3 : Nat → Int → Bool → Int → Int → List Int → Int → Int → Int → List Int → Option (Int × Int × List Int × Bool × Int)
  | 0, _, _, _, _, _, _, _, _, _ => none
  | k + 1, x7, x72, x182000, x182001, x182002, x183000, x183001, x183002, x183003 => if x72 = true then (some (0, 0, ([] : List Int), false, 81)) else (if x183002 < x7 then (chunks_Add.j4 k x7 (decide ((wrap64 (x183002 + (x183003.length : Int))) > x7)) x182000 x182001 x182002 x183000 x183001 x183002 x183003) else (chunks_Add.j4 k x7 false x182000 x182001 x182002 x183000 x183001 x183002 x183003))
def chunks_Add.j4 : Nat → Int → Bool → Int → Int → List Int → Int → Int → Int → List Int → Option (Int × Int × List Int × Bool × Int)
  | 0, _, _, _, _, _, _, _, _, _ => none
  | k + 1, x7, x92, x182000, x182001, x182002, x183000, x183001, x183002, x183003 => if x92 = true then (some (0, 0, ([] : List Int), false, 81)) else (if x183002 < x7 then (some (x182000, x182001, x182002, false, 0)) else (if x182002.length + x183003.length < 140737488355328 then ((some (x182002 ++ x183003 : List Int)).bind fun y187 => (if (y187.length : Int) < x182000 then (some (x182000, x182001, y187, false, 0)) else ((crc_Sum.f y187).bind fun t190 => (if t190 = x182001 then (some (x182000, x182001, y187, true, 0)) else (some (0, 0, ([] : List Int), false, 21)))))) else (none)))
end
def chunks_Add.f (k : Nat) (a0_0 : Int) (a0_1 : Int) (l0_2 : List Int) (a1_0 : Int) (a1_1 : Int) (a1_2 : Int) (l1_3 : List Int) : Option (Int × Int × List Int × Bool × Int) := if a0_0 < 0 then (chunks_Add.j0 k true a0_0 a0_1 l0_2 a1_0 a1_1 a1_2 l1_3) else (if a0_0 > 1048576 then (chunks_Add.j0 k true a0_0 a0_1 l0_2 a1_0 a1_1 a1_2 l1_3) else (chunks_Add.j0 k (decide ((l0_2.length : Int) > a0_0)) a0_0 a0_1 l0_2 a1_0 a1_1 a1_2 l1_3))
set_option maxHeartbeats 8000000 in
set_option maxRecDepth 100000 in
theorem chunks_Add.calls (k : Nat) (a0_0 : Int) (a0_1 : Int) (A0_2 : Option Addr) (c0_2 : Nat) (l0_2 : List Int) (a1_0 : Int) (a1_1 : Int) (a1_2 : Int) (A1_3 : Option Addr) (c1_3 : Nat) (l1_3 : List Int) (r1 : Int) (r2 : Int) (r3 : List Int) (r4 : Bool) (r5 : Int) (w : World) (hr0_2 : Kd.C (Kd.int .u8) w A0_2 l0_2.length l0_2) (hc0_2 : l0_2.length ≤ c0_2) (hr1_3 : Kd.C (Kd.int .u8) w A1_3 l1_3.length l1_3) (hc1_3 : l1_3.length ≤ c1_3) (h : chunks_Add.f k a0_0 a0_1 l0_2 a1_0 a1_1 a1_2 l1_3 = some (r1, r2, r3, r4, r5)) :
    Calls Try.prog 20 #[.agg #[.int .i64 a0_0, .int .u32 a0_1, .slice A0_2 l0_2.length c0_2], .agg #[.int .i64 a1_0, .int .u32 a1_1, .int .i64 a1_2, .slice A1_3 l1_3.length c1_3]] w fun e w' => ∃ v2_ : Value, e = .returned (.tuple #[.agg #[.int .i64 r1, .int .u32 r2, v2_], .bool r4, .int .i64 r5]) ∧ Kd.R (Kd.int .u8) 5 w' w.heap.size (fun _ => True) v2_ r3 ∧ Below w.heap.size w w' := by
 have hu45 := Try.underlying45
 have hu41 := Try.underlying41
 have HR0_2 := Aside0.mk hr0_2
 have HC0_2 := Aside0.mk hc0_2
 clear hr0_2 hc0_2
 have HR1_3 := Aside0.mk hr1_3
 have HC1_3 := Aside0.mk hc1_3
 clear hr1_3 hc1_3
 have HB := Aside0.mk (Below.refl w.heap.size w)
 have H : (if a0_0 < 0 then (chunks_Add.j0 k true a0_0 a0_1 l0_2 a1_0 a1_1 a1_2 l1_3) else (if a0_0 > 1048576 then (chunks_Add.j0 k true a0_0 a0_1 l0_2 a1_0 a1_1 a1_2 l1_3) else (chunks_Add.j0 k (decide ((l0_2.length : Int) > a0_0)) a0_0 a0_1 l0_2 a1_0 a1_1 a1_2 l1_3))) = some (r1, r2, r3, r4, r5) := h
 clear h
 have HC3 := Aside0.mk H
 clear H
 go_enter Try.func20, Try.ntmps20
 go_upto_region 1 with (first | ((with_reducible refine gate_dst (N := 2) rfl ?_); (try (refine gate_guard (by rfl) ?_; dsimp only)); refine box_event ?hg (N := 2) ?hd (cs := #[.int .i64 a0_0, .int .u32 a0_1, .slice A0_2 l0_2.length c0_2]) (t := 45) ?hr ?_; (case hd => rfl); (case hg => rfl); (case hr => first | (go_simp; done) | (go_simp; rfl)); intro gb181 hg w4 hbox hb; have n0_ := Aside0.mk (below_step (by repeat (first | (with_reducible first | exact HB.out | apply below_alloc | apply pw_below_drewN | apply below_drew1) | exact HB.out)) hb); have n1_ := Aside0.mk (hbox); have n2_ := Aside0.mk ((by rw [hg]; exact (below_size (by repeat (first | (with_reducible first | exact HB.out | apply below_alloc | apply pw_below_drewN | apply below_drew1) | exact HB.out))) : w.heap.size ≤ gb181)); have n3_ := Aside0.mk ((by rw [hg]; exact (below_size (by repeat (first | (with_reducible first | exact HB.out | apply below_alloc | apply pw_below_drewN | apply below_drew1) | exact HB.out))) : w.heap.size ≤ gb181)); clear HB; have HB := n0_; have BK181 := n1_; have GW181 := n2_; have GE181 := n3_; clear n0_ n1_ n2_ n3_; clear hb hbox hg) | ((with_reducible refine gate_dst (N := 3) rfl ?_); (try (refine gate_guard (by rfl) ?_; dsimp only)); refine box_event ?hg (N := 3) ?hd (cs := #[.int .i64 a1_0, .int .u32 a1_1, .int .i64 a1_2, .slice A1_3 l1_3.length c1_3]) (t := 41) ?hr ?_; (case hd => rfl); (case hg => rfl); (case hr => first | (go_simp; done) | (go_simp; rfl)); intro gb182 hg w5 hbox hb; have n0_ := Aside0.mk (blk_below (g := gb181) (o := .cells #[.int .i64 a0_0, .int .u32 a0_1, .slice A0_2 l0_2.length c0_2] 45 (0, 0)) (by (with_reducible repeat (first | refine blk_drewN ?_ _ | refine blk_drew ?_ | refine blk_alloc ?_ _)); exact BK181.out) hb); have n1_ := Aside0.mk (below_step (by repeat (first | (with_reducible first | exact HB.out | apply below_alloc | apply pw_below_drewN | apply below_drew1 | refine below_set ?_ GE181.out) | exact HB.out)) hb); have n2_ := Aside0.mk (hbox); have n3_ := Aside0.mk ((by rw [hg]; exact (below_size (by repeat (first | (with_reducible first | exact HB.out | apply below_alloc | apply pw_below_drewN | apply below_drew1 | refine below_set ?_ GE181.out) | exact HB.out))) : w.heap.size ≤ gb182)); have n4_ := Aside0.mk ((by rw [hg]; exact (below_size (by repeat (first | (with_reducible first | exact HB.out | apply below_alloc | apply pw_below_drewN | apply below_drew1 | refine below_set ?_ GE181.out) | exact HB.out))) : w.heap.size ≤ gb182)); have n5_ := Aside0.mk ((by rw [hg]; exact Nat.ne_of_lt (blk_lt (g := gb181) (o := .cells #[.int .i64 a0_0, .int .u32 a0_1, .slice A0_2 l0_2.length c0_2] 45 (0, 0)) (by (with_reducible repeat (first | refine blk_drewN ?_ _ | refine blk_drew ?_ | refine blk_alloc ?_ _)); exact BK181.out)) : gb181 ≠ gb182)); have n6_ := Aside0.mk ((by rw [hg]; exact Nat.ne_of_gt (blk_lt (g := gb181) (o := .cells #[.int .i64 a0_0, .int .u32 a0_1, .slice A0_2 l0_2.length c0_2] 45 (0, 0)) (by (with_reducible repeat (first | refine blk_drewN ?_ _ | refine blk_drew ?_ | refine blk_alloc ?_ _)); exact BK181.out)) : gb182 ≠ gb181)); clear BK181; clear HB; have BK181 := n0_; have HB := n1_; have BK182 := n2_; have GW182 := n3_; have GE182 := n4_; have NB181_182 := n5_; have NB182_181 := n6_; clear n0_ n1_ n2_ n3_ n4_ n5_ n6_; clear hb hbox hg) | ((with_reducible refine gate_dst (N := 4) rfl ?_); (try (refine gate_guard (by rfl) ?_; dsimp only)); refine box_event ?hg (N := 4) ?hd (cs := #[.int .i64 0, .int .u32 0, .slice none 0 0]) (t := 45) ?hr ?_; (case hd => rfl); (case hg => rfl); (case hr => first | (go_simp; done) | (go_simp; rfl)); intro gb183 hg w6 hbox hb; have n0_ := Aside0.mk (blk_below (g := gb181) (o := .cells #[.int .i64 a0_0, .int .u32 a0_1, .slice A0_2 l0_2.length c0_2] 45 (0, 0)) (by (with_reducible repeat (first | refine blk_drewN ?_ _ | refine blk_drew ?_ | refine blk_alloc ?_ _)); exact BK181.out) hb); have n1_ := Aside0.mk (blk_below (g := gb182) (o := .cells #[.int .i64 a1_0, .int .u32 a1_1, .int .i64 a1_2, .slice A1_3 l1_3.length c1_3] 41 (0, 0)) (by (with_reducible repeat (first | refine blk_drewN ?_ _ | refine blk_drew ?_ | refine blk_alloc ?_ _)); exact BK182.out) hb); have n2_ := Aside0.mk (below_step (by repeat (first | (with_reducible first | exact HB.out | apply below_alloc | apply pw_below_drewN | apply below_drew1 | refine below_set ?_ GE181.out | refine below_set ?_ GE182.out) | exact HB.out)) hb); have n3_ := Aside0.mk (hbox); have n4_ := Aside0.mk ((by rw [hg]; exact (below_size (by repeat (first | (with_reducible first | exact HB.out | apply below_alloc | apply pw_below_drewN | apply below_drew1 | refine below_set ?_ GE181.out | refine below_set ?_ GE182.out) | exact HB.out))) : w.heap.size ≤ gb183)); have n5_ := Aside0.mk ((by rw [hg]; exact (below_size (by repeat (first | (with_reducible first | exact HB.out | apply below_alloc | apply pw_below_drewN | apply below_drew1 | refine below_set ?_ GE181.out | refine below_set ?_ GE182.out) | exact HB.out))) : w.heap.size ≤ gb183)); have n6_ := Aside0.mk ((by rw [hg]; exact Nat.ne_of_lt (blk_lt (g := gb181) (o := .cells #[.int .i64 a0_0, .int .u32 a0_1, .slice A0_2 l0_2.length c0_2] 45 (0, 0)) (by (with_reducible repeat (first | refine blk_drewN ?_ _ | refine blk_drew ?_ | refine blk_alloc ?_ _)); exact BK181.out)) : gb181 ≠ gb183)); have n7_ := Aside0.mk ((by rw [hg]; exact Nat.ne_of_gt (blk_lt (g := gb181) (o := .cells #[.int .i64 a0_0, .int .u32 a0_1, .slice A0_2 l0_2.length c0_2] 45 (0, 0)) (by (with_reducible repeat (first | refine blk_drewN ?_ _ | refine blk_drew ?_ | refine blk_alloc ?_ _)); exact BK181.out)) : gb183 ≠ gb181)); have n8_ := Aside0.mk ((by rw [hg]; exact Nat.ne_of_lt (blk_lt (g := gb182) (o := .cells #[.int .i64 a1_0, .int .u32 a1_1, .int .i64 a1_2, .slice A1_3 l1_3.length c1_3] 41 (0, 0)) (by (with_reducible repeat (first | refine blk_drewN ?_ _ | refine blk_drew ?_ | refine blk_alloc ?_ _)); exact BK182.out)) : gb182 ≠ gb183)); have n9_ := Aside0.mk ((by rw [hg]; exact Nat.ne_of_gt (blk_lt (g := gb182) (o := .cells #[.int .i64 a1_0, .int .u32 a1_1, .int .i64 a1_2, .slice A1_3 l1_3.length c1_3] 41 (0, 0)) (by (with_reducible repeat (first | refine blk_drewN ?_ _ | refine blk_drew ?_ | refine blk_alloc ?_ _)); exact BK182.out)) : gb183 ≠ gb182)); clear BK181; clear BK182; clear HB; have BK181 := n0_; have BK182 := n1_; have HB := n2_; have BK183 := n3_; have GW183 := n4_; have GE183 := n5_; have NB181_183 := n6_; have NB183_181 := n7_; have NB182_183 := n8_; have NB183_182 := n9_; clear n0_ n1_ n2_ n3_ n4_ n5_ n6_ n7_ n8_ n9_; clear hb hbox hg))
 (try simp only [Act.put, List.setIfInBounds_toArray, List.set_cons_zero, List.set_cons_succ])
 go_cut [23] (fun v23 wc => ∃ (kq : Nat) (x23_2 : Bool), v23 = .bool x23_2 ∧ Aside0 (chunks_Add.j0 kq x23_2 a0_0 a0_1 l0_2 a1_0 a1_1 a1_2 l1_3 = some (r1, r2, r3, r4, r5)) ∧ Aside0 (kq ≤ k) ∧ Aside0 (wc.heap[gb181]? = some (.cells #[.int .i64 a0_0, .int .u32 a0_1, (.slice A0_2 l0_2.length c0_2)] 45 (0, 0))) ∧ Aside0 (wc.heap[gb182]? = some (.cells #[.int .i64 a1_0, .int .u32 a1_1, .int .i64 a1_2, (.slice A1_3 l1_3.length c1_3)] 41 (0, 0))) ∧ Aside0 (wc.heap[gb183]? = some (.cells #[.int .i64 0, .int .u32 0, (.slice none 0 0)] 45 (0, 0))) ∧ Aside0 (Below w.heap.size w wc))
 case first =>
  have H := HC3.out
  clear HC3
  by_cases c7 : a0_0 < 0
  ·
   rw [if_pos c7] at H
   have c7b0 : decide (a0_0 < 0) = true := decide_eq_true c7
   clear c7
   (first | rw [c7b0] | (simp only [i64_w, i32_w]; rw [c7b0]) | skip)
   have H' := Aside0.mk H
   clear H
   have hnb8 := NB181_182.out
   have hnc8 := NB182_181.out
   have hnb9 := NB181_183.out
   have hnc9 := NB183_181.out
   have hcz10_0 : w6.cell? ⟨gb181, 0, none⟩ = some (.int .i64 a0_0) := (blk_cell BK181.out 0).trans rfl
   have hcz10_1 : w6.cell? ⟨gb181, 1, none⟩ = some (.int .u32 a0_1) := (blk_cell BK181.out 1).trans rfl
   have hcz10_2 : w6.cell? ⟨gb181, 2, none⟩ = some (.slice A0_2 l0_2.length c0_2) := (blk_cell BK181.out 2).trans rfl
   have hfz10_0 := blk_frozen BK181.out 0
   have hfz10_1 := blk_frozen BK181.out 1
   have hfz10_2 := blk_frozen BK181.out 2
   go_wp2
   go_meet
   case rel => exact ⟨_, (true), (by first | rfl | (simp; done) | (simp [*]; done)), H', ⟨by first | omega | exact Nat.le_refl _⟩, ⟨by (with_reducible repeat (first | refine blk_drewN ?_ _ | refine blk_drew ?_ | refine blk_alloc ?_ _)); exact BK181.out⟩, ⟨by (with_reducible repeat (first | refine blk_drewN ?_ _ | refine blk_drew ?_ | refine blk_alloc ?_ _)); exact BK182.out⟩, ⟨by (with_reducible repeat (first | refine blk_drewN ?_ _ | refine blk_drew ?_ | refine blk_alloc ?_ _)); exact BK183.out⟩, ⟨by repeat (first | (with_reducible first | exact HB.out | apply below_alloc | apply pw_below_drewN | apply below_drew1 | refine below_set ?_ GE181.out | refine below_set ?_ GE182.out | refine below_set ?_ GE183.out) | exact HB.out)⟩⟩
  ·
   rw [if_neg c7] at H
   have c7b0 : decide (a0_0 < 0) = false := decide_eq_false c7
   clear c7
   (first | rw [c7b0] | (simp only [i64_w, i32_w]; rw [c7b0]) | skip)
   by_cases c11 : a0_0 > 1048576
   ·
    rw [if_pos c11] at H
    have c11b0 : decide (1048576 < a0_0) = true := decide_eq_true c11
    clear c11
    have H' := Aside0.mk H
    clear H
    have hnb12 := NB181_182.out
    have hnc12 := NB182_181.out
    have hnb13 := NB181_183.out
    have hnc13 := NB183_181.out
    have hcz14_0 : w6.cell? ⟨gb181, 0, none⟩ = some (.int .i64 a0_0) := (blk_cell BK181.out 0).trans rfl
    have hcz14_1 : w6.cell? ⟨gb181, 1, none⟩ = some (.int .u32 a0_1) := (blk_cell BK181.out 1).trans rfl
    have hcz14_2 : w6.cell? ⟨gb181, 2, none⟩ = some (.slice A0_2 l0_2.length c0_2) := (blk_cell BK181.out 2).trans rfl
    have hfz14_0 := blk_frozen BK181.out 0
    have hfz14_1 := blk_frozen BK181.out 1
    have hfz14_2 := blk_frozen BK181.out 2
    go_wp2
    go_meet
    case rel => exact ⟨_, (true), (by first | rfl | (simp; done) | (simp [*]; done)), H', ⟨by first | omega | exact Nat.le_refl _⟩, ⟨by (with_reducible repeat (first | refine blk_drewN ?_ _ | refine blk_drew ?_ | refine blk_alloc ?_ _)); exact BK181.out⟩, ⟨by (with_reducible repeat (first | refine blk_drewN ?_ _ | refine blk_drew ?_ | refine blk_alloc ?_ _)); exact BK182.out⟩, ⟨by (with_reducible repeat (first | refine blk_drewN ?_ _ | refine blk_drew ?_ | refine blk_alloc ?_ _)); exact BK183.out⟩, ⟨by repeat (first | (with_reducible first | exact HB.out | apply below_alloc | apply pw_below_drewN | apply below_drew1 | refine below_set ?_ GE181.out | refine below_set ?_ GE182.out | refine below_set ?_ GE183.out) | exact HB.out)⟩⟩
   ·
    rw [if_neg c11] at H
    have c11b0 : decide (1048576 < a0_0) = false := decide_eq_false c11
    clear c11
    have H' := Aside0.mk H
    clear H
    have hnb15 := NB181_182.out
    have hnc15 := NB182_181.out
    have hnb16 := NB181_183.out
    have hnc16 := NB183_181.out
    have hcz17_0 : w6.cell? ⟨gb181, 0, none⟩ = some (.int .i64 a0_0) := (blk_cell BK181.out 0).trans rfl
    have hcz17_1 : w6.cell? ⟨gb181, 1, none⟩ = some (.int .u32 a0_1) := (blk_cell BK181.out 1).trans rfl
    have hcz17_2 : w6.cell? ⟨gb181, 2, none⟩ = some (.slice A0_2 l0_2.length c0_2) := (blk_cell BK181.out 2).trans rfl
    have hfz17_0 := blk_frozen BK181.out 0
    have hfz17_1 := blk_frozen BK181.out 1
    have hfz17_2 := blk_frozen BK181.out 2
    go_wp2
    go_meet
    case rel => exact ⟨_, (decide ((l0_2.length : Int) > a0_0)), (by first | rfl | (simp; done) | (simp [*]; done)), H', ⟨by first | omega | exact Nat.le_refl _⟩, ⟨by (with_reducible repeat (first | refine blk_drewN ?_ _ | refine blk_drew ?_ | refine blk_alloc ?_ _)); exact BK181.out⟩, ⟨by (with_reducible repeat (first | refine blk_drewN ?_ _ | refine blk_drew ?_ | refine blk_alloc ?_ _)); exact BK182.out⟩, ⟨by (with_reducible repeat (first | refine blk_drewN ?_ _ | refine blk_drew ?_ | refine blk_alloc ?_ _)); exact BK183.out⟩, ⟨by repeat (first | (with_reducible first | exact HB.out | apply below_alloc | apply pw_below_drewN | apply below_drew1 | refine below_set ?_ GE181.out | refine below_set ?_ GE182.out | refine below_set ?_ GE183.out) | exact HB.out)⟩⟩
 case rest =>
  clear HC3
  try clear c1
  try clear c2
  try clear p2
  try clear c7
  try clear c7b0
  try clear c8
  try clear c9
  try clear c11
  try clear c11b0
  try clear c12
  try clear c13
  try clear c15
  try clear c16
  try clear hcz10_0
  try clear hcz10_1
  try clear hcz10_2
  try clear hcz14_0
  try clear hcz14_1
  try clear hcz14_2
  try clear hcz17_0
  try clear hcz17_1
  try clear hcz17_2
  try clear hfz10_0
  try clear hfz10_1
  try clear hfz10_2
  try clear hfz14_0
  try clear hfz14_1
  try clear hfz14_2
  try clear hfz17_0
  try clear hfz17_1
  try clear hfz17_2
  obtain ⟨kq, x23_2, rfl, HA, HJ2, BK181, BK182, BK183, HB⟩ := hcut
  cases kq with
  | zero => exact absurd HA.out (by simp [chunks_Add.j0])
  | succ kj2 =>
   have H := HA.out
   clear HA
   simp only [chunks_Add.j0] at H
   by_cases c18 : x23_2 = true
   ·
    subst c18
    have H1 : (some (0, 0, ([] : List Int), false, 9)) = some (r1, r2, r3, r4, r5) := by rw [if_pos rfl] at H; exact H
    clear H
    have H := H1
    clear H1
    simp only [Option.some.injEq, Prod.mk.injEq] at H
    obtain ⟨rfl, rfl, rfl, rfl, rfl⟩ := H
    have hnb19 := NB183_181.out
    have hnc19 := NB181_183.out
    have hnb20 := NB183_182.out
    have hnc20 := NB182_183.out
    have hcz21_0 : wc.cell? ⟨gb183, 0, none⟩ = some (.int .i64 0) := (blk_cell BK183.out 0).trans rfl
    have hcz21_1 : wc.cell? ⟨gb183, 1, none⟩ = some (.int .u32 0) := (blk_cell BK183.out 1).trans rfl
    have hcz21_2 : wc.cell? ⟨gb183, 2, none⟩ = some (.slice none 0 0) := (blk_cell BK183.out 2).trans rfl
    have hfz21_0 := blk_frozen BK183.out 0
    have hfz21_1 := blk_frozen BK183.out 1
    have hfz21_2 := blk_frozen BK183.out 2
    go_wp2
    refine bodyPost_ret (results_ctt rfl _ _ gb183 45 #[.int .i64 0, .int .u32 0, .slice none 0 0] (0, 0) _ rfl (by (with_reducible repeat (first | refine blk_drewN ?_ _ | refine blk_drew ?_ | refine blk_alloc ?_ _)); refine blk_put (cs := #[.int .i64 0, .int .u32 0, .slice none 0 0]) ?_ 2 _ rfl; (with_reducible repeat (first | refine blk_drewN ?_ _ | refine blk_drew ?_ | refine blk_alloc ?_ _)); refine blk_put (cs := #[.int .i64 0, .int .u32 0, .slice none 0 0]) ?_ 1 _ rfl; (with_reducible repeat (first | refine blk_drewN ?_ _ | refine blk_drew ?_ | refine blk_alloc ?_ _)); refine blk_put (cs := #[.int .i64 0, .int .u32 0, .slice none 0 0]) ?_ 0 _ rfl; (with_reducible repeat (first | refine blk_drewN ?_ _ | refine blk_drew ?_ | refine blk_alloc ?_ _)); exact BK183.out) Try.underlying45 rfl (by kernel_rfl)) rfl ?_
    exact ⟨_, by first | rfl | (simp [errW_none, errW_some] <;> rfl) | (simp [*, errW_none, errW_some] <;> rfl), by first | exact Kd.R_nil _ _ _ _ _ | exact Kd.N_nil _ _ _ _ _ | exact Kd.V_nil _ _ _ _ _ | exact Kd.Q_nil _ _ _ _ _ | exact Kd.S_nil _ _ _ _ _, by repeat (first | (with_reducible first | exact HB.out | apply below_alloc | apply pw_below_drewN | apply below_drew1 | refine below_set ?_ GE181.out | refine below_set ?_ GE182.out | refine below_set ?_ GE183.out) | exact HB.out)⟩
   ·
    replace c18 := Bool.eq_false_iff.mpr c18
    subst c18
    have H1 : (if a1_0 < 0 then (chunks_Add.j1 kj2 true a0_0 a0_1 l0_2 a1_0 a1_1 a1_2 l1_3) else (if a1_0 > 1048576 then (chunks_Add.j1 kj2 true a0_0 a0_1 l0_2 a1_0 a1_1 a1_2 l1_3) else (if a1_2 < 0 then (chunks_Add.j1 kj2 true a0_0 a0_1 l0_2 a1_0 a1_1 a1_2 l1_3) else (if a1_2 > a1_0 then (chunks_Add.j1 kj2 true a0_0 a0_1 l0_2 a1_0 a1_1 a1_2 l1_3) else (chunks_Add.j1 kj2 (decide ((wrap64 (a1_2 + (l1_3.length : Int))) > a1_0)) a0_0 a0_1 l0_2 a1_0 a1_1 a1_2 l1_3))))) = some (r1, r2, r3, r4, r5) := by rw [if_neg (show ¬ (false = true) by decide)] at H; exact H
    clear H
    have H := H1
    clear H1
    have HC22 := Aside0.mk H
    clear H
    go_upto_region 3 with (fail)
    go_cut [55] (fun v55 wc => ∃ (kq : Nat) (x55_21 : Bool), v55 = .bool x55_21 ∧ Aside0 (chunks_Add.j1 kq x55_21 a0_0 a0_1 l0_2 a1_0 a1_1 a1_2 l1_3 = some (r1, r2, r3, r4, r5)) ∧ Aside0 (kq ≤ kj2) ∧ Aside0 (wc.heap[gb181]? = some (.cells #[.int .i64 a0_0, .int .u32 a0_1, (.slice A0_2 l0_2.length c0_2)] 45 (0, 0))) ∧ Aside0 (wc.heap[gb182]? = some (.cells #[.int .i64 a1_0, .int .u32 a1_1, .int .i64 a1_2, (.slice A1_3 l1_3.length c1_3)] 41 (0, 0))) ∧ Aside0 (wc.heap[gb183]? = some (.cells #[.int .i64 0, .int .u32 0, (.slice none 0 0)] 45 (0, 0))) ∧ Aside0 (Below w.heap.size w wc))
    case first =>
     have H := HC22.out
     clear HC22
     by_cases c23 : a1_0 < 0
     ·
      rw [if_pos c23] at H
      have c23b0 : decide (a1_0 < 0) = true := decide_eq_true c23
      clear c23
      (first | rw [c23b0] | (simp only [i64_w, i32_w]; rw [c23b0]) | skip)
      have H' := Aside0.mk H
      clear H
      have hnb24 := NB182_181.out
      have hnc24 := NB181_182.out
      have hnb25 := NB182_183.out
      have hnc25 := NB183_182.out
      have hcz26_0 : wc.cell? ⟨gb182, 0, none⟩ = some (.int .i64 a1_0) := (blk_cell BK182.out 0).trans rfl
      have hcz26_1 : wc.cell? ⟨gb182, 1, none⟩ = some (.int .u32 a1_1) := (blk_cell BK182.out 1).trans rfl
      have hcz26_2 : wc.cell? ⟨gb182, 2, none⟩ = some (.int .i64 a1_2) := (blk_cell BK182.out 2).trans rfl
      have hcz26_3 : wc.cell? ⟨gb182, 3, none⟩ = some (.slice A1_3 l1_3.length c1_3) := (blk_cell BK182.out 3).trans rfl
      have hfz26_0 := blk_frozen BK182.out 0
      have hfz26_1 := blk_frozen BK182.out 1
      have hfz26_2 := blk_frozen BK182.out 2
      have hfz26_3 := blk_frozen BK182.out 3
      go_wp2
      go_meet
      case rel => exact ⟨_, (true), (by first | rfl | (simp; done) | (simp [*]; done)), H', ⟨by have := HJ2.out; first | omega | exact Nat.le_refl _⟩, ⟨by (with_reducible repeat (first | refine blk_drewN ?_ _ | refine blk_drew ?_ | refine blk_alloc ?_ _)); exact BK181.out⟩, ⟨by (with_reducible repeat (first | refine blk_drewN ?_ _ | refine blk_drew ?_ | refine blk_alloc ?_ _)); exact BK182.out⟩, ⟨by (with_reducible repeat (first | refine blk_drewN ?_ _ | refine blk_drew ?_ | refine blk_alloc ?_ _)); exact BK183.out⟩, ⟨by repeat (first | (with_reducible first | exact HB.out | apply below_alloc | apply pw_below_drewN | apply below_drew1 | refine below_set ?_ GE181.out | refine below_set ?_ GE182.out | refine below_set ?_ GE183.out) | exact HB.out)⟩⟩
     ·
      rw [if_neg c23] at H
      have c23b0 : decide (a1_0 < 0) = false := decide_eq_false c23
      clear c23
      (first | rw [c23b0] | (simp only [i64_w, i32_w]; rw [c23b0]) | skip)
      by_cases c27 : a1_0 > 1048576
      ·
       rw [if_pos c27] at H
       have c27b0 : decide (1048576 < a1_0) = true := decide_eq_true c27
       clear c27
       have H' := Aside0.mk H
       clear H
       have hnb28 := NB182_181.out
       have hnc28 := NB181_182.out
       have hnb29 := NB182_183.out
       have hnc29 := NB183_182.out
       have hcz30_0 : wc.cell? ⟨gb182, 0, none⟩ = some (.int .i64 a1_0) := (blk_cell BK182.out 0).trans rfl
       have hcz30_1 : wc.cell? ⟨gb182, 1, none⟩ = some (.int .u32 a1_1) := (blk_cell BK182.out 1).trans rfl
       have hcz30_2 : wc.cell? ⟨gb182, 2, none⟩ = some (.int .i64 a1_2) := (blk_cell BK182.out 2).trans rfl
       have hcz30_3 : wc.cell? ⟨gb182, 3, none⟩ = some (.slice A1_3 l1_3.length c1_3) := (blk_cell BK182.out 3).trans rfl
       have hfz30_0 := blk_frozen BK182.out 0
       have hfz30_1 := blk_frozen BK182.out 1
       have hfz30_2 := blk_frozen BK182.out 2
       have hfz30_3 := blk_frozen BK182.out 3
       go_wp2
       go_meet
       case rel => exact ⟨_, (true), (by first | rfl | (simp; done) | (simp [*]; done)), H', ⟨by have := HJ2.out; first | omega | exact Nat.le_refl _⟩, ⟨by (with_reducible repeat (first | refine blk_drewN ?_ _ | refine blk_drew ?_ | refine blk_alloc ?_ _)); exact BK181.out⟩, ⟨by (with_reducible repeat (first | refine blk_drewN ?_ _ | refine blk_drew ?_ | refine blk_alloc ?_ _)); exact BK182.out⟩, ⟨by (with_reducible repeat (first | refine blk_drewN ?_ _ | refine blk_drew ?_ | refine blk_alloc ?_ _)); exact BK183.out⟩, ⟨by repeat (first | (with_reducible first | exact HB.out | apply below_alloc | apply pw_below_drewN | apply below_drew1 | refine below_set ?_ GE181.out | refine below_set ?_ GE182.out | refine below_set ?_ GE183.out) | exact HB.out)⟩⟩
      ·
       rw [if_neg c27] at H
       have c27b0 : decide (1048576 < a1_0) = false := decide_eq_false c27
       clear c27
       by_cases c31 : a1_2 < 0
       ·
        rw [if_pos c31] at H
        have c31b0 : decide (a1_2 < 0) = true := decide_eq_true c31
        clear c31
        have H' := Aside0.mk H
        clear H
        have hnb32 := NB182_181.out
        have hnc32 := NB181_182.out
        have hnb33 := NB182_183.out
        have hnc33 := NB183_182.out
        have hcz34_0 : wc.cell? ⟨gb182, 0, none⟩ = some (.int .i64 a1_0) := (blk_cell BK182.out 0).trans rfl
        have hcz34_1 : wc.cell? ⟨gb182, 1, none⟩ = some (.int .u32 a1_1) := (blk_cell BK182.out 1).trans rfl
        have hcz34_2 : wc.cell? ⟨gb182, 2, none⟩ = some (.int .i64 a1_2) := (blk_cell BK182.out 2).trans rfl
        have hcz34_3 : wc.cell? ⟨gb182, 3, none⟩ = some (.slice A1_3 l1_3.length c1_3) := (blk_cell BK182.out 3).trans rfl
        have hfz34_0 := blk_frozen BK182.out 0
        have hfz34_1 := blk_frozen BK182.out 1
        have hfz34_2 := blk_frozen BK182.out 2
        have hfz34_3 := blk_frozen BK182.out 3
        go_wp2
        go_meet
        case rel => exact ⟨_, (true), (by first | rfl | (simp; done) | (simp [*]; done)), H', ⟨by have := HJ2.out; first | omega | exact Nat.le_refl _⟩, ⟨by (with_reducible repeat (first | refine blk_drewN ?_ _ | refine blk_drew ?_ | refine blk_alloc ?_ _)); exact BK181.out⟩, ⟨by (with_reducible repeat (first | refine blk_drewN ?_ _ | refine blk_drew ?_ | refine blk_alloc ?_ _)); exact BK182.out⟩, ⟨by (with_reducible repeat (first | refine blk_drewN ?_ _ | refine blk_drew ?_ | refine blk_alloc ?_ _)); exact BK183.out⟩, ⟨by repeat (first | (with_reducible first | exact HB.out | apply below_alloc | apply pw_below_drewN | apply below_drew1 | refine below_set ?_ GE181.out | refine below_set ?_ GE182.out | refine below_set ?_ GE183.out) | exact HB.out)⟩⟩
       ·
        rw [if_neg c31] at H
        have c31b0 : decide (a1_2 < 0) = false := decide_eq_false c31
        clear c31
        by_cases c35 : a1_2 > a1_0
        ·
         rw [if_pos c35] at H
         have c35b0 : decide (a1_0 < a1_2) = true := decide_eq_true c35
         clear c35
         have H' := Aside0.mk H
         clear H
         have hnb36 := NB182_181.out
         have hnc36 := NB181_182.out
         have hnb37 := NB182_183.out
         have hnc37 := NB183_182.out
         have hcz38_0 : wc.cell? ⟨gb182, 0, none⟩ = some (.int .i64 a1_0) := (blk_cell BK182.out 0).trans rfl
         have hcz38_1 : wc.cell? ⟨gb182, 1, none⟩ = some (.int .u32 a1_1) := (blk_cell BK182.out 1).trans rfl
         have hcz38_2 : wc.cell? ⟨gb182, 2, none⟩ = some (.int .i64 a1_2) := (blk_cell BK182.out 2).trans rfl
         have hcz38_3 : wc.cell? ⟨gb182, 3, none⟩ = some (.slice A1_3 l1_3.length c1_3) := (blk_cell BK182.out 3).trans rfl
         have hfz38_0 := blk_frozen BK182.out 0
         have hfz38_1 := blk_frozen BK182.out 1
         have hfz38_2 := blk_frozen BK182.out 2
         have hfz38_3 := blk_frozen BK182.out 3
         go_wp2
         go_meet
         case rel => exact ⟨_, (true), (by first | rfl | (simp; done) | (simp [*]; done)), H', ⟨by have := HJ2.out; first | omega | exact Nat.le_refl _⟩, ⟨by (with_reducible repeat (first | refine blk_drewN ?_ _ | refine blk_drew ?_ | refine blk_alloc ?_ _)); exact BK181.out⟩, ⟨by (with_reducible repeat (first | refine blk_drewN ?_ _ | refine blk_drew ?_ | refine blk_alloc ?_ _)); exact BK182.out⟩, ⟨by (with_reducible repeat (first | refine blk_drewN ?_ _ | refine blk_drew ?_ | refine blk_alloc ?_ _)); exact BK183.out⟩, ⟨by repeat (first | (with_reducible first | exact HB.out | apply below_alloc | apply pw_below_drewN | apply below_drew1 | refine below_set ?_ GE181.out | refine below_set ?_ GE182.out | refine below_set ?_ GE183.out) | exact HB.out)⟩⟩
        ·
         rw [if_neg c35] at H
         have c35b0 : decide (a1_0 < a1_2) = false := decide_eq_false c35
         clear c35
         have H' := Aside0.mk H
         clear H
         have hnb39 := NB182_181.out
         have hnc39 := NB181_182.out
         have hnb40 := NB182_183.out
         have hnc40 := NB183_182.out
         have hcz41_0 : wc.cell? ⟨gb182, 0, none⟩ = some (.int .i64 a1_0) := (blk_cell BK182.out 0).trans rfl
         have hcz41_1 : wc.cell? ⟨gb182, 1, none⟩ = some (.int .u32 a1_1) := (blk_cell BK182.out 1).trans rfl
         have hcz41_2 : wc.cell? ⟨gb182, 2, none⟩ = some (.int .i64 a1_2) := (blk_cell BK182.out 2).trans rfl
         have hcz41_3 : wc.cell? ⟨gb182, 3, none⟩ = some (.slice A1_3 l1_3.length c1_3) := (blk_cell BK182.out 3).trans rfl
         have hfz41_0 := blk_frozen BK182.out 0
         have hfz41_1 := blk_frozen BK182.out 1
         have hfz41_2 := blk_frozen BK182.out 2
         have hfz41_3 := blk_frozen BK182.out 3
         go_wp2
         go_meet
         case rel => exact ⟨_, (decide ((wrap64 (a1_2 + (l1_3.length : Int))) > a1_0)), (by first | rfl | (simp; done) | (simp [*]; done)), H', ⟨by have := HJ2.out; first | omega | exact Nat.le_refl _⟩, ⟨by (with_reducible repeat (first | refine blk_drewN ?_ _ | refine blk_drew ?_ | refine blk_alloc ?_ _)); exact BK181.out⟩, ⟨by (with_reducible repeat (first | refine blk_drewN ?_ _ | refine blk_drew ?_ | refine blk_alloc ?_ _)); exact BK182.out⟩, ⟨by (with_reducible repeat (first | refine blk_drewN ?_ _ | refine blk_drew ?_ | refine blk_alloc ?_ _)); exact BK183.out⟩, ⟨by repeat (first | (with_reducible first | exact HB.out | apply below_alloc | apply pw_below_drewN | apply below_drew1 | refine below_set ?_ GE181.out | refine below_set ?_ GE182.out | refine below_set ?_ GE183.out) | exact HB.out)⟩⟩
    case rest =>
     clear HC22
     try clear c1
     try clear c2
     try clear p2
     try clear c3
     try clear c4
     try clear p6
     try clear c7
     try clear c7b0
     try clear c8
     try clear c9
     try clear c11
     try clear c11b0
     try clear c12
     try clear c13
     try clear c15
     try clear c16
     try clear c18
     try clear c19
     try clear c20
     try clear c23
     try clear c23b0
     try clear c24
     try clear c25
     try clear c27
     try clear c27b0
     try clear c28
     try clear c29
     try clear c31
     try clear c31b0
     try clear c32
     try clear c33
     try clear c35
     try clear c35b0
     try clear c36
     try clear c37
     try clear c39
     try clear c40
     try clear hcz10_0
     try clear hcz10_1
     try clear hcz10_2
     try clear hcz14_0
     try clear hcz14_1
     try clear hcz14_2
     try clear hcz17_0
     try clear hcz17_1
     try clear hcz17_2
     try clear hcz21_0
     try clear hcz21_1
     try clear hcz21_2
     try clear hcz26_0
     try clear hcz26_1
     try clear hcz26_2
     try clear hcz26_3
     try clear hcz30_0
     try clear hcz30_1
     try clear hcz30_2
     try clear hcz30_3
     try clear hcz34_0
     try clear hcz34_1
     try clear hcz34_2
     try clear hcz34_3
     try clear hcz38_0
     try clear hcz38_1
     try clear hcz38_2
     try clear hcz38_3
     try clear hcz41_0
     try clear hcz41_1
     try clear hcz41_2
     try clear hcz41_3
     try clear hfz10_0
     try clear hfz10_1
     try clear hfz10_2
     try clear hfz14_0
     try clear hfz14_1
     try clear hfz14_2
     try clear hfz17_0
     try clear hfz17_1
     try clear hfz17_2
     try clear hfz21_0
     try clear hfz21_1
     try clear hfz21_2
     try clear hfz26_0
     try clear hfz26_1
     try clear hfz26_2
     try clear hfz26_3
     try clear hfz30_0
     try clear hfz30_1
     try clear hfz30_2
     try clear hfz30_3
     try clear hfz34_0
     try clear hfz34_1
     try clear hfz34_2
     try clear hfz34_3
     try clear hfz38_0
     try clear hfz38_1
     try clear hfz38_2
     try clear hfz38_3
     try clear hfz41_0
     try clear hfz41_1
     try clear hfz41_2
     try clear hfz41_3
     try clear p2
     obtain ⟨kq, x55_21, rfl, HA, HJ21, BK181, BK182, BK183, HB⟩ := hcut
     cases kq with
     | zero => exact absurd HA.out (by simp [chunks_Add.j1])
     | succ kj21 =>
      have H := HA.out
      clear HA
      simp only [chunks_Add.j1] at H
      by_cases c42 : x55_21 = true
      ·
       subst c42
       have H1 : (some (0, 0, ([] : List Int), false, 4)) = some (r1, r2, r3, r4, r5) := by rw [if_pos rfl] at H; exact H
       clear H
       have H := H1
       clear H1
       simp only [Option.some.injEq, Prod.mk.injEq] at H
       obtain ⟨rfl, rfl, rfl, rfl, rfl⟩ := H
       have hnb43 := NB183_181.out
       have hnc43 := NB181_183.out
       have hnb44 := NB183_182.out
       have hnc44 := NB182_183.out
       have hcz45_0 : wc.cell? ⟨gb183, 0, none⟩ = some (.int .i64 0) := (blk_cell BK183.out 0).trans rfl
       have hcz45_1 : wc.cell? ⟨gb183, 1, none⟩ = some (.int .u32 0) := (blk_cell BK183.out 1).trans rfl
       have hcz45_2 : wc.cell? ⟨gb183, 2, none⟩ = some (.slice none 0 0) := (blk_cell BK183.out 2).trans rfl
       have hfz45_0 := blk_frozen BK183.out 0
       have hfz45_1 := blk_frozen BK183.out 1
       have hfz45_2 := blk_frozen BK183.out 2
       go_wp2
       refine bodyPost_ret (results_ctt rfl _ _ gb183 45 #[.int .i64 0, .int .u32 0, .slice none 0 0] (0, 0) _ rfl (by (with_reducible repeat (first | refine blk_drewN ?_ _ | refine blk_drew ?_ | refine blk_alloc ?_ _)); refine blk_put (cs := #[.int .i64 0, .int .u32 0, .slice none 0 0]) ?_ 2 _ rfl; (with_reducible repeat (first | refine blk_drewN ?_ _ | refine blk_drew ?_ | refine blk_alloc ?_ _)); refine blk_put (cs := #[.int .i64 0, .int .u32 0, .slice none 0 0]) ?_ 1 _ rfl; (with_reducible repeat (first | refine blk_drewN ?_ _ | refine blk_drew ?_ | refine blk_alloc ?_ _)); refine blk_put (cs := #[.int .i64 0, .int .u32 0, .slice none 0 0]) ?_ 0 _ rfl; (with_reducible repeat (first | refine blk_drewN ?_ _ | refine blk_drew ?_ | refine blk_alloc ?_ _)); exact BK183.out) Try.underlying45 rfl (by kernel_rfl)) rfl ?_
       exact ⟨_, by first | rfl | (simp [errW_none, errW_some] <;> rfl) | (simp [*, errW_none, errW_some] <;> rfl), by first | exact Kd.R_nil _ _ _ _ _ | exact Kd.N_nil _ _ _ _ _ | exact Kd.V_nil _ _ _ _ _ | exact Kd.Q_nil _ _ _ _ _ | exact Kd.S_nil _ _ _ _ _, by repeat (first | (with_reducible first | exact HB.out | apply below_alloc | apply pw_below_drewN | apply below_drew1 | refine below_set ?_ GE181.out | refine below_set ?_ GE182.out | refine below_set ?_ GE183.out) | exact HB.out)⟩
      ·
       replace c42 := Bool.eq_false_iff.mpr c42
       subst c42
       have H1 : ((bytes_Clone.f l0_2).bind fun t184 => (if a1_2 = 0 then (chunks_Add.j2 kj21 a1_0 a1_1 ([] : List Int) a1_0 a1_1 a1_2 l1_3) else (chunks_Add.j2 kj21 a0_0 a0_1 t184 a1_0 a1_1 a1_2 l1_3))) = some (r1, r2, r3, r4, r5) := by rw [if_neg (show ¬ (false = true) by decide)] at H; exact H
       clear H
       have H := H1
       clear H1
       replace H := Option.bind_eq_some_iff.mp H
       obtain ⟨t184, A460, H⟩ := H
       replace H : (if a1_2 = 0 then (chunks_Add.j2 kj21 a1_0 a1_1 ([] : List Int) a1_0 a1_1 a1_2 l1_3) else (chunks_Add.j2 kj21 a0_0 a0_1 t184 a1_0 a1_1 a1_2 l1_3)) = some (r1, r2, r3, r4, r5) := H
       have A46 := Aside0.mk A460
       clear A460
       have HC47 := Aside0.mk H
       clear H
       have hnb48 := NB181_182.out
       have hnc48 := NB182_181.out
       have hnb49 := NB181_183.out
       have hnc49 := NB183_181.out
       have hcz50_0 : wc.cell? ⟨gb181, 0, none⟩ = some (.int .i64 a0_0) := (blk_cell BK181.out 0).trans rfl
       have hcz50_1 : wc.cell? ⟨gb181, 1, none⟩ = some (.int .u32 a0_1) := (blk_cell BK181.out 1).trans rfl
       have hcz50_2 : wc.cell? ⟨gb181, 2, none⟩ = some (.slice A0_2 l0_2.length c0_2) := (blk_cell BK181.out 2).trans rfl
       have hfz50_0 := blk_frozen BK181.out 0
       have hfz50_1 := blk_frozen BK181.out 1
       have hfz50_2 := blk_frozen BK181.out 2
       go_upto_if 63 with (first | ((with_reducible refine gate_callee (f := 27) rfl ?_); refine goesL_ (some 59) rfl rfl Try.func27 (by kernel_rfl) rfl #[.slice A0_2 l0_2.length c0_2] rfl (by (try simp only [List.map_toArray, List.map_cons, List.map_nil]); first | done | rfl | (simp only [List.length_drop, List.length_take]; rfl)) ?_; (with_reducible refine (bytes_Clone.calls _ _ l0_2 t184 _ ?side1 ?side2 A46.out).mono ?_); (case side1 => repeat (first | exact (Kd.C_below HR0_2.out HB.out) | (with_reducible refine Kd.C_alloc ?_ _) | (with_reducible refine Kd.C_drewN ?_ _) | (with_reducible refine Kd.C_drew ?_))); (case side2 => exact HC0_2.out); rintro e w51 ⟨v185, rfl, ho0, hb⟩; refine ⟨_, rfl, ?_⟩; have n0_ := Aside0.mk (Kd.R_lower ho0 (below_size (by repeat (first | (with_reducible first | exact HB.out | apply below_alloc | apply pw_below_drewN | apply below_drew1 | refine below_set ?_ GE181.out | refine below_set ?_ GE182.out | refine below_set ?_ GE183.out) | exact HB.out)))); have n1_ := Aside0.mk (blk_below (g := gb181) (o := .cells #[.int .i64 a0_0, .int .u32 a0_1, .slice A0_2 l0_2.length c0_2] 45 (0, 0)) (by (with_reducible repeat (first | refine blk_drewN ?_ _ | refine blk_drew ?_ | refine blk_alloc ?_ _)); exact BK181.out) hb); have n2_ := Aside0.mk (blk_below (g := gb182) (o := .cells #[.int .i64 a1_0, .int .u32 a1_1, .int .i64 a1_2, .slice A1_3 l1_3.length c1_3] 41 (0, 0)) (by (with_reducible repeat (first | refine blk_drewN ?_ _ | refine blk_drew ?_ | refine blk_alloc ?_ _)); exact BK182.out) hb); have n3_ := Aside0.mk (blk_below (g := gb183) (o := .cells #[.int .i64 0, .int .u32 0, .slice none 0 0] 45 (0, 0)) (by (with_reducible repeat (first | refine blk_drewN ?_ _ | refine blk_drew ?_ | refine blk_alloc ?_ _)); exact BK183.out) hb); have n4_ := Aside0.mk (below_step (by repeat (first | (with_reducible first | exact HB.out | apply below_alloc | apply pw_below_drewN | apply below_drew1 | refine below_set ?_ GE181.out | refine below_set ?_ GE182.out | refine below_set ?_ GE183.out) | exact HB.out)) hb); clear BK181; clear BK182; clear BK183; clear HB; have HO186 := n0_; have BK181 := n1_; have BK182 := n2_; have BK183 := n3_; have HB := n4_; clear n0_ n1_ n2_ n3_ n4_; (try clear hb); (try clear hb2); (try clear hk); (try clear hi); (try clear ho0); obtain ⟨Ao52, co52, eo52⟩ := Kd.R_slice HO186.out; subst eo52; have hcz53_0 : w51.cell? ⟨gb181, 0, none⟩ = some (.int .i64 a0_0) := (blk_cell BK181.out 0).trans rfl; have hcz53_1 : w51.cell? ⟨gb181, 1, none⟩ = some (.int .u32 a0_1) := (blk_cell BK181.out 1).trans rfl; have hcz53_2 : w51.cell? ⟨gb181, 2, none⟩ = some (.slice A0_2 l0_2.length c0_2) := (blk_cell BK181.out 2).trans rfl; have hfz53_0 := blk_frozen BK181.out 0; have hfz53_1 := blk_frozen BK181.out 1; have hfz53_2 := blk_frozen BK181.out 2; have hnb54 := NB182_183.out; have hnc54 := NB183_182.out; have hcz55_0 : w51.cell? ⟨gb182, 0, none⟩ = some (.int .i64 a1_0) := (blk_cell BK182.out 0).trans rfl; have hcz55_1 : w51.cell? ⟨gb182, 1, none⟩ = some (.int .u32 a1_1) := (blk_cell BK182.out 1).trans rfl; have hcz55_2 : w51.cell? ⟨gb182, 2, none⟩ = some (.int .i64 a1_2) := (blk_cell BK182.out 2).trans rfl; have hcz55_3 : w51.cell? ⟨gb182, 3, none⟩ = some (.slice A1_3 l1_3.length c1_3) := (blk_cell BK182.out 3).trans rfl; have hfz55_0 := blk_frozen BK182.out 0; have hfz55_1 := blk_frozen BK182.out 1; have hfz55_2 := blk_frozen BK182.out 2; have hfz55_3 := blk_frozen BK182.out 3))
       (try simp only [Act.put, List.setIfInBounds_toArray, List.set_cons_zero, List.set_cons_succ])
       go_cut [] (fun wc => ∃ (kq : Nat) (x182000_46 : Int) (x182001_46 : Int) (x182002_46 : List Int) (u182002 : Value), Aside0 (chunks_Add.j2 kq x182000_46 x182001_46 x182002_46 a1_0 a1_1 a1_2 l1_3 = some (r1, r2, r3, r4, r5)) ∧ Aside0 (kq ≤ kj21) ∧ Aside0 (Kd.R (Kd.int .u8) 5 wc w.heap.size (fun _ => True) u182002 x182002_46) ∧ Aside0 (wc.heap[gb181]? = some (.cells #[.int .i64 x182000_46, .int .u32 x182001_46, u182002] 45 (0, 0))) ∧ Aside0 (wc.heap[gb182]? = some (.cells #[.int .i64 a1_0, .int .u32 a1_1, .int .i64 a1_2, (.slice A1_3 l1_3.length c1_3)] 41 (0, 0))) ∧ Aside0 (wc.heap[gb183]? = some (.cells #[.int .i64 0, .int .u32 0, (.slice none 0 0)] 45 (0, 0))) ∧ Aside0 (Below w.heap.size w wc))
       case first =>
        have H := HC47.out
        clear HC47
        by_cases c56 : a1_2 = 0
        ·
         rw [if_pos c56] at H
         have c56b0 : (a1_2 == 0) = true := beq_iff_eq.mpr c56
         have c56b1 : (a1_2 != 0) = false := bne_eq_false_iff_eq.mpr c56
         clear c56
         (first | rw [c56b0] | (simp only [i64_w, i32_w]; rw [c56b0]) | skip)
         have H' := Aside0.mk H
         clear H
         have hnb57 := NB182_181.out
         have hnc57 := NB181_182.out
         have hnb58 := NB182_183.out
         have hnc58 := NB183_182.out
         have hcz59_0 : w51.cell? ⟨gb182, 0, none⟩ = some (.int .i64 a1_0) := (blk_cell BK182.out 0).trans rfl
         have hcz59_1 : w51.cell? ⟨gb182, 1, none⟩ = some (.int .u32 a1_1) := (blk_cell BK182.out 1).trans rfl
         have hcz59_2 : w51.cell? ⟨gb182, 2, none⟩ = some (.int .i64 a1_2) := (blk_cell BK182.out 2).trans rfl
         have hcz59_3 : w51.cell? ⟨gb182, 3, none⟩ = some (.slice A1_3 l1_3.length c1_3) := (blk_cell BK182.out 3).trans rfl
         have hfz59_0 := blk_frozen BK182.out 0
         have hfz59_1 := blk_frozen BK182.out 1
         have hfz59_2 := blk_frozen BK182.out 2
         have hfz59_3 := blk_frozen BK182.out 3
         have hnb60 := NB181_183.out
         have hnc60 := NB183_181.out
         have hcz61_0 : w51.cell? ⟨gb181, 0, none⟩ = some (.int .i64 a0_0) := (blk_cell BK181.out 0).trans rfl
         have hcz61_1 : w51.cell? ⟨gb181, 1, none⟩ = some (.int .u32 a0_1) := (blk_cell BK181.out 1).trans rfl
         have hcz61_2 : w51.cell? ⟨gb181, 2, none⟩ = some (.slice A0_2 l0_2.length c0_2) := (blk_cell BK181.out 2).trans rfl
         have hfz61_0 := blk_frozen BK181.out 0
         have hfz61_1 := blk_frozen BK181.out 1
         have hfz61_2 := blk_frozen BK181.out 2
         go_wp2
         go_meet
         case rel => exact ⟨_, (a1_0), (a1_1), (([] : List Int)), (.slice none 0 0), H', ⟨by have := HJ2.out; have := HJ21.out; first | omega | exact Nat.le_refl _⟩, ⟨by first | exact Kd.R_nil _ _ _ _ _ | exact Kd.N_nil _ _ _ _ _ | exact Kd.V_nil _ _ _ _ _ | exact Kd.Q_nil _ _ _ _ _ | exact Kd.S_nil _ _ _ _ _⟩, ⟨by (with_reducible repeat (first | refine blk_drewN ?_ _ | refine blk_drew ?_ | refine blk_alloc ?_ _)); refine blk_put (cs := #[.int .i64 a1_0, .int .u32 a1_1, .slice Ao52 t184.length co52]) ?_ 2 _ rfl; (with_reducible repeat (first | refine blk_drewN ?_ _ | refine blk_drew ?_ | refine blk_alloc ?_ _)); refine blk_put (cs := #[.int .i64 a1_0, .int .u32 a0_1, .slice Ao52 t184.length co52]) ?_ 1 _ rfl; (with_reducible repeat (first | refine blk_drewN ?_ _ | refine blk_drew ?_ | refine blk_alloc ?_ _)); refine blk_put (cs := #[.int .i64 a0_0, .int .u32 a0_1, .slice Ao52 t184.length co52]) ?_ 0 _ rfl; (with_reducible repeat (first | refine blk_drewN ?_ _ | refine blk_drew ?_ | refine blk_alloc ?_ _)); refine blk_put (cs := #[.int .i64 a0_0, .int .u32 a0_1, .slice A0_2 l0_2.length c0_2]) ?_ 2 _ rfl; (with_reducible repeat (first | refine blk_drewN ?_ _ | refine blk_drew ?_ | refine blk_alloc ?_ _)); exact BK181.out⟩, ⟨by (with_reducible repeat (first | refine blk_drewN ?_ _ | refine blk_drew ?_ | refine blk_alloc ?_ _)); refine blk_far ?_ NB182_181.out _; (with_reducible repeat (first | refine blk_drewN ?_ _ | refine blk_drew ?_ | refine blk_alloc ?_ _)); refine blk_far ?_ NB182_181.out _; (with_reducible repeat (first | refine blk_drewN ?_ _ | refine blk_drew ?_ | refine blk_alloc ?_ _)); refine blk_far ?_ NB182_181.out _; (with_reducible repeat (first | refine blk_drewN ?_ _ | refine blk_drew ?_ | refine blk_alloc ?_ _)); refine blk_far ?_ NB182_181.out _; (with_reducible repeat (first | refine blk_drewN ?_ _ | refine blk_drew ?_ | refine blk_alloc ?_ _)); exact BK182.out⟩, ⟨by (with_reducible repeat (first | refine blk_drewN ?_ _ | refine blk_drew ?_ | refine blk_alloc ?_ _)); refine blk_far ?_ NB183_181.out _; (with_reducible repeat (first | refine blk_drewN ?_ _ | refine blk_drew ?_ | refine blk_alloc ?_ _)); refine blk_far ?_ NB183_181.out _; (with_reducible repeat (first | refine blk_drewN ?_ _ | refine blk_drew ?_ | refine blk_alloc ?_ _)); refine blk_far ?_ NB183_181.out _; (with_reducible repeat (first | refine blk_drewN ?_ _ | refine blk_drew ?_ | refine blk_alloc ?_ _)); refine blk_far ?_ NB183_181.out _; (with_reducible repeat (first | refine blk_drewN ?_ _ | refine blk_drew ?_ | refine blk_alloc ?_ _)); exact BK183.out⟩, ⟨by repeat (first | (with_reducible first | exact HB.out | apply below_alloc | apply pw_below_drewN | apply below_drew1 | refine below_set ?_ GE181.out | refine below_set ?_ GE182.out | refine below_set ?_ GE183.out) | exact HB.out)⟩⟩
        ·
         rw [if_neg c56] at H
         have c56b0 : (a1_2 == 0) = false := beq_eq_false_iff_ne.mpr c56
         have c56b1 : (a1_2 != 0) = true := bne_iff_ne.mpr c56
         (first | rw [c56b0] | (simp only [i64_w, i32_w]; rw [c56b0]) | skip)
         have H' := Aside0.mk H
         clear H
         go_wp2
         go_meet
         case rel => exact ⟨_, (a0_0), (a0_1), (t184), (.slice Ao52 t184.length co52), H', ⟨by have := HJ2.out; have := HJ21.out; first | omega | exact Nat.le_refl _⟩, ⟨by (with_reducible repeat (first | apply Kd.R_alloc | apply Kd.R_drewN | apply Kd.R_drew)); exact Kd.R_mono (Kd.R_far (p := ⟨gb181, 2, none⟩) (Kd.R_types HO186.out BK181.out (by decide)) (fun _ hk => hk.2) (.slice Ao52 t184.length co52)) (fun _ hk => trivial)⟩, ⟨by (with_reducible repeat (first | refine blk_drewN ?_ _ | refine blk_drew ?_ | refine blk_alloc ?_ _)); refine blk_put (cs := #[.int .i64 a0_0, .int .u32 a0_1, .slice A0_2 l0_2.length c0_2]) ?_ 2 _ rfl; (with_reducible repeat (first | refine blk_drewN ?_ _ | refine blk_drew ?_ | refine blk_alloc ?_ _)); exact BK181.out⟩, ⟨by (with_reducible repeat (first | refine blk_drewN ?_ _ | refine blk_drew ?_ | refine blk_alloc ?_ _)); refine blk_far ?_ NB182_181.out _; (with_reducible repeat (first | refine blk_drewN ?_ _ | refine blk_drew ?_ | refine blk_alloc ?_ _)); exact BK182.out⟩, ⟨by (with_reducible repeat (first | refine blk_drewN ?_ _ | refine blk_drew ?_ | refine blk_alloc ?_ _)); refine blk_far ?_ NB183_181.out _; (with_reducible repeat (first | refine blk_drewN ?_ _ | refine blk_drew ?_ | refine blk_alloc ?_ _)); exact BK183.out⟩, ⟨by repeat (first | (with_reducible first | exact HB.out | apply below_alloc | apply pw_below_drewN | apply below_drew1 | refine below_set ?_ GE181.out | refine below_set ?_ GE182.out | refine below_set ?_ GE183.out) | exact HB.out)⟩⟩
       case rest =>
        clear HC47
        try clear c1
        try clear c2
        try clear p2
        try clear c3
        try clear c4
        try clear c5
        try clear c6
        try clear p6
        try clear c7
        try clear c7b0
        try clear c8
        try clear c9
        try clear c11
        try clear c11b0
        try clear c12
        try clear c13
        try clear c15
        try clear c16
        try clear c18
        try clear c19
        try clear c20
        try clear c23
        try clear c23b0
        try clear c24
        try clear c25
        try clear c27
        try clear c27b0
        try clear c28
        try clear c29
        try clear c31
        try clear c31b0
        try clear c32
        try clear c33
        try clear c35
        try clear c35b0
        try clear c36
        try clear c37
        try clear c39
        try clear c40
        try clear c42
        try clear c43
        try clear c44
        try clear c48
        try clear c49
        try clear c54
        try clear c56
        try clear c56b0
        try clear c56b1
        try clear c57
        try clear c58
        try clear c60
        try clear hcz10_0
        try clear hcz10_1
        try clear hcz10_2
        try clear hcz14_0
        try clear hcz14_1
        try clear hcz14_2
        try clear hcz17_0
        try clear hcz17_1
        try clear hcz17_2
        try clear hcz21_0
        try clear hcz21_1
        try clear hcz21_2
        try clear hcz26_0
        try clear hcz26_1
        try clear hcz26_2
        try clear hcz26_3
        try clear hcz30_0
        try clear hcz30_1
        try clear hcz30_2
        try clear hcz30_3
        try clear hcz34_0
        try clear hcz34_1
        try clear hcz34_2
        try clear hcz34_3
        try clear hcz38_0
        try clear hcz38_1
        try clear hcz38_2
        try clear hcz38_3
        try clear hcz41_0
        try clear hcz41_1
        try clear hcz41_2
        try clear hcz41_3
        try clear hcz45_0
        try clear hcz45_1
        try clear hcz45_2
        try clear hcz50_0
        try clear hcz50_1
        try clear hcz50_2
        try clear hcz53_0
        try clear hcz53_1
        try clear hcz53_2
        try clear hcz55_0
        try clear hcz55_1
        try clear hcz55_2
        try clear hcz55_3
        try clear hcz59_0
        try clear hcz59_1
        try clear hcz59_2
        try clear hcz59_3
        try clear hcz61_0
        try clear hcz61_1
        try clear hcz61_2
        try clear hfz10_0
        try clear hfz10_1
        try clear hfz10_2
        try clear hfz14_0
        try clear hfz14_1
        try clear hfz14_2
        try clear hfz17_0
        try clear hfz17_1
        try clear hfz17_2
        try clear hfz21_0
        try clear hfz21_1
        try clear hfz21_2
        try clear hfz26_0
        try clear hfz26_1
        try clear hfz26_2
        try clear hfz26_3
        try clear hfz30_0
        try clear hfz30_1
        try clear hfz30_2
        try clear hfz30_3
        try clear hfz34_0
        try clear hfz34_1
        try clear hfz34_2
        try clear hfz34_3
        try clear hfz38_0
        try clear hfz38_1
        try clear hfz38_2
        try clear hfz38_3
        try clear hfz41_0
        try clear hfz41_1
        try clear hfz41_2
        try clear hfz41_3
        try clear hfz45_0
        try clear hfz45_1
        try clear hfz45_2
        try clear hfz50_0
        try clear hfz50_1
        try clear hfz50_2
        try clear hfz53_0
        try clear hfz53_1
        try clear hfz53_2
        try clear hfz55_0
        try clear hfz55_1
        try clear hfz55_2
        try clear hfz55_3
        try clear hfz59_0
        try clear hfz59_1
        try clear hfz59_2
        try clear hfz59_3
        try clear hfz61_0
        try clear hfz61_1
        try clear hfz61_2
        try clear p2
        try clear p6
        obtain ⟨kq, x182000_46, x182001_46, x182002_46, u182002, HA, HJ46, HO_182002, BK181, BK182, BK183, HB⟩ := hcut
        cases kq with
        | zero => exact absurd HA.out (by simp [chunks_Add.j2])
        | succ kj46 =>
         have H := HA.out
         clear HA
         simp only [chunks_Add.j2] at H
         have HC62 := Aside0.mk H
         clear H
         have hnb63 := NB181_182.out
         have hnc63 := NB182_181.out
         have hnb64 := NB181_183.out
         have hnc64 := NB183_181.out
         have hcz65_0 : wc.cell? ⟨gb181, 0, none⟩ = some (.int .i64 x182000_46) := (blk_cell BK181.out 0).trans rfl
         have hcz65_1 : wc.cell? ⟨gb181, 1, none⟩ = some (.int .u32 x182001_46) := (blk_cell BK181.out 1).trans rfl
         have hcz65_2 : wc.cell? ⟨gb181, 2, none⟩ = some (u182002) := (blk_cell BK181.out 2).trans rfl
         have hfz65_0 := blk_frozen BK181.out 0
         have hfz65_1 := blk_frozen BK181.out 1
         have hfz65_2 := blk_frozen BK181.out 2
         obtain ⟨Ao66, co66, eo66⟩ := Kd.R_slice HO_182002.out
         subst eo66
         go_upto_region 9 with (fail)
         go_cut [72] (fun v72 wc => ∃ (kq : Nat) (x72_61 : Bool), v72 = .bool x72_61 ∧ Aside0 (chunks_Add.j3 kq (x182002_46.length : Int) x72_61 x182000_46 x182001_46 x182002_46 a1_0 a1_1 a1_2 l1_3 = some (r1, r2, r3, r4, r5)) ∧ Aside0 (kq ≤ kj46) ∧ Aside0 (Kd.R (Kd.int .u8) 5 wc w.heap.size (fun _ => True) (.slice Ao66 x182002_46.length co66) x182002_46) ∧ Aside0 (wc.heap[gb181]? = some (.cells #[.int .i64 x182000_46, .int .u32 x182001_46, (.slice Ao66 x182002_46.length co66)] 45 (0, 0))) ∧ Aside0 (wc.heap[gb182]? = some (.cells #[.int .i64 a1_0, .int .u32 a1_1, .int .i64 a1_2, (.slice A1_3 l1_3.length c1_3)] 41 (0, 0))) ∧ Aside0 (wc.heap[gb183]? = some (.cells #[.int .i64 0, .int .u32 0, (.slice none 0 0)] 45 (0, 0))) ∧ Aside0 (Below w.heap.size w wc))
         case first =>
          have H := HC62.out
          clear HC62
          by_cases c67 : x182000_46 = a1_0
          ·
           rw [if_pos c67] at H
           have c67b0 : (x182000_46 == a1_0) = true := beq_iff_eq.mpr c67
           have c67b1 : (x182000_46 != a1_0) = false := bne_eq_false_iff_eq.mpr c67
           clear c67
           (first | rw [c67b0] | (simp only [i64_w, i32_w]; rw [c67b0]) | skip)
           by_cases c68 : x182001_46 = a1_1
           ·
            rw [if_pos c68] at H
            have c68b0 : (x182001_46 == a1_1) = true := beq_iff_eq.mpr c68
            have c68b1 : (x182001_46 != a1_1) = false := bne_eq_false_iff_eq.mpr c68
            clear c68
            have H' := Aside0.mk H
            clear H
            have hnb69 := NB181_182.out
            have hnc69 := NB182_181.out
            have hnb70 := NB181_183.out
            have hnc70 := NB183_181.out
            have hcz71_0 : wc.cell? ⟨gb181, 0, none⟩ = some (.int .i64 x182000_46) := (blk_cell BK181.out 0).trans rfl
            have hcz71_1 : wc.cell? ⟨gb181, 1, none⟩ = some (.int .u32 x182001_46) := (blk_cell BK181.out 1).trans rfl
            have hcz71_2 : wc.cell? ⟨gb181, 2, none⟩ = some (.slice Ao66 x182002_46.length co66) := (blk_cell BK181.out 2).trans rfl
            have hfz71_0 := blk_frozen BK181.out 0
            have hfz71_1 := blk_frozen BK181.out 1
            have hfz71_2 := blk_frozen BK181.out 2
            have hnb72 := NB182_183.out
            have hnc72 := NB183_182.out
            have hcz73_0 : wc.cell? ⟨gb182, 0, none⟩ = some (.int .i64 a1_0) := (blk_cell BK182.out 0).trans rfl
            have hcz73_1 : wc.cell? ⟨gb182, 1, none⟩ = some (.int .u32 a1_1) := (blk_cell BK182.out 1).trans rfl
            have hcz73_2 : wc.cell? ⟨gb182, 2, none⟩ = some (.int .i64 a1_2) := (blk_cell BK182.out 2).trans rfl
            have hcz73_3 : wc.cell? ⟨gb182, 3, none⟩ = some (.slice A1_3 l1_3.length c1_3) := (blk_cell BK182.out 3).trans rfl
            have hfz73_0 := blk_frozen BK182.out 0
            have hfz73_1 := blk_frozen BK182.out 1
            have hfz73_2 := blk_frozen BK182.out 2
            have hfz73_3 := blk_frozen BK182.out 3
            go_wp2
            go_meet
            case rel => exact ⟨_, (decide (a1_2 > (x182002_46.length : Int))), (by first | rfl | (simp; done) | (simp [*]; done)), H', ⟨by have := HJ2.out; have := HJ21.out; have := HJ46.out; first | omega | exact Nat.le_refl _⟩, ⟨by (with_reducible repeat (first | apply Kd.R_alloc | apply Kd.R_drewN | apply Kd.R_drew)); exact HO_182002.out⟩, ⟨by (with_reducible repeat (first | refine blk_drewN ?_ _ | refine blk_drew ?_ | refine blk_alloc ?_ _)); exact BK181.out⟩, ⟨by (with_reducible repeat (first | refine blk_drewN ?_ _ | refine blk_drew ?_ | refine blk_alloc ?_ _)); exact BK182.out⟩, ⟨by (with_reducible repeat (first | refine blk_drewN ?_ _ | refine blk_drew ?_ | refine blk_alloc ?_ _)); exact BK183.out⟩, ⟨by repeat (first | (with_reducible first | exact HB.out | apply below_alloc | apply pw_below_drewN | apply below_drew1 | refine below_set ?_ GE181.out | refine below_set ?_ GE182.out | refine below_set ?_ GE183.out) | exact HB.out)⟩⟩
           ·
            rw [if_neg c68] at H
            have c68b0 : (x182001_46 == a1_1) = false := beq_eq_false_iff_ne.mpr c68
            have c68b1 : (x182001_46 != a1_1) = true := bne_iff_ne.mpr c68
            have H' := Aside0.mk H
            clear H
            have hnb74 := NB181_182.out
            have hnc74 := NB182_181.out
            have hnb75 := NB181_183.out
            have hnc75 := NB183_181.out
            have hcz76_0 : wc.cell? ⟨gb181, 0, none⟩ = some (.int .i64 x182000_46) := (blk_cell BK181.out 0).trans rfl
            have hcz76_1 : wc.cell? ⟨gb181, 1, none⟩ = some (.int .u32 x182001_46) := (blk_cell BK181.out 1).trans rfl
            have hcz76_2 : wc.cell? ⟨gb181, 2, none⟩ = some (.slice Ao66 x182002_46.length co66) := (blk_cell BK181.out 2).trans rfl
            have hfz76_0 := blk_frozen BK181.out 0
            have hfz76_1 := blk_frozen BK181.out 1
            have hfz76_2 := blk_frozen BK181.out 2
            have hnb77 := NB182_183.out
            have hnc77 := NB183_182.out
            have hcz78_0 : wc.cell? ⟨gb182, 0, none⟩ = some (.int .i64 a1_0) := (blk_cell BK182.out 0).trans rfl
            have hcz78_1 : wc.cell? ⟨gb182, 1, none⟩ = some (.int .u32 a1_1) := (blk_cell BK182.out 1).trans rfl
            have hcz78_2 : wc.cell? ⟨gb182, 2, none⟩ = some (.int .i64 a1_2) := (blk_cell BK182.out 2).trans rfl
            have hcz78_3 : wc.cell? ⟨gb182, 3, none⟩ = some (.slice A1_3 l1_3.length c1_3) := (blk_cell BK182.out 3).trans rfl
            have hfz78_0 := blk_frozen BK182.out 0
            have hfz78_1 := blk_frozen BK182.out 1
            have hfz78_2 := blk_frozen BK182.out 2
            have hfz78_3 := blk_frozen BK182.out 3
            go_wp2
            go_meet
            case rel => exact ⟨_, (true), (by first | rfl | (simp; done) | (simp [*]; done)), H', ⟨by have := HJ2.out; have := HJ21.out; have := HJ46.out; first | omega | exact Nat.le_refl _⟩, ⟨by (with_reducible repeat (first | apply Kd.R_alloc | apply Kd.R_drewN | apply Kd.R_drew)); exact HO_182002.out⟩, ⟨by (with_reducible repeat (first | refine blk_drewN ?_ _ | refine blk_drew ?_ | refine blk_alloc ?_ _)); exact BK181.out⟩, ⟨by (with_reducible repeat (first | refine blk_drewN ?_ _ | refine blk_drew ?_ | refine blk_alloc ?_ _)); exact BK182.out⟩, ⟨by (with_reducible repeat (first | refine blk_drewN ?_ _ | refine blk_drew ?_ | refine blk_alloc ?_ _)); exact BK183.out⟩, ⟨by repeat (first | (with_reducible first | exact HB.out | apply below_alloc | apply pw_below_drewN | apply below_drew1 | refine below_set ?_ GE181.out | refine below_set ?_ GE182.out | refine below_set ?_ GE183.out) | exact HB.out)⟩⟩
          ·
           rw [if_neg c67] at H
           have c67b0 : (x182000_46 == a1_0) = false := beq_eq_false_iff_ne.mpr c67
           have c67b1 : (x182000_46 != a1_0) = true := bne_iff_ne.mpr c67
           (first | rw [c67b0] | (simp only [i64_w, i32_w]; rw [c67b0]) | skip)
           have H' := Aside0.mk H
           clear H
           have hnb79 := NB181_182.out
           have hnc79 := NB182_181.out
           have hnb80 := NB181_183.out
           have hnc80 := NB183_181.out
           have hcz81_0 : wc.cell? ⟨gb181, 0, none⟩ = some (.int .i64 x182000_46) := (blk_cell BK181.out 0).trans rfl
           have hcz81_1 : wc.cell? ⟨gb181, 1, none⟩ = some (.int .u32 x182001_46) := (blk_cell BK181.out 1).trans rfl
           have hcz81_2 : wc.cell? ⟨gb181, 2, none⟩ = some (.slice Ao66 x182002_46.length co66) := (blk_cell BK181.out 2).trans rfl
           have hfz81_0 := blk_frozen BK181.out 0
           have hfz81_1 := blk_frozen BK181.out 1
           have hfz81_2 := blk_frozen BK181.out 2
           have hnb82 := NB182_183.out
           have hnc82 := NB183_182.out
           have hcz83_0 : wc.cell? ⟨gb182, 0, none⟩ = some (.int .i64 a1_0) := (blk_cell BK182.out 0).trans rfl
           have hcz83_1 : wc.cell? ⟨gb182, 1, none⟩ = some (.int .u32 a1_1) := (blk_cell BK182.out 1).trans rfl
           have hcz83_2 : wc.cell? ⟨gb182, 2, none⟩ = some (.int .i64 a1_2) := (blk_cell BK182.out 2).trans rfl
           have hcz83_3 : wc.cell? ⟨gb182, 3, none⟩ = some (.slice A1_3 l1_3.length c1_3) := (blk_cell BK182.out 3).trans rfl
           have hfz83_0 := blk_frozen BK182.out 0
           have hfz83_1 := blk_frozen BK182.out 1
           have hfz83_2 := blk_frozen BK182.out 2
           have hfz83_3 := blk_frozen BK182.out 3
           go_wp2
           go_meet
           case rel => exact ⟨_, (true), (by first | rfl | (simp; done) | (simp [*]; done)), H', ⟨by have := HJ2.out; have := HJ21.out; have := HJ46.out; first | omega | exact Nat.le_refl _⟩, ⟨by (with_reducible repeat (first | apply Kd.R_alloc | apply Kd.R_drewN | apply Kd.R_drew)); exact HO_182002.out⟩, ⟨by (with_reducible repeat (first | refine blk_drewN ?_ _ | refine blk_drew ?_ | refine blk_alloc ?_ _)); exact BK181.out⟩, ⟨by (with_reducible repeat (first | refine blk_drewN ?_ _ | refine blk_drew ?_ | refine blk_alloc ?_ _)); exact BK182.out⟩, ⟨by (with_reducible repeat (first | refine blk_drewN ?_ _ | refine blk_drew ?_ | refine blk_alloc ?_ _)); exact BK183.out⟩, ⟨by repeat (first | (with_reducible first | exact HB.out | apply below_alloc | apply pw_below_drewN | apply below_drew1 | refine below_set ?_ GE181.out | refine below_set ?_ GE182.out | refine below_set ?_ GE183.out) | exact HB.out)⟩⟩
         case rest =>
          clear HC62
          try clear c1
          try clear c2
          try clear p2
          try clear c3
          try clear c4
          try clear c5
          try clear c6
          try clear p6
          try clear c7
          try clear c7b0
          try clear c8
          try clear c9
          try clear c11
          try clear c11b0
          try clear c12
          try clear c13
          try clear c15
          try clear c16
          try clear c18
          try clear c19
          try clear c20
          try clear c23
          try clear c23b0
          try clear c24
          try clear c25
          try clear c27
          try clear c27b0
          try clear c28
          try clear c29
          try clear c31
          try clear c31b0
          try clear c32
          try clear c33
          try clear c35
          try clear c35b0
          try clear c36
          try clear c37
          try clear c39
          try clear c40
          try clear c42
          try clear c43
          try clear c44
          try clear c48
          try clear c49
          try clear c54
          try clear c56
          try clear c56b0
          try clear c56b1
          try clear c57
          try clear c58
          try clear c60
          try clear c63
          try clear c64
          try clear p64
          try clear c67
          try clear c67b0
          try clear c67b1
          try clear c68
          try clear c68b0
          try clear c68b1
          try clear c69
          try clear c70
          try clear c72
          try clear c74
          try clear c75
          try clear c77
          try clear c79
          try clear c80
          try clear c82
          try clear hcz10_0
          try clear hcz10_1
          try clear hcz10_2
          try clear hcz14_0
          try clear hcz14_1
          try clear hcz14_2
          try clear hcz17_0
          try clear hcz17_1
          try clear hcz17_2
          try clear hcz21_0
          try clear hcz21_1
          try clear hcz21_2
          try clear hcz26_0
          try clear hcz26_1
          try clear hcz26_2
          try clear hcz26_3
          try clear hcz30_0
          try clear hcz30_1
          try clear hcz30_2
          try clear hcz30_3
          try clear hcz34_0
          try clear hcz34_1
          try clear hcz34_2
          try clear hcz34_3
          try clear hcz38_0
          try clear hcz38_1
          try clear hcz38_2
          try clear hcz38_3
          try clear hcz41_0
          try clear hcz41_1
          try clear hcz41_2
          try clear hcz41_3
          try clear hcz45_0
          try clear hcz45_1
          try clear hcz45_2
          try clear hcz50_0
          try clear hcz50_1
          try clear hcz50_2
          try clear hcz53_0
          try clear hcz53_1
          try clear hcz53_2
          try clear hcz55_0
          try clear hcz55_1
          try clear hcz55_2
          try clear hcz55_3
          try clear hcz59_0
          try clear hcz59_1
          try clear hcz59_2
          try clear hcz59_3
          try clear hcz61_0
          try clear hcz61_1
          try clear hcz61_2
          try clear hcz65_0
          try clear hcz65_1
          try clear hcz65_2
          try clear hcz71_0
          try clear hcz71_1
          try clear hcz71_2
          try clear hcz73_0
          try clear hcz73_1
          try clear hcz73_2
          try clear hcz73_3
          try clear hcz76_0
          try clear hcz76_1
          try clear hcz76_2
          try clear hcz78_0
          try clear hcz78_1
          try clear hcz78_2
          try clear hcz78_3
          try clear hcz81_0
          try clear hcz81_1
          try clear hcz81_2
          try clear hcz83_0
          try clear hcz83_1
          try clear hcz83_2
          try clear hcz83_3
          try clear hfz10_0
          try clear hfz10_1
          try clear hfz10_2
          try clear hfz14_0
          try clear hfz14_1
          try clear hfz14_2
          try clear hfz17_0
          try clear hfz17_1
          try clear hfz17_2
          try clear hfz21_0
          try clear hfz21_1
          try clear hfz21_2
          try clear hfz26_0
          try clear hfz26_1
          try clear hfz26_2
          try clear hfz26_3
          try clear hfz30_0
          try clear hfz30_1
          try clear hfz30_2
          try clear hfz30_3
          try clear hfz34_0
          try clear hfz34_1
          try clear hfz34_2
          try clear hfz34_3
          try clear hfz38_0
          try clear hfz38_1
          try clear hfz38_2
          try clear hfz38_3
          try clear hfz41_0
          try clear hfz41_1
          try clear hfz41_2
          try clear hfz41_3
          try clear hfz45_0
          try clear hfz45_1
          try clear hfz45_2
          try clear hfz50_0
          try clear hfz50_1
          try clear hfz50_2
          try clear hfz53_0
          try clear hfz53_1
          try clear hfz53_2
          try clear hfz55_0
          try clear hfz55_1
          try clear hfz55_2
          try clear hfz55_3
          try clear hfz59_0
          try clear hfz59_1
          try clear hfz59_2
          try clear hfz59_3
          try clear hfz61_0
          try clear hfz61_1
          try clear hfz61_2
          try clear hfz65_0
          try clear hfz65_1
          try clear hfz65_2
          try clear hfz71_0
          try clear hfz71_1
          try clear hfz71_2
          try clear hfz73_0
          try clear hfz73_1
          try clear hfz73_2
          try clear hfz73_3
          try clear hfz76_0
          try clear hfz76_1
          try clear hfz76_2
          try clear hfz78_0
          try clear hfz78_1
          try clear hfz78_2
          try clear hfz78_3
          try clear hfz81_0
          try clear hfz81_1
          try clear hfz81_2
          try clear hfz83_0
          try clear hfz83_1
          try clear hfz83_2
          try clear hfz83_3
          try clear p2
          try clear p6
          obtain ⟨kq, x72_61, rfl, HA, HJ61, HO_182002, BK181, BK182, BK183, HB⟩ := hcut
          cases kq with
          | zero => exact absurd HA.out (by simp [chunks_Add.j3])
          | succ kj61 =>
           have H := HA.out
           clear HA
           simp only [chunks_Add.j3] at H
           by_cases c84 : x72_61 = true
           ·
            subst c84
            have H1 : (some (0, 0, ([] : List Int), false, 81)) = some (r1, r2, r3, r4, r5) := by rw [if_pos rfl] at H; exact H
            clear H
            have H := H1
            clear H1
            simp only [Option.some.injEq, Prod.mk.injEq] at H
            obtain ⟨rfl, rfl, rfl, rfl, rfl⟩ := H
            have hnb85 := NB183_181.out
            have hnc85 := NB181_183.out
            have hnb86 := NB183_182.out
            have hnc86 := NB182_183.out
            have hcz87_0 : wc.cell? ⟨gb183, 0, none⟩ = some (.int .i64 0) := (blk_cell BK183.out 0).trans rfl
            have hcz87_1 : wc.cell? ⟨gb183, 1, none⟩ = some (.int .u32 0) := (blk_cell BK183.out 1).trans rfl
            have hcz87_2 : wc.cell? ⟨gb183, 2, none⟩ = some (.slice none 0 0) := (blk_cell BK183.out 2).trans rfl
            have hfz87_0 := blk_frozen BK183.out 0
            have hfz87_1 := blk_frozen BK183.out 1
            have hfz87_2 := blk_frozen BK183.out 2
            go_wp2
            refine bodyPost_ret (results_ctt rfl _ _ gb183 45 #[.int .i64 0, .int .u32 0, .slice none 0 0] (0, 0) _ rfl (by (with_reducible repeat (first | refine blk_drewN ?_ _ | refine blk_drew ?_ | refine blk_alloc ?_ _)); refine blk_put (cs := #[.int .i64 0, .int .u32 0, .slice none 0 0]) ?_ 2 _ rfl; (with_reducible repeat (first | refine blk_drewN ?_ _ | refine blk_drew ?_ | refine blk_alloc ?_ _)); refine blk_put (cs := #[.int .i64 0, .int .u32 0, .slice none 0 0]) ?_ 1 _ rfl; (with_reducible repeat (first | refine blk_drewN ?_ _ | refine blk_drew ?_ | refine blk_alloc ?_ _)); refine blk_put (cs := #[.int .i64 0, .int .u32 0, .slice none 0 0]) ?_ 0 _ rfl; (with_reducible repeat (first | refine blk_drewN ?_ _ | refine blk_drew ?_ | refine blk_alloc ?_ _)); exact BK183.out) Try.underlying45 rfl (by kernel_rfl)) rfl ?_
            exact ⟨_, by first | rfl | (simp [errW_none, errW_some] <;> rfl) | (simp [*, errW_none, errW_some] <;> rfl), by first | exact Kd.R_nil _ _ _ _ _ | exact Kd.N_nil _ _ _ _ _ | exact Kd.V_nil _ _ _ _ _ | exact Kd.Q_nil _ _ _ _ _ | exact Kd.S_nil _ _ _ _ _, by repeat (first | (with_reducible first | exact HB.out | apply below_alloc | apply pw_below_drewN | apply below_drew1 | refine below_set ?_ GE181.out | refine below_set ?_ GE182.out | refine below_set ?_ GE183.out) | exact HB.out)⟩
           ·
            replace c84 := Bool.eq_false_iff.mpr c84
            subst c84
            have H1 : (if a1_2 < (x182002_46.length : Int) then (chunks_Add.j4 kj61 (x182002_46.length : Int) (decide ((wrap64 (a1_2 + (l1_3.length : Int))) > (x182002_46.length : Int))) x182000_46 x182001_46 x182002_46 a1_0 a1_1 a1_2 l1_3) else (chunks_Add.j4 kj61 (x182002_46.length : Int) false x182000_46 x182001_46 x182002_46 a1_0 a1_1 a1_2 l1_3)) = some (r1, r2, r3, r4, r5) := by rw [if_neg (show ¬ (false = true) by decide)] at H; exact H
            clear H
            have H := H1
            clear H1
            have HC88 := Aside0.mk H
            clear H
            go_upto_region 11 with (fail)
            go_cut [92] (fun v92 wc => ∃ (kq : Nat) (x92_87 : Bool), v92 = .bool x92_87 ∧ Aside0 (chunks_Add.j4 kq (x182002_46.length : Int) x92_87 x182000_46 x182001_46 x182002_46 a1_0 a1_1 a1_2 l1_3 = some (r1, r2, r3, r4, r5)) ∧ Aside0 (kq ≤ kj61) ∧ Aside0 (Kd.R (Kd.int .u8) 5 wc w.heap.size (fun _ => True) (.slice Ao66 x182002_46.length co66) x182002_46) ∧ Aside0 (wc.heap[gb181]? = some (.cells #[.int .i64 x182000_46, .int .u32 x182001_46, (.slice Ao66 x182002_46.length co66)] 45 (0, 0))) ∧ Aside0 (wc.heap[gb182]? = some (.cells #[.int .i64 a1_0, .int .u32 a1_1, .int .i64 a1_2, (.slice A1_3 l1_3.length c1_3)] 41 (0, 0))) ∧ Aside0 (wc.heap[gb183]? = some (.cells #[.int .i64 0, .int .u32 0, (.slice none 0 0)] 45 (0, 0))) ∧ Aside0 (Below w.heap.size w wc))
            case first =>
             have H := HC88.out
             clear HC88
             by_cases c89 : a1_2 < (x182002_46.length : Int)
             ·
              rw [if_pos c89] at H
              have c89b0 : decide (a1_2 < (x182002_46.length : Int)) = true := decide_eq_true c89
              clear c89
              (first | rw [c89b0] | (simp only [i64_w, i32_w]; rw [c89b0]) | skip)
              have H' := Aside0.mk H
              clear H
              have hnb90 := NB182_181.out
              have hnc90 := NB181_182.out
              have hnb91 := NB182_183.out
              have hnc91 := NB183_182.out
              have hcz92_0 : wc.cell? ⟨gb182, 0, none⟩ = some (.int .i64 a1_0) := (blk_cell BK182.out 0).trans rfl
              have hcz92_1 : wc.cell? ⟨gb182, 1, none⟩ = some (.int .u32 a1_1) := (blk_cell BK182.out 1).trans rfl
              have hcz92_2 : wc.cell? ⟨gb182, 2, none⟩ = some (.int .i64 a1_2) := (blk_cell BK182.out 2).trans rfl
              have hcz92_3 : wc.cell? ⟨gb182, 3, none⟩ = some (.slice A1_3 l1_3.length c1_3) := (blk_cell BK182.out 3).trans rfl
              have hfz92_0 := blk_frozen BK182.out 0
              have hfz92_1 := blk_frozen BK182.out 1
              have hfz92_2 := blk_frozen BK182.out 2
              have hfz92_3 := blk_frozen BK182.out 3
              go_wp2
              go_meet
              case rel => exact ⟨_, (decide ((wrap64 (a1_2 + (l1_3.length : Int))) > (x182002_46.length : Int))), (by first | rfl | (simp; done) | (simp [*]; done)), H', ⟨by have := HJ2.out; have := HJ21.out; have := HJ46.out; have := HJ61.out; first | omega | exact Nat.le_refl _⟩, ⟨by (with_reducible repeat (first | apply Kd.R_alloc | apply Kd.R_drewN | apply Kd.R_drew)); exact HO_182002.out⟩, ⟨by (with_reducible repeat (first | refine blk_drewN ?_ _ | refine blk_drew ?_ | refine blk_alloc ?_ _)); exact BK181.out⟩, ⟨by (with_reducible repeat (first | refine blk_drewN ?_ _ | refine blk_drew ?_ | refine blk_alloc ?_ _)); exact BK182.out⟩, ⟨by (with_reducible repeat (first | refine blk_drewN ?_ _ | refine blk_drew ?_ | refine blk_alloc ?_ _)); exact BK183.out⟩, ⟨by repeat (first | (with_reducible first | exact HB.out | apply below_alloc | apply pw_below_drewN | apply below_drew1 | refine below_set ?_ GE181.out | refine below_set ?_ GE182.out | refine below_set ?_ GE183.out) | exact HB.out)⟩⟩
             ·
              rw [if_neg c89] at H
              have c89b0 : decide (a1_2 < (x182002_46.length : Int)) = false := decide_eq_false c89
              clear c89
              (first | rw [c89b0] | (simp only [i64_w, i32_w]; rw [c89b0]) | skip)
              have H' := Aside0.mk H
              clear H
              have hnb93 := NB182_181.out
              have hnc93 := NB181_182.out
              have hnb94 := NB182_183.out
              have hnc94 := NB183_182.out
              have hcz95_0 : wc.cell? ⟨gb182, 0, none⟩ = some (.int .i64 a1_0) := (blk_cell BK182.out 0).trans rfl
              have hcz95_1 : wc.cell? ⟨gb182, 1, none⟩ = some (.int .u32 a1_1) := (blk_cell BK182.out 1).trans rfl
              have hcz95_2 : wc.cell? ⟨gb182, 2, none⟩ = some (.int .i64 a1_2) := (blk_cell BK182.out 2).trans rfl
              have hcz95_3 : wc.cell? ⟨gb182, 3, none⟩ = some (.slice A1_3 l1_3.length c1_3) := (blk_cell BK182.out 3).trans rfl
              have hfz95_0 := blk_frozen BK182.out 0
              have hfz95_1 := blk_frozen BK182.out 1
              have hfz95_2 := blk_frozen BK182.out 2
              have hfz95_3 := blk_frozen BK182.out 3
              go_wp2
              go_meet
              case rel => exact ⟨_, (false), (by first | rfl | (simp; done) | (simp [*]; done)), H', ⟨by have := HJ2.out; have := HJ21.out; have := HJ46.out; have := HJ61.out; first | omega | exact Nat.le_refl _⟩, ⟨by (with_reducible repeat (first | apply Kd.R_alloc | apply Kd.R_drewN | apply Kd.R_drew)); exact HO_182002.out⟩, ⟨by (with_reducible repeat (first | refine blk_drewN ?_ _ | refine blk_drew ?_ | refine blk_alloc ?_ _)); exact BK181.out⟩, ⟨by (with_reducible repeat (first | refine blk_drewN ?_ _ | refine blk_drew ?_ | refine blk_alloc ?_ _)); exact BK182.out⟩, ⟨by (with_reducible repeat (first | refine blk_drewN ?_ _ | refine blk_drew ?_ | refine blk_alloc ?_ _)); exact BK183.out⟩, ⟨by repeat (first | (with_reducible first | exact HB.out | apply below_alloc | apply pw_below_drewN | apply below_drew1 | refine below_set ?_ GE181.out | refine below_set ?_ GE182.out | refine below_set ?_ GE183.out) | exact HB.out)⟩⟩
            case rest =>
             clear HC88
             try clear c1
             try clear c2
             try clear p2
             try clear c3
             try clear c4
             try clear c5
             try clear c6
             try clear p6
             try clear c7
             try clear c7b0
             try clear c8
             try clear c9
             try clear c11
             try clear c11b0
             try clear c12
             try clear c13
             try clear c15
             try clear c16
             try clear c18
             try clear c19
             try clear c20
             try clear c23
             try clear c23b0
             try clear c24
             try clear c25
             try clear c27
             try clear c27b0
             try clear c28
             try clear c29
             try clear c31
             try clear c31b0
             try clear c32
             try clear c33
             try clear c35
             try clear c35b0
             try clear c36
             try clear c37
             try clear c39
             try clear c40
             try clear c42
             try clear c43
             try clear c44
             try clear c48
             try clear c49
             try clear c54
             try clear c56
             try clear c56b0
             try clear c56b1
             try clear c57
             try clear c58
             try clear c60
             try clear c63
             try clear c64
             try clear p64
             try clear c67
             try clear c67b0
             try clear c67b1
             try clear c68
             try clear c68b0
             try clear c68b1
             try clear c69
             try clear c70
             try clear c72
             try clear c74
             try clear c75
             try clear c77
             try clear c79
             try clear c80
             try clear c82
             try clear c84
             try clear c85
             try clear c86
             try clear c89
             try clear c89b0
             try clear c90
             try clear c91
             try clear c93
             try clear c94
             try clear hcz10_0
             try clear hcz10_1
             try clear hcz10_2
             try clear hcz14_0
             try clear hcz14_1
             try clear hcz14_2
             try clear hcz17_0
             try clear hcz17_1
             try clear hcz17_2
             try clear hcz21_0
             try clear hcz21_1
             try clear hcz21_2
             try clear hcz26_0
             try clear hcz26_1
             try clear hcz26_2
             try clear hcz26_3
             try clear hcz30_0
             try clear hcz30_1
             try clear hcz30_2
             try clear hcz30_3
             try clear hcz34_0
             try clear hcz34_1
             try clear hcz34_2
             try clear hcz34_3
             try clear hcz38_0
             try clear hcz38_1
             try clear hcz38_2
             try clear hcz38_3
             try clear hcz41_0
             try clear hcz41_1
             try clear hcz41_2
             try clear hcz41_3
             try clear hcz45_0
             try clear hcz45_1
             try clear hcz45_2
             try clear hcz50_0
             try clear hcz50_1
             try clear hcz50_2
             try clear hcz53_0
             try clear hcz53_1
             try clear hcz53_2
             try clear hcz55_0
             try clear hcz55_1
             try clear hcz55_2
             try clear hcz55_3
             try clear hcz59_0
             try clear hcz59_1
             try clear hcz59_2
             try clear hcz59_3
             try clear hcz61_0
             try clear hcz61_1
             try clear hcz61_2
             try clear hcz65_0
             try clear hcz65_1
             try clear hcz65_2
             try clear hcz71_0
             try clear hcz71_1
             try clear hcz71_2
             try clear hcz73_0
             try clear hcz73_1
             try clear hcz73_2
             try clear hcz73_3
             try clear hcz76_0
             try clear hcz76_1
             try clear hcz76_2
             try clear hcz78_0
             try clear hcz78_1
             try clear hcz78_2
             try clear hcz78_3
             try clear hcz81_0
             try clear hcz81_1
             try clear hcz81_2
             try clear hcz83_0
             try clear hcz83_1
             try clear hcz83_2
             try clear hcz83_3
             try clear hcz87_0
             try clear hcz87_1
             try clear hcz87_2
             try clear hcz92_0
             try clear hcz92_1
             try clear hcz92_2
             try clear hcz92_3
             try clear hcz95_0
             try clear hcz95_1
             try clear hcz95_2
             try clear hcz95_3
             try clear hfz10_0
             try clear hfz10_1
             try clear hfz10_2
             try clear hfz14_0
             try clear hfz14_1
             try clear hfz14_2
             try clear hfz17_0
             try clear hfz17_1
             try clear hfz17_2
             try clear hfz21_0
             try clear hfz21_1
             try clear hfz21_2
             try clear hfz26_0
             try clear hfz26_1
             try clear hfz26_2
             try clear hfz26_3
             try clear hfz30_0
             try clear hfz30_1
             try clear hfz30_2
             try clear hfz30_3
             try clear hfz34_0
             try clear hfz34_1
             try clear hfz34_2
             try clear hfz34_3
             try clear hfz38_0
             try clear hfz38_1
             try clear hfz38_2
             try clear hfz38_3
             try clear hfz41_0
             try clear hfz41_1
             try clear hfz41_2
             try clear hfz41_3
             try clear hfz45_0
             try clear hfz45_1
             try clear hfz45_2
             try clear hfz50_0
             try clear hfz50_1
             try clear hfz50_2
             try clear hfz53_0
             try clear hfz53_1
             try clear hfz53_2
             try clear hfz55_0
             try clear hfz55_1
             try clear hfz55_2
             try clear hfz55_3
             try clear hfz59_0
             try clear hfz59_1
             try clear hfz59_2
             try clear hfz59_3
             try clear hfz61_0
             try clear hfz61_1
             try clear hfz61_2
             try clear hfz65_0
             try clear hfz65_1
             try clear hfz65_2
             try clear hfz71_0
             try clear hfz71_1
             try clear hfz71_2
             try clear hfz73_0
             try clear hfz73_1
             try clear hfz73_2
             try clear hfz73_3
             try clear hfz76_0
             try clear hfz76_1
             try clear hfz76_2
             try clear hfz78_0
             try clear hfz78_1
             try clear hfz78_2
             try clear hfz78_3
             try clear hfz81_0
             try clear hfz81_1
             try clear hfz81_2
             try clear hfz83_0
             try clear hfz83_1
             try clear hfz83_2
             try clear hfz83_3
             try clear hfz87_0
             try clear hfz87_1
             try clear hfz87_2
             try clear hfz92_0
             try clear hfz92_1
             try clear hfz92_2
             try clear hfz92_3
             try clear hfz95_0
             try clear hfz95_1
             try clear hfz95_2
             try clear hfz95_3
             try clear p2
             try clear p6
             try clear p64
             obtain ⟨kq, x92_87, rfl, HA, HJ87, HO_182002, BK181, BK182, BK183, HB⟩ := hcut
             cases kq with
             | zero => exact absurd HA.out (by simp [chunks_Add.j4])
             | succ kj87 =>
              have H := HA.out
              clear HA
              simp only [chunks_Add.j4] at H
              by_cases c96 : x92_87 = true
              ·
               subst c96
               have H1 : (some (0, 0, ([] : List Int), false, 81)) = some (r1, r2, r3, r4, r5) := by rw [if_pos rfl] at H; exact H
               clear H
               have H := H1
               clear H1
               simp only [Option.some.injEq, Prod.mk.injEq] at H
               obtain ⟨rfl, rfl, rfl, rfl, rfl⟩ := H
               have hnb97 := NB183_181.out
               have hnc97 := NB181_183.out
               have hnb98 := NB183_182.out
               have hnc98 := NB182_183.out
               have hcz99_0 : wc.cell? ⟨gb183, 0, none⟩ = some (.int .i64 0) := (blk_cell BK183.out 0).trans rfl
               have hcz99_1 : wc.cell? ⟨gb183, 1, none⟩ = some (.int .u32 0) := (blk_cell BK183.out 1).trans rfl
               have hcz99_2 : wc.cell? ⟨gb183, 2, none⟩ = some (.slice none 0 0) := (blk_cell BK183.out 2).trans rfl
               have hfz99_0 := blk_frozen BK183.out 0
               have hfz99_1 := blk_frozen BK183.out 1
               have hfz99_2 := blk_frozen BK183.out 2
               go_wp2
               refine bodyPost_ret (results_ctt rfl _ _ gb183 45 #[.int .i64 0, .int .u32 0, .slice none 0 0] (0, 0) _ rfl (by (with_reducible repeat (first | refine blk_drewN ?_ _ | refine blk_drew ?_ | refine blk_alloc ?_ _)); refine blk_put (cs := #[.int .i64 0, .int .u32 0, .slice none 0 0]) ?_ 2 _ rfl; (with_reducible repeat (first | refine blk_drewN ?_ _ | refine blk_drew ?_ | refine blk_alloc ?_ _)); refine blk_put (cs := #[.int .i64 0, .int .u32 0, .slice none 0 0]) ?_ 1 _ rfl; (with_reducible repeat (first | refine blk_drewN ?_ _ | refine blk_drew ?_ | refine blk_alloc ?_ _)); refine blk_put (cs := #[.int .i64 0, .int .u32 0, .slice none 0 0]) ?_ 0 _ rfl; (with_reducible repeat (first | refine blk_drewN ?_ _ | refine blk_drew ?_ | refine blk_alloc ?_ _)); exact BK183.out) Try.underlying45 rfl (by kernel_rfl)) rfl ?_
               exact ⟨_, by first | rfl | (simp [errW_none, errW_some] <;> rfl) | (simp [*, errW_none, errW_some] <;> rfl), by first | exact Kd.R_nil _ _ _ _ _ | exact Kd.N_nil _ _ _ _ _ | exact Kd.V_nil _ _ _ _ _ | exact Kd.Q_nil _ _ _ _ _ | exact Kd.S_nil _ _ _ _ _, by repeat (first | (with_reducible first | exact HB.out | apply below_alloc | apply pw_below_drewN | apply below_drew1 | refine below_set ?_ GE181.out | refine below_set ?_ GE182.out | refine below_set ?_ GE183.out) | exact HB.out)⟩
              ·
               replace c96 := Bool.eq_false_iff.mpr c96
               subst c96
               have H1 : (if a1_2 < (x182002_46.length : Int) then (some (x182000_46, x182001_46, x182002_46, false, 0)) else (if x182002_46.length + l1_3.length < 140737488355328 then ((some (x182002_46 ++ l1_3 : List Int)).bind fun y187 => (if (y187.length : Int) < x182000_46 then (some (x182000_46, x182001_46, y187, false, 0)) else ((crc_Sum.f y187).bind fun t190 => (if t190 = x182001_46 then (some (x182000_46, x182001_46, y187, true, 0)) else (some (0, 0, ([] : List Int), false, 21)))))) else (none))) = some (r1, r2, r3, r4, r5) := by rw [if_neg (show ¬ (false = true) by decide)] at H; exact H
               clear H
               have H := H1
               clear H1
               by_cases c100 : a1_2 < (x182002_46.length : Int)
               ·
                rw [if_pos c100] at H
                have c100b0 : decide (a1_2 < (x182002_46.length : Int)) = true := decide_eq_true c100
                clear c100
                simp only [Option.some.injEq, Prod.mk.injEq] at H
                obtain ⟨rfl, rfl, rfl, rfl, rfl⟩ := H
                have hnb101 := NB182_181.out
                have hnc101 := NB181_182.out
                have hnb102 := NB182_183.out
                have hnc102 := NB183_182.out
                have hcz103_0 : wc.cell? ⟨gb182, 0, none⟩ = some (.int .i64 a1_0) := (blk_cell BK182.out 0).trans rfl
                have hcz103_1 : wc.cell? ⟨gb182, 1, none⟩ = some (.int .u32 a1_1) := (blk_cell BK182.out 1).trans rfl
                have hcz103_2 : wc.cell? ⟨gb182, 2, none⟩ = some (.int .i64 a1_2) := (blk_cell BK182.out 2).trans rfl
                have hcz103_3 : wc.cell? ⟨gb182, 3, none⟩ = some (.slice A1_3 l1_3.length c1_3) := (blk_cell BK182.out 3).trans rfl
                have hfz103_0 := blk_frozen BK182.out 0
                have hfz103_1 := blk_frozen BK182.out 1
                have hfz103_2 := blk_frozen BK182.out 2
                have hfz103_3 := blk_frozen BK182.out 3
                have hnb104 := NB181_183.out
                have hnc104 := NB183_181.out
                have hcz105_0 : wc.cell? ⟨gb181, 0, none⟩ = some (.int .i64 x182000_46) := (blk_cell BK181.out 0).trans rfl
                have hcz105_1 : wc.cell? ⟨gb181, 1, none⟩ = some (.int .u32 x182001_46) := (blk_cell BK181.out 1).trans rfl
                have hcz105_2 : wc.cell? ⟨gb181, 2, none⟩ = some (.slice Ao66 x182002_46.length co66) := (blk_cell BK181.out 2).trans rfl
                have hfz105_0 := blk_frozen BK181.out 0
                have hfz105_1 := blk_frozen BK181.out 1
                have hfz105_2 := blk_frozen BK181.out 2
                have hcz106_0 : wc.cell? ⟨gb183, 0, none⟩ = some (.int .i64 0) := (blk_cell BK183.out 0).trans rfl
                have hcz106_1 : wc.cell? ⟨gb183, 1, none⟩ = some (.int .u32 0) := (blk_cell BK183.out 1).trans rfl
                have hcz106_2 : wc.cell? ⟨gb183, 2, none⟩ = some (.slice none 0 0) := (blk_cell BK183.out 2).trans rfl
                have hfz106_0 := blk_frozen BK183.out 0
                have hfz106_1 := blk_frozen BK183.out 1
                have hfz106_2 := blk_frozen BK183.out 2
                go_wp2
                refine bodyPost_ret (results_ctt rfl _ _ gb183 45 #[.int .i64 x182000_46, .int .u32 x182001_46, .slice Ao66 x182002_46.length co66] (0, 0) _ rfl (by (with_reducible repeat (first | refine blk_drewN ?_ _ | refine blk_drew ?_ | refine blk_alloc ?_ _)); refine blk_put (cs := #[.int .i64 x182000_46, .int .u32 x182001_46, .slice none 0 0]) ?_ 2 _ rfl; (with_reducible repeat (first | refine blk_drewN ?_ _ | refine blk_drew ?_ | refine blk_alloc ?_ _)); refine blk_put (cs := #[.int .i64 x182000_46, .int .u32 0, .slice none 0 0]) ?_ 1 _ rfl; (with_reducible repeat (first | refine blk_drewN ?_ _ | refine blk_drew ?_ | refine blk_alloc ?_ _)); refine blk_put (cs := #[.int .i64 0, .int .u32 0, .slice none 0 0]) ?_ 0 _ rfl; (with_reducible repeat (first | refine blk_drewN ?_ _ | refine blk_drew ?_ | refine blk_alloc ?_ _)); exact BK183.out) Try.underlying45 rfl (by kernel_rfl)) rfl ?_
                exact ⟨_, by first | rfl | (simp [errW_none, errW_some] <;> rfl) | (simp [*, errW_none, errW_some] <;> rfl), by (with_reducible repeat (first | apply Kd.R_alloc | apply Kd.R_drewN | apply Kd.R_drew)); exact Kd.R_mono (Kd.R_far (p := ⟨gb183, 2, none⟩) (Kd.R_far (p := ⟨gb183, 1, none⟩) (Kd.R_far (p := ⟨gb183, 0, none⟩) (Kd.R_types HO_182002.out BK183.out (by decide)) (fun _ hk => hk.2) (.int .i64 x182000_46)) (fun _ hk => hk.2) (.int .u32 x182001_46)) (fun _ hk => hk.2) (.slice Ao66 x182002_46.length co66)) (fun _ hk => trivial), by repeat (first | (with_reducible first | exact HB.out | apply below_alloc | apply pw_below_drewN | apply below_drew1 | refine below_set ?_ GE181.out | refine below_set ?_ GE182.out | refine below_set ?_ GE183.out) | exact HB.out)⟩
               ·
                rw [if_neg c100] at H
                have c100b0 : decide (a1_2 < (x182002_46.length : Int)) = false := decide_eq_false c100
                clear c100
                by_cases c107 : x182002_46.length + l1_3.length < 140737488355328
                ·
                 rw [if_pos c107] at H
                 have LMc107 := Aside0.mk c107
                 clear c107
                 obtain ⟨y187, hy187⟩ : ∃ y_ : List Int, y_ = (x182002_46 ++ l1_3) := ⟨_, rfl⟩
                 replace H : (if (y187.length : Int) < x182000_46 then (some (x182000_46, x182001_46, y187, false, 0)) else ((crc_Sum.f y187).bind fun t190 => (if t190 = x182001_46 then (some (x182000_46, x182001_46, y187, true, 0)) else (some (0, 0, ([] : List Int), false, 21))))) = some (r1, r2, r3, r4, r5) := by first | (rw [hy187]; with_reducible exact H) | (have H2_ := (Option.bind_some _ _).symm.trans H; rw [hy187]; with_reducible exact H2_) | (have H2_ := (Option.bind_some _ _).symm.trans H; with_reducible exact H2_) | with_reducible exact H | (rw [hy187]; exact H) | exact H
                 have Ny187 := Aside0.mk hy187
                 clear hy187
                 by_cases c108 : (y187.length : Int) < x182000_46
                 ·
                  rw [if_pos c108] at H
                  have c108b0 : decide ((y187.length : Int) < x182000_46) = true := decide_eq_true c108
                  clear c108
                  simp only [Option.some.injEq, Prod.mk.injEq] at H
                  obtain ⟨rfl, rfl, rfl, rfl, rfl⟩ := H
                  have hnb109 := NB182_181.out
                  have hnc109 := NB181_182.out
                  have hnb110 := NB182_183.out
                  have hnc110 := NB183_182.out
                  have hcz111_0 : wc.cell? ⟨gb182, 0, none⟩ = some (.int .i64 a1_0) := (blk_cell BK182.out 0).trans rfl
                  have hcz111_1 : wc.cell? ⟨gb182, 1, none⟩ = some (.int .u32 a1_1) := (blk_cell BK182.out 1).trans rfl
                  have hcz111_2 : wc.cell? ⟨gb182, 2, none⟩ = some (.int .i64 a1_2) := (blk_cell BK182.out 2).trans rfl
                  have hcz111_3 : wc.cell? ⟨gb182, 3, none⟩ = some (.slice A1_3 l1_3.length c1_3) := (blk_cell BK182.out 3).trans rfl
                  have hfz111_0 := blk_frozen BK182.out 0
                  have hfz111_1 := blk_frozen BK182.out 1
                  have hfz111_2 := blk_frozen BK182.out 2
                  have hfz111_3 := blk_frozen BK182.out 3
                  have hnb112 := NB181_183.out
                  have hnc112 := NB183_181.out
                  have hcz113_0 : wc.cell? ⟨gb181, 0, none⟩ = some (.int .i64 x182000_46) := (blk_cell BK181.out 0).trans rfl
                  have hcz113_1 : wc.cell? ⟨gb181, 1, none⟩ = some (.int .u32 x182001_46) := (blk_cell BK181.out 1).trans rfl
                  have hcz113_2 : wc.cell? ⟨gb181, 2, none⟩ = some (.slice Ao66 x182002_46.length co66) := (blk_cell BK181.out 2).trans rfl
                  have hfz113_0 := blk_frozen BK181.out 0
                  have hfz113_1 := blk_frozen BK181.out 1
                  have hfz113_2 := blk_frozen BK181.out 2
                  go_wp2_with (first | ((with_reducible refine gate_builtin (b := .append) (xs := #[.tmp 115, .tmp 117]) rfl ?_); (try (refine gate_guard (by rfl) ?_; dsimp only)); at_builtin; refine Kd.R_append_rows (Kd.int .u8) (w0 := w) w.heap.size rfl (.tmp 115) (.tmp 117) 22 5 (.int .u8 0) 1 rfl Try.underlying22 info5 rfl (by decide) (by omega) (.slice Ao66 x182002_46.length co66) x182002_46 l1_3 _ _ _ (fun _ => True) (fun _ => False) rfl rfl ?aO ?aR (fun _ _ h => h) (fun _ h => h.elim) ?aF ?aB ?aS ?aL ?_; (case aR => repeat (first | exact (Kd.C_below HR1_3.out HB.out) | (with_reducible refine Kd.C_alloc ?_ _) | (with_reducible refine Kd.C_drewN ?_ _) | (with_reducible refine Kd.C_drew ?_))); (case aB => exact (by repeat (first | (with_reducible first | exact HB.out | apply below_alloc | apply pw_below_drewN | apply below_drew1 | refine below_set ?_ GE181.out | refine below_set ?_ GE182.out | refine below_set ?_ GE183.out) | exact HB.out))); (case aF => exact (fun _ _ => trivial)); (case aO => exact (by (with_reducible repeat (first | apply Kd.R_alloc | apply Kd.R_drewN | apply Kd.R_drew)); exact HO_182002.out)); (case aS => exact (below_size (by repeat (first | (with_reducible first | exact HB.out | apply below_alloc | apply pw_below_drewN | apply below_drew1 | refine below_set ?_ GE181.out | refine below_set ?_ GE182.out | refine below_set ?_ GE183.out) | exact HB.out)))); (case aL => have := LMc107.out; omega); intro v188 w114 ho hb hg hat; rw [← Ny187.out] at ho; have n0_ := Aside0.mk (blk_grown (g := gb181) (o := .cells #[.int .i64 x182000_46, .int .u32 x182001_46, .slice Ao66 x182002_46.length co66] 45 (0, 0)) (by (with_reducible repeat (first | refine blk_drewN ?_ _ | refine blk_drew ?_ | refine blk_alloc ?_ _)); exact BK181.out) hg (Kd.R_ne HO_182002.out BK181.out (by decide))); have n1_ := Aside0.mk (blk_grown (g := gb182) (o := .cells #[.int .i64 a1_0, .int .u32 a1_1, .int .i64 a1_2, .slice A1_3 l1_3.length c1_3] 41 (0, 0)) (by (with_reducible repeat (first | refine blk_drewN ?_ _ | refine blk_drew ?_ | refine blk_alloc ?_ _)); exact BK182.out) hg (Kd.R_ne HO_182002.out BK182.out (by decide))); have n2_ := Aside0.mk (blk_grown (g := gb183) (o := .cells #[.int .i64 0, .int .u32 0, .slice none 0 0] 45 (0, 0)) (by (with_reducible repeat (first | refine blk_drewN ?_ _ | refine blk_drew ?_ | refine blk_alloc ?_ _)); exact BK183.out) hg (Kd.R_ne HO_182002.out BK183.out (by decide))); have n3_ := Aside0.mk (hb); have n4_ := Aside0.mk (ho); clear BK181; clear BK182; clear BK183; clear HB; clear HO_182002; have BK181 := n0_; have BK182 := n1_; have BK183 := n2_; have HB := n3_; have HO189 := n4_; clear n0_ n1_ n2_ n3_ n4_; clear ho hb hg hat; obtain ⟨Ao115, co115, eo115⟩ := Kd.R_slice HO189.out; subst eo115; have hcz116_0 : w114.cell? ⟨gb181, 0, none⟩ = some (.int .i64 x182000_46) := (blk_cell BK181.out 0).trans rfl; have hcz116_1 : w114.cell? ⟨gb181, 1, none⟩ = some (.int .u32 x182001_46) := (blk_cell BK181.out 1).trans rfl; have hcz116_2 : w114.cell? ⟨gb181, 2, none⟩ = some (.slice Ao66 x182002_46.length co66) := (blk_cell BK181.out 2).trans rfl; have hfz116_0 := blk_frozen BK181.out 0; have hfz116_1 := blk_frozen BK181.out 1; have hfz116_2 := blk_frozen BK181.out 2; have hcz117_0 : w114.cell? ⟨gb183, 0, none⟩ = some (.int .i64 0) := (blk_cell BK183.out 0).trans rfl; have hcz117_1 : w114.cell? ⟨gb183, 1, none⟩ = some (.int .u32 0) := (blk_cell BK183.out 1).trans rfl; have hcz117_2 : w114.cell? ⟨gb183, 2, none⟩ = some (.slice none 0 0) := (blk_cell BK183.out 2).trans rfl; have hfz117_0 := blk_frozen BK183.out 0; have hfz117_1 := blk_frozen BK183.out 1; have hfz117_2 := blk_frozen BK183.out 2))
                  refine bodyPost_ret (results_ctt rfl _ _ gb183 45 #[.int .i64 x182000_46, .int .u32 x182001_46, .slice Ao115 y187.length co115] (0, 0) _ rfl (by (with_reducible repeat (first | refine blk_drewN ?_ _ | refine blk_drew ?_ | refine blk_alloc ?_ _)); refine blk_put (cs := #[.int .i64 x182000_46, .int .u32 x182001_46, .slice none 0 0]) ?_ 2 _ rfl; (with_reducible repeat (first | refine blk_drewN ?_ _ | refine blk_drew ?_ | refine blk_alloc ?_ _)); refine blk_put (cs := #[.int .i64 x182000_46, .int .u32 0, .slice none 0 0]) ?_ 1 _ rfl; (with_reducible repeat (first | refine blk_drewN ?_ _ | refine blk_drew ?_ | refine blk_alloc ?_ _)); refine blk_put (cs := #[.int .i64 0, .int .u32 0, .slice none 0 0]) ?_ 0 _ rfl; (with_reducible repeat (first | refine blk_drewN ?_ _ | refine blk_drew ?_ | refine blk_alloc ?_ _)); refine blk_far ?_ NB183_181.out _; (with_reducible repeat (first | refine blk_drewN ?_ _ | refine blk_drew ?_ | refine blk_alloc ?_ _)); exact BK183.out) Try.underlying45 rfl (by kernel_rfl)) rfl ?_
                  exact ⟨_, by first | rfl | (simp [errW_none, errW_some] <;> rfl) | (simp [*, errW_none, errW_some] <;> rfl), by (with_reducible repeat (first | apply Kd.R_alloc | apply Kd.R_drewN | apply Kd.R_drew)); exact Kd.R_mono (Kd.R_far (p := ⟨gb183, 2, none⟩) (Kd.R_far (p := ⟨gb183, 1, none⟩) (Kd.R_far (p := ⟨gb183, 0, none⟩) (Kd.R_far (p := ⟨gb181, 2, none⟩) (Kd.R_types (Kd.R_types HO189.out BK181.out (by decide)) BK183.out (by decide)) (fun _ hk => hk.1.2) (.slice Ao115 y187.length co115)) (fun _ hk => hk.2) (.int .i64 x182000_46)) (fun _ hk => hk.2) (.int .u32 x182001_46)) (fun _ hk => hk.2) (.slice Ao115 y187.length co115)) (fun _ hk => trivial), by repeat (first | (with_reducible first | exact HB.out | apply below_alloc | apply pw_below_drewN | apply below_drew1 | refine below_set ?_ GE181.out | refine below_set ?_ GE182.out | refine below_set ?_ GE183.out) | exact HB.out)⟩
                 ·
                  rw [if_neg c108] at H
                  have c108b0 : decide ((y187.length : Int) < x182000_46) = false := decide_eq_false c108
                  clear c108
                  replace H := Option.bind_eq_some_iff.mp H
                  obtain ⟨t190, A1180, H⟩ := H
                  replace H : (if t190 = x182001_46 then (some (x182000_46, x182001_46, y187, true, 0)) else (some (0, 0, ([] : List Int), false, 21))) = some (r1, r2, r3, r4, r5) := H
                  have A118 := Aside0.mk A1180
                  clear A1180
                  by_cases c119 : t190 = x182001_46
                  ·
                   rw [if_pos c119] at H
                   have c119b0 : (t190 == x182001_46) = true := beq_iff_eq.mpr c119
                   have c119b1 : (t190 != x182001_46) = false := bne_eq_false_iff_eq.mpr c119
                   clear c119
                   simp only [Option.some.injEq, Prod.mk.injEq] at H
                   obtain ⟨rfl, rfl, rfl, rfl, rfl⟩ := H
                   have hnb120 := NB182_181.out
                   have hnc120 := NB181_182.out
                   have hnb121 := NB182_183.out
                   have hnc121 := NB183_182.out
                   have hcz122_0 : wc.cell? ⟨gb182, 0, none⟩ = some (.int .i64 a1_0) := (blk_cell BK182.out 0).trans rfl
                   have hcz122_1 : wc.cell? ⟨gb182, 1, none⟩ = some (.int .u32 a1_1) := (blk_cell BK182.out 1).trans rfl
                   have hcz122_2 : wc.cell? ⟨gb182, 2, none⟩ = some (.int .i64 a1_2) := (blk_cell BK182.out 2).trans rfl
                   have hcz122_3 : wc.cell? ⟨gb182, 3, none⟩ = some (.slice A1_3 l1_3.length c1_3) := (blk_cell BK182.out 3).trans rfl
                   have hfz122_0 := blk_frozen BK182.out 0
                   have hfz122_1 := blk_frozen BK182.out 1
                   have hfz122_2 := blk_frozen BK182.out 2
                   have hfz122_3 := blk_frozen BK182.out 3
                   have hnb123 := NB181_183.out
                   have hnc123 := NB183_181.out
                   have hcz124_0 : wc.cell? ⟨gb181, 0, none⟩ = some (.int .i64 x182000_46) := (blk_cell BK181.out 0).trans rfl
                   have hcz124_1 : wc.cell? ⟨gb181, 1, none⟩ = some (.int .u32 x182001_46) := (blk_cell BK181.out 1).trans rfl
                   have hcz124_2 : wc.cell? ⟨gb181, 2, none⟩ = some (.slice Ao66 x182002_46.length co66) := (blk_cell BK181.out 2).trans rfl
                   have hfz124_0 := blk_frozen BK181.out 0
                   have hfz124_1 := blk_frozen BK181.out 1
                   have hfz124_2 := blk_frozen BK181.out 2
                   try go_wp2_with (first | ((with_reducible refine gate_builtin (b := .append) (xs := #[.tmp 115, .tmp 117]) rfl ?_); (try (refine gate_guard (by rfl) ?_; dsimp only)); at_builtin; refine Kd.R_append_rows (Kd.int .u8) (w0 := w) w.heap.size rfl (.tmp 115) (.tmp 117) 22 5 (.int .u8 0) 1 rfl Try.underlying22 info5 rfl (by decide) (by omega) (.slice Ao66 x182002_46.length co66) x182002_46 l1_3 _ _ _ (fun _ => True) (fun _ => False) rfl rfl ?aO ?aR (fun _ _ h => h) (fun _ h => h.elim) ?aF ?aB ?aS ?aL ?_; (case aR => repeat (first | exact (Kd.C_below HR1_3.out HB.out) | (with_reducible refine Kd.C_alloc ?_ _) | (with_reducible refine Kd.C_drewN ?_ _) | (with_reducible refine Kd.C_drew ?_))); (case aB => exact (by repeat (first | (with_reducible first | exact HB.out | apply below_alloc | apply pw_below_drewN | apply below_drew1 | refine below_set ?_ GE181.out | refine below_set ?_ GE182.out | refine below_set ?_ GE183.out) | exact HB.out))); (case aF => exact (fun _ _ => trivial)); (case aO => exact (by (with_reducible repeat (first | apply Kd.R_alloc | apply Kd.R_drewN | apply Kd.R_drew)); exact HO_182002.out)); (case aS => exact (below_size (by repeat (first | (with_reducible first | exact HB.out | apply below_alloc | apply pw_below_drewN | apply below_drew1 | refine below_set ?_ GE181.out | refine below_set ?_ GE182.out | refine below_set ?_ GE183.out) | exact HB.out)))); (case aL => have := LMc107.out; omega); intro v188 w125 ho hb hg hat; rw [← Ny187.out] at ho; have n0_ := Aside0.mk (blk_grown (g := gb181) (o := .cells #[.int .i64 x182000_46, .int .u32 x182001_46, .slice Ao66 x182002_46.length co66] 45 (0, 0)) (by (with_reducible repeat (first | refine blk_drewN ?_ _ | refine blk_drew ?_ | refine blk_alloc ?_ _)); exact BK181.out) hg (Kd.R_ne HO_182002.out BK181.out (by decide))); have n1_ := Aside0.mk (blk_grown (g := gb182) (o := .cells #[.int .i64 a1_0, .int .u32 a1_1, .int .i64 a1_2, .slice A1_3 l1_3.length c1_3] 41 (0, 0)) (by (with_reducible repeat (first | refine blk_drewN ?_ _ | refine blk_drew ?_ | refine blk_alloc ?_ _)); exact BK182.out) hg (Kd.R_ne HO_182002.out BK182.out (by decide))); have n2_ := Aside0.mk (blk_grown (g := gb183) (o := .cells #[.int .i64 0, .int .u32 0, .slice none 0 0] 45 (0, 0)) (by (with_reducible repeat (first | refine blk_drewN ?_ _ | refine blk_drew ?_ | refine blk_alloc ?_ _)); exact BK183.out) hg (Kd.R_ne HO_182002.out BK183.out (by decide))); have n3_ := Aside0.mk (hb); have n4_ := Aside0.mk (ho); clear BK181; clear BK182; clear BK183; clear HB; clear HO_182002; have BK181 := n0_; have BK182 := n1_; have BK183 := n2_; have HB := n3_; have HO189 := n4_; clear n0_ n1_ n2_ n3_ n4_; clear ho hb hg hat; obtain ⟨Ao126, co126, eo126⟩ := Kd.R_slice HO189.out; subst eo126; have hcz127_0 : w125.cell? ⟨gb181, 0, none⟩ = some (.int .i64 x182000_46) := (blk_cell BK181.out 0).trans rfl; have hcz127_1 : w125.cell? ⟨gb181, 1, none⟩ = some (.int .u32 x182001_46) := (blk_cell BK181.out 1).trans rfl; have hcz127_2 : w125.cell? ⟨gb181, 2, none⟩ = some (.slice Ao66 x182002_46.length co66) := (blk_cell BK181.out 2).trans rfl; have hfz127_0 := blk_frozen BK181.out 0; have hfz127_1 := blk_frozen BK181.out 1; have hfz127_2 := blk_frozen BK181.out 2))
                   have n0_ : Aside0 (Kd.R (Kd.int .u8) 5 (w125.setCell ⟨gb181, 2, none⟩ (.slice Ao126 y187.length co126)) w.heap.size (fun _ => True) (.slice Ao126 y187.length co126) y187) := ⟨by (with_reducible repeat (first | apply Kd.R_alloc | apply Kd.R_drewN | apply Kd.R_drew)); exact Kd.R_mono (Kd.R_far (p := ⟨gb181, 2, none⟩) (Kd.R_types HO189.out BK181.out (by decide)) (fun _ hk => hk.2) (.slice Ao126 y187.length co126)) (fun _ hk => trivial)⟩
                   have n1_ : Aside0 ((w125.setCell ⟨gb181, 2, none⟩ (.slice Ao126 y187.length co126)).heap[gb181]? = some (.cells #[.int .i64 x182000_46, .int .u32 x182001_46, .slice Ao126 y187.length co126] 45 (0, 0))) := ⟨by (with_reducible repeat (first | refine blk_drewN ?_ _ | refine blk_drew ?_ | refine blk_alloc ?_ _)); refine blk_put (cs := #[.int .i64 x182000_46, .int .u32 x182001_46, .slice Ao66 x182002_46.length co66]) ?_ 2 _ rfl; (with_reducible repeat (first | refine blk_drewN ?_ _ | refine blk_drew ?_ | refine blk_alloc ?_ _)); exact BK181.out⟩
                   have n2_ : Aside0 ((w125.setCell ⟨gb181, 2, none⟩ (.slice Ao126 y187.length co126)).heap[gb182]? = some (.cells #[.int .i64 a1_0, .int .u32 a1_1, .int .i64 a1_2, .slice A1_3 l1_3.length c1_3] 41 (0, 0))) := ⟨by (with_reducible repeat (first | refine blk_drewN ?_ _ | refine blk_drew ?_ | refine blk_alloc ?_ _)); refine blk_far ?_ NB182_181.out _; (with_reducible repeat (first | refine blk_drewN ?_ _ | refine blk_drew ?_ | refine blk_alloc ?_ _)); exact BK182.out⟩
                   have n3_ : Aside0 ((w125.setCell ⟨gb181, 2, none⟩ (.slice Ao126 y187.length co126)).heap[gb183]? = some (.cells #[.int .i64 0, .int .u32 0, .slice none 0 0] 45 (0, 0))) := ⟨by (with_reducible repeat (first | refine blk_drewN ?_ _ | refine blk_drew ?_ | refine blk_alloc ?_ _)); refine blk_far ?_ NB183_181.out _; (with_reducible repeat (first | refine blk_drewN ?_ _ | refine blk_drew ?_ | refine blk_alloc ?_ _)); exact BK183.out⟩
                   have n4_ : Aside0 (Below w.heap.size w (w125.setCell ⟨gb181, 2, none⟩ (.slice Ao126 y187.length co126))) := ⟨by repeat (first | (with_reducible first | exact HB.out | apply below_alloc | apply pw_below_drewN | apply below_drew1 | refine below_set ?_ GE181.out | refine below_set ?_ GE182.out | refine below_set ?_ GE183.out) | exact HB.out)⟩
                   (try clear HO189)
                   (try clear BK181)
                   (try clear BK182)
                   (try clear BK183)
                   (try clear HB)
                   generalize (w125.setCell ⟨gb181, 2, none⟩ (.slice Ao126 y187.length co126)) = w128 at n0_ n1_ n2_ n3_ n4_ ⊢
                   have HO189 := n0_
                   have BK181 := n1_
                   have BK182 := n2_
                   have BK183 := n3_
                   have HB := n4_
                   clear n0_ n1_ n2_ n3_ n4_
                   have n0_ := Aside0.mk (Kd.R_drew HO189.out)
                   have n1_ := Aside0.mk (blk_drew BK181.out)
                   have n2_ := Aside0.mk (blk_drew BK182.out)
                   have n3_ := Aside0.mk (blk_drew BK183.out)
                   have n4_ := Aside0.mk (below_drew1 HB.out)
                   clear HO189
                   clear BK181
                   clear BK182
                   clear BK183
                   clear HB
                   have HO189 := n0_
                   have BK181 := n1_
                   have BK182 := n2_
                   have BK183 := n3_
                   have HB := n4_
                   clear n0_ n1_ n2_ n3_ n4_
                   refine start_ (n := 6) (S := fun w' => w'.cell? ⟨gb181, 0, none⟩ = some (.int .i64 x182000_46) ∧ w'.cell? ⟨gb181, 1, none⟩ = some (.int .u32 x182001_46) ∧ w'.cell? ⟨gb181, 2, none⟩ = some (.slice Ao126 y187.length co126)) (ds := []) #[false, false, false, false, false, false] (by kernel_rfl) rfl rfl ⟨(blk_cell BK181.out 0).trans rfl, (blk_cell BK181.out 1).trans rfl, (blk_cell BK181.out 2).trans rfl⟩ (fun hHeld => ?_)
                   generalize w128.drew = w129 at HO189 BK181 BK182 BK183 HB hHeld ⊢
                   refine pure_ (i := 0) (N := some 127) (v := ?_) (a' := ?_) #[true, false, false, false, false, false] rfl rfl (by kernel_rfl) (fun _ _ _ h => h) (Or.inl ⟨by rfl, ?_⟩) ?_ ?_
                   rotate_left
                   ·
                    intro w'
                    go_simp
                    with_reducible rfl
                   rotate_left
                   ·
                    simp only [Act.put, List.setIfInBounds_toArray, List.set_cons_zero, List.set_cons_succ, i64_w, i32_w]
                    rfl
                   refine pure_ (i := 3) (N := some 130) (v := ?_) (a' := ?_) #[true, false, false, true, false, false] rfl rfl (by kernel_rfl) (fun _ _ _ h => h) (Or.inl ⟨by rfl, ?_⟩) ?_ ?_
                   rotate_left
                   ·
                    intro w'
                    go_simp
                    with_reducible rfl
                   rotate_left
                   ·
                    simp only [Act.put, List.setIfInBounds_toArray, List.set_cons_zero, List.set_cons_succ, i64_w, i32_w]
                    rfl
                   refine take_ (i := 1) (N := some 128) (v := ?_) (a' := ?_) #[true, true, false, true, false, false] rfl rfl (by kernel_rfl) (fun _ _ _ h => h) (Or.inl ⟨by rfl, ?_⟩) hHeld ?_ ?_
                   rotate_left
                   ·
                    rintro w' ⟨s0, s1, s2⟩
                    go_simp
                    with_reducible rfl
                   rotate_left
                   ·
                    simp only [Act.put, List.setIfInBounds_toArray, List.set_cons_zero, List.set_cons_succ, i64_w, i32_w]
                    rfl
                   refine take_ (i := 4) (N := some 131) (v := ?_) (a' := ?_) #[true, true, false, true, true, false] rfl rfl (by kernel_rfl) (fun _ _ _ h => h) (Or.inl ⟨by rfl, ?_⟩) hHeld ?_ ?_
                   rotate_left
                   ·
                    rintro w' ⟨s0, s1, s2⟩
                    go_simp
                    with_reducible rfl
                   rotate_left
                   ·
                    simp only [Act.put, List.setIfInBounds_toArray, List.set_cons_zero, List.set_cons_succ, i64_w, i32_w]
                    rfl
                   refine one_ (i := 2) (N := some 129) #[true, true, true, true, true, false] rfl rfl (by kernel_rfl) (by decide) (fun K hK => ?_)
                   refine goes_ Try.func10 (by kernel_rfl) rfl #[.slice Ao126 y187.length co126] (by rfl) rfl rfl (by (try simp only [List.map_toArray, List.map_cons, List.map_nil]); first | done | rfl | (simp only [List.length_drop, List.length_take]; rfl)) ?_
                   with_reducible refine (crc_Sum.calls _ _ y187 t190 _ ?side1 ?side2 A118.out).mono ?_
                   (case side1 => repeat (first | exact (Kd.R_reads' HO189.out).2.2 | (with_reducible refine Kd.C_alloc ?_ _) | (with_reducible refine Kd.C_drewN ?_ _) | (with_reducible refine Kd.C_drew ?_)))
                   (case side2 => exact (Kd.R_reads' HO189.out).2.1)
                   rintro e w130 ⟨rfl, hb⟩
                   refine ⟨_, rfl, ?_⟩
                   have n0_ := Aside0.mk (Kd.R_below (by (with_reducible repeat (first | apply Kd.R_alloc | apply Kd.R_drewN | apply Kd.R_drew)); exact HO189.out) hb)
                   have n1_ := Aside0.mk (blk_below (g := gb181) (o := .cells #[.int .i64 x182000_46, .int .u32 x182001_46, .slice Ao126 y187.length co126] 45 (0, 0)) (by (with_reducible repeat (first | refine blk_drewN ?_ _ | refine blk_drew ?_ | refine blk_alloc ?_ _)); exact BK181.out) hb)
                   have n2_ := Aside0.mk (blk_below (g := gb182) (o := .cells #[.int .i64 a1_0, .int .u32 a1_1, .int .i64 a1_2, .slice A1_3 l1_3.length c1_3] 41 (0, 0)) (by (with_reducible repeat (first | refine blk_drewN ?_ _ | refine blk_drew ?_ | refine blk_alloc ?_ _)); exact BK182.out) hb)
                   have n3_ := Aside0.mk (blk_below (g := gb183) (o := .cells #[.int .i64 0, .int .u32 0, .slice none 0 0] 45 (0, 0)) (by (with_reducible repeat (first | refine blk_drewN ?_ _ | refine blk_drew ?_ | refine blk_alloc ?_ _)); exact BK183.out) hb)
                   have n4_ := Aside0.mk (below_step (by repeat (first | (with_reducible first | exact HB.out | apply below_alloc | apply pw_below_drewN | apply below_drew1 | refine below_set ?_ GE181.out | refine below_set ?_ GE182.out | refine below_set ?_ GE183.out) | exact HB.out)) hb)
                   clear HO189
                   clear BK181
                   clear BK182
                   clear BK183
                   clear HB
                   have HO189 := n0_
                   have BK181 := n1_
                   have BK182 := n2_
                   have BK183 := n3_
                   have HB := n4_
                   clear n0_ n1_ n2_ n3_ n4_
                   (try clear hb)
                   (try clear hb2)
                   (try clear hk)
                   (try clear hi)
                   refine hK.out _ _ ⟨(blk_cell BK181.out 0).trans rfl, (blk_cell BK181.out 1).trans rfl, (blk_cell BK181.out 2).trans rfl⟩ (fun hHeld => ?_)
                   clear hK K
                   refine norm_ (a' := ?_) ?_ ?_
                   rotate_left
                   ·
                    show Act.put _ (some 129) _ = _
                    simp only [Act.put, List.setIfInBounds_toArray, List.set_cons_zero, List.set_cons_succ, i64_w, i32_w]
                    rfl
                   refine pure_ (i := 5) (N := some 132) (v := ?_) (a' := ?_) #[true, true, true, true, true, true] rfl rfl (by kernel_rfl) (fun _ _ _ h => h) (Or.inl ⟨by rfl, ?_⟩) ?_ ?_
                   rotate_left
                   ·
                    intro w'
                    go_simp
                    with_reducible rfl
                   rotate_left
                   ·
                    simp only [Act.put, List.setIfInBounds_toArray, List.set_cons_zero, List.set_cons_succ, i64_w, i32_w]
                    rfl
                   refine done_ (by kernel_rfl) ?_
                   have hcz131_0 : w130.cell? ⟨gb181, 0, none⟩ = some (.int .i64 x182000_46) := (blk_cell BK181.out 0).trans rfl
                   have hcz131_1 : w130.cell? ⟨gb181, 1, none⟩ = some (.int .u32 x182001_46) := (blk_cell BK181.out 1).trans rfl
                   have hcz131_2 : w130.cell? ⟨gb181, 2, none⟩ = some (.slice Ao126 y187.length co126) := (blk_cell BK181.out 2).trans rfl
                   have hfz131_0 := blk_frozen BK181.out 0
                   have hfz131_1 := blk_frozen BK181.out 1
                   have hfz131_2 := blk_frozen BK181.out 2
                   have hcz132_0 : w130.cell? ⟨gb183, 0, none⟩ = some (.int .i64 0) := (blk_cell BK183.out 0).trans rfl
                   have hcz132_1 : w130.cell? ⟨gb183, 1, none⟩ = some (.int .u32 0) := (blk_cell BK183.out 1).trans rfl
                   have hcz132_2 : w130.cell? ⟨gb183, 2, none⟩ = some (.slice none 0 0) := (blk_cell BK183.out 2).trans rfl
                   have hfz132_0 := blk_frozen BK183.out 0
                   have hfz132_1 := blk_frozen BK183.out 1
                   have hfz132_2 := blk_frozen BK183.out 2
                   try go_wp2
                   refine bodyPost_ret (results_ctt rfl _ _ gb183 45 #[.int .i64 x182000_46, .int .u32 x182001_46, .slice Ao126 y187.length co126] (0, 0) _ rfl (by (with_reducible repeat (first | refine blk_drewN ?_ _ | refine blk_drew ?_ | refine blk_alloc ?_ _)); refine blk_put (cs := #[.int .i64 x182000_46, .int .u32 x182001_46, .slice none 0 0]) ?_ 2 _ rfl; (with_reducible repeat (first | refine blk_drewN ?_ _ | refine blk_drew ?_ | refine blk_alloc ?_ _)); refine blk_put (cs := #[.int .i64 x182000_46, .int .u32 0, .slice none 0 0]) ?_ 1 _ rfl; (with_reducible repeat (first | refine blk_drewN ?_ _ | refine blk_drew ?_ | refine blk_alloc ?_ _)); refine blk_put (cs := #[.int .i64 0, .int .u32 0, .slice none 0 0]) ?_ 0 _ rfl; (with_reducible repeat (first | refine blk_drewN ?_ _ | refine blk_drew ?_ | refine blk_alloc ?_ _)); exact BK183.out) Try.underlying45 rfl (by kernel_rfl)) rfl ?_
                   exact ⟨_, by first | rfl | (simp [errW_none, errW_some] <;> rfl) | (simp [*, errW_none, errW_some] <;> rfl), by (with_reducible repeat (first | apply Kd.R_alloc | apply Kd.R_drewN | apply Kd.R_drew)); exact Kd.R_mono (Kd.R_far (p := ⟨gb183, 2, none⟩) (Kd.R_far (p := ⟨gb183, 1, none⟩) (Kd.R_far (p := ⟨gb183, 0, none⟩) (Kd.R_types HO189.out BK183.out (by decide)) (fun _ hk => hk.2) (.int .i64 x182000_46)) (fun _ hk => hk.2) (.int .u32 x182001_46)) (fun _ hk => hk.2) (.slice Ao126 y187.length co126)) (fun _ hk => trivial), by repeat (first | (with_reducible first | exact HB.out | apply below_alloc | apply pw_below_drewN | apply below_drew1 | refine below_set ?_ GE181.out | refine below_set ?_ GE182.out | refine below_set ?_ GE183.out) | exact HB.out)⟩
                  ·
                   rw [if_neg c119] at H
                   have c119b0 : (t190 == x182001_46) = false := beq_eq_false_iff_ne.mpr c119
                   have c119b1 : (t190 != x182001_46) = true := bne_iff_ne.mpr c119
                   simp only [Option.some.injEq, Prod.mk.injEq] at H
                   obtain ⟨rfl, rfl, rfl, rfl, rfl⟩ := H
                   have hnb133 := NB182_181.out
                   have hnc133 := NB181_182.out
                   have hnb134 := NB182_183.out
                   have hnc134 := NB183_182.out
                   have hcz135_0 : wc.cell? ⟨gb182, 0, none⟩ = some (.int .i64 a1_0) := (blk_cell BK182.out 0).trans rfl
                   have hcz135_1 : wc.cell? ⟨gb182, 1, none⟩ = some (.int .u32 a1_1) := (blk_cell BK182.out 1).trans rfl
                   have hcz135_2 : wc.cell? ⟨gb182, 2, none⟩ = some (.int .i64 a1_2) := (blk_cell BK182.out 2).trans rfl
                   have hcz135_3 : wc.cell? ⟨gb182, 3, none⟩ = some (.slice A1_3 l1_3.length c1_3) := (blk_cell BK182.out 3).trans rfl
                   have hfz135_0 := blk_frozen BK182.out 0
                   have hfz135_1 := blk_frozen BK182.out 1
                   have hfz135_2 := blk_frozen BK182.out 2
                   have hfz135_3 := blk_frozen BK182.out 3
                   have hnb136 := NB181_183.out
                   have hnc136 := NB183_181.out
                   have hcz137_0 : wc.cell? ⟨gb181, 0, none⟩ = some (.int .i64 x182000_46) := (blk_cell BK181.out 0).trans rfl
                   have hcz137_1 : wc.cell? ⟨gb181, 1, none⟩ = some (.int .u32 x182001_46) := (blk_cell BK181.out 1).trans rfl
                   have hcz137_2 : wc.cell? ⟨gb181, 2, none⟩ = some (.slice Ao66 x182002_46.length co66) := (blk_cell BK181.out 2).trans rfl
                   have hfz137_0 := blk_frozen BK181.out 0
                   have hfz137_1 := blk_frozen BK181.out 1
                   have hfz137_2 := blk_frozen BK181.out 2
                   try go_wp2_with (first | ((with_reducible refine gate_builtin (b := .append) (xs := #[.tmp 115, .tmp 117]) rfl ?_); (try (refine gate_guard (by rfl) ?_; dsimp only)); at_builtin; refine Kd.R_append_rows (Kd.int .u8) (w0 := w) w.heap.size rfl (.tmp 115) (.tmp 117) 22 5 (.int .u8 0) 1 rfl Try.underlying22 info5 rfl (by decide) (by omega) (.slice Ao66 x182002_46.length co66) x182002_46 l1_3 _ _ _ (fun _ => True) (fun _ => False) rfl rfl ?aO ?aR (fun _ _ h => h) (fun _ h => h.elim) ?aF ?aB ?aS ?aL ?_; (case aR => repeat (first | exact (Kd.C_below HR1_3.out HB.out) | (with_reducible refine Kd.C_alloc ?_ _) | (with_reducible refine Kd.C_drewN ?_ _) | (with_reducible refine Kd.C_drew ?_))); (case aB => exact (by repeat (first | (with_reducible first | exact HB.out | apply below_alloc | apply pw_below_drewN | apply below_drew1 | refine below_set ?_ GE181.out | refine below_set ?_ GE182.out | refine below_set ?_ GE183.out) | exact HB.out))); (case aF => exact (fun _ _ => trivial)); (case aO => exact (by (with_reducible repeat (first | apply Kd.R_alloc | apply Kd.R_drewN | apply Kd.R_drew)); exact HO_182002.out)); (case aS => exact (below_size (by repeat (first | (with_reducible first | exact HB.out | apply below_alloc | apply pw_below_drewN | apply below_drew1 | refine below_set ?_ GE181.out | refine below_set ?_ GE182.out | refine below_set ?_ GE183.out) | exact HB.out)))); (case aL => have := LMc107.out; omega); intro v188 w138 ho hb hg hat; rw [← Ny187.out] at ho; have n0_ := Aside0.mk (blk_grown (g := gb181) (o := .cells #[.int .i64 x182000_46, .int .u32 x182001_46, .slice Ao66 x182002_46.length co66] 45 (0, 0)) (by (with_reducible repeat (first | refine blk_drewN ?_ _ | refine blk_drew ?_ | refine blk_alloc ?_ _)); exact BK181.out) hg (Kd.R_ne HO_182002.out BK181.out (by decide))); have n1_ := Aside0.mk (blk_grown (g := gb182) (o := .cells #[.int .i64 a1_0, .int .u32 a1_1, .int .i64 a1_2, .slice A1_3 l1_3.length c1_3] 41 (0, 0)) (by (with_reducible repeat (first | refine blk_drewN ?_ _ | refine blk_drew ?_ | refine blk_alloc ?_ _)); exact BK182.out) hg (Kd.R_ne HO_182002.out BK182.out (by decide))); have n2_ := Aside0.mk (blk_grown (g := gb183) (o := .cells #[.int .i64 0, .int .u32 0, .slice none 0 0] 45 (0, 0)) (by (with_reducible repeat (first | refine blk_drewN ?_ _ | refine blk_drew ?_ | refine blk_alloc ?_ _)); exact BK183.out) hg (Kd.R_ne HO_182002.out BK183.out (by decide))); have n3_ := Aside0.mk (hb); have n4_ := Aside0.mk (ho); clear BK181; clear BK182; clear BK183; clear HB; clear HO_182002; have BK181 := n0_; have BK182 := n1_; have BK183 := n2_; have HB := n3_; have HO189 := n4_; clear n0_ n1_ n2_ n3_ n4_; clear ho hb hg hat; obtain ⟨Ao139, co139, eo139⟩ := Kd.R_slice HO189.out; subst eo139; have hcz140_0 : w138.cell? ⟨gb181, 0, none⟩ = some (.int .i64 x182000_46) := (blk_cell BK181.out 0).trans rfl; have hcz140_1 : w138.cell? ⟨gb181, 1, none⟩ = some (.int .u32 x182001_46) := (blk_cell BK181.out 1).trans rfl; have hcz140_2 : w138.cell? ⟨gb181, 2, none⟩ = some (.slice Ao66 x182002_46.length co66) := (blk_cell BK181.out 2).trans rfl; have hfz140_0 := blk_frozen BK181.out 0; have hfz140_1 := blk_frozen BK181.out 1; have hfz140_2 := blk_frozen BK181.out 2))
                   have n0_ : Aside0 (Kd.R (Kd.int .u8) 5 (w138.setCell ⟨gb181, 2, none⟩ (.slice Ao139 y187.length co139)) w.heap.size (fun _ => True) (.slice Ao139 y187.length co139) y187) := ⟨by (with_reducible repeat (first | apply Kd.R_alloc | apply Kd.R_drewN | apply Kd.R_drew)); exact Kd.R_mono (Kd.R_far (p := ⟨gb181, 2, none⟩) (Kd.R_types HO189.out BK181.out (by decide)) (fun _ hk => hk.2) (.slice Ao139 y187.length co139)) (fun _ hk => trivial)⟩
                   have n1_ : Aside0 ((w138.setCell ⟨gb181, 2, none⟩ (.slice Ao139 y187.length co139)).heap[gb181]? = some (.cells #[.int .i64 x182000_46, .int .u32 x182001_46, .slice Ao139 y187.length co139] 45 (0, 0))) := ⟨by (with_reducible repeat (first | refine blk_drewN ?_ _ | refine blk_drew ?_ | refine blk_alloc ?_ _)); refine blk_put (cs := #[.int .i64 x182000_46, .int .u32 x182001_46, .slice Ao66 x182002_46.length co66]) ?_ 2 _ rfl; (with_reducible repeat (first | refine blk_drewN ?_ _ | refine blk_drew ?_ | refine blk_alloc ?_ _)); exact BK181.out⟩
                   have n2_ : Aside0 ((w138.setCell ⟨gb181, 2, none⟩ (.slice Ao139 y187.length co139)).heap[gb182]? = some (.cells #[.int .i64 a1_0, .int .u32 a1_1, .int .i64 a1_2, .slice A1_3 l1_3.length c1_3] 41 (0, 0))) := ⟨by (with_reducible repeat (first | refine blk_drewN ?_ _ | refine blk_drew ?_ | refine blk_alloc ?_ _)); refine blk_far ?_ NB182_181.out _; (with_reducible repeat (first | refine blk_drewN ?_ _ | refine blk_drew ?_ | refine blk_alloc ?_ _)); exact BK182.out⟩
                   have n3_ : Aside0 ((w138.setCell ⟨gb181, 2, none⟩ (.slice Ao139 y187.length co139)).heap[gb183]? = some (.cells #[.int .i64 0, .int .u32 0, .slice none 0 0] 45 (0, 0))) := ⟨by (with_reducible repeat (first | refine blk_drewN ?_ _ | refine blk_drew ?_ | refine blk_alloc ?_ _)); refine blk_far ?_ NB183_181.out _; (with_reducible repeat (first | refine blk_drewN ?_ _ | refine blk_drew ?_ | refine blk_alloc ?_ _)); exact BK183.out⟩
                   have n4_ : Aside0 (Below w.heap.size w (w138.setCell ⟨gb181, 2, none⟩ (.slice Ao139 y187.length co139))) := ⟨by repeat (first | (with_reducible first | exact HB.out | apply below_alloc | apply pw_below_drewN | apply below_drew1 | refine below_set ?_ GE181.out | refine below_set ?_ GE182.out | refine below_set ?_ GE183.out) | exact HB.out)⟩
                   (try clear HO189)
                   (try clear BK181)
                   (try clear BK182)
                   (try clear BK183)
                   (try clear HB)
                   generalize (w138.setCell ⟨gb181, 2, none⟩ (.slice Ao139 y187.length co139)) = w141 at n0_ n1_ n2_ n3_ n4_ ⊢
                   have HO189 := n0_
                   have BK181 := n1_
                   have BK182 := n2_
                   have BK183 := n3_
                   have HB := n4_
                   clear n0_ n1_ n2_ n3_ n4_
                   have n0_ := Aside0.mk (Kd.R_drew HO189.out)
                   have n1_ := Aside0.mk (blk_drew BK181.out)
                   have n2_ := Aside0.mk (blk_drew BK182.out)
                   have n3_ := Aside0.mk (blk_drew BK183.out)
                   have n4_ := Aside0.mk (below_drew1 HB.out)
                   clear HO189
                   clear BK181
                   clear BK182
                   clear BK183
                   clear HB
                   have HO189 := n0_
                   have BK181 := n1_
                   have BK182 := n2_
                   have BK183 := n3_
                   have HB := n4_
                   clear n0_ n1_ n2_ n3_ n4_
                   refine start_ (n := 6) (S := fun w' => w'.cell? ⟨gb181, 0, none⟩ = some (.int .i64 x182000_46) ∧ w'.cell? ⟨gb181, 1, none⟩ = some (.int .u32 x182001_46) ∧ w'.cell? ⟨gb181, 2, none⟩ = some (.slice Ao139 y187.length co139)) (ds := []) #[false, false, false, false, false, false] (by kernel_rfl) rfl rfl ⟨(blk_cell BK181.out 0).trans rfl, (blk_cell BK181.out 1).trans rfl, (blk_cell BK181.out 2).trans rfl⟩ (fun hHeld => ?_)
                   generalize w141.drew = w142 at HO189 BK181 BK182 BK183 HB hHeld ⊢
                   refine pure_ (i := 0) (N := some 127) (v := ?_) (a' := ?_) #[true, false, false, false, false, false] rfl rfl (by kernel_rfl) (fun _ _ _ h => h) (Or.inl ⟨by rfl, ?_⟩) ?_ ?_
                   rotate_left
                   ·
                    intro w'
                    go_simp
                    with_reducible rfl
                   rotate_left
                   ·
                    simp only [Act.put, List.setIfInBounds_toArray, List.set_cons_zero, List.set_cons_succ, i64_w, i32_w]
                    rfl
                   refine pure_ (i := 3) (N := some 130) (v := ?_) (a' := ?_) #[true, false, false, true, false, false] rfl rfl (by kernel_rfl) (fun _ _ _ h => h) (Or.inl ⟨by rfl, ?_⟩) ?_ ?_
                   rotate_left
                   ·
                    intro w'
                    go_simp
                    with_reducible rfl
                   rotate_left
                   ·
                    simp only [Act.put, List.setIfInBounds_toArray, List.set_cons_zero, List.set_cons_succ, i64_w, i32_w]
                    rfl
                   refine take_ (i := 1) (N := some 128) (v := ?_) (a' := ?_) #[true, true, false, true, false, false] rfl rfl (by kernel_rfl) (fun _ _ _ h => h) (Or.inl ⟨by rfl, ?_⟩) hHeld ?_ ?_
                   rotate_left
                   ·
                    rintro w' ⟨s0, s1, s2⟩
                    go_simp
                    with_reducible rfl
                   rotate_left
                   ·
                    simp only [Act.put, List.setIfInBounds_toArray, List.set_cons_zero, List.set_cons_succ, i64_w, i32_w]
                    rfl
                   refine take_ (i := 4) (N := some 131) (v := ?_) (a' := ?_) #[true, true, false, true, true, false] rfl rfl (by kernel_rfl) (fun _ _ _ h => h) (Or.inl ⟨by rfl, ?_⟩) hHeld ?_ ?_
                   rotate_left
                   ·
                    rintro w' ⟨s0, s1, s2⟩
                    go_simp
                    with_reducible rfl
                   rotate_left
                   ·
                    simp only [Act.put, List.setIfInBounds_toArray, List.set_cons_zero, List.set_cons_succ, i64_w, i32_w]
                    rfl
                   refine one_ (i := 2) (N := some 129) #[true, true, true, true, true, false] rfl rfl (by kernel_rfl) (by decide) (fun K hK => ?_)
                   refine goes_ Try.func10 (by kernel_rfl) rfl #[.slice Ao139 y187.length co139] (by rfl) rfl rfl (by (try simp only [List.map_toArray, List.map_cons, List.map_nil]); first | done | rfl | (simp only [List.length_drop, List.length_take]; rfl)) ?_
                   with_reducible refine (crc_Sum.calls _ _ y187 t190 _ ?side1 ?side2 A118.out).mono ?_
                   (case side1 => repeat (first | exact (Kd.R_reads' HO189.out).2.2 | (with_reducible refine Kd.C_alloc ?_ _) | (with_reducible refine Kd.C_drewN ?_ _) | (with_reducible refine Kd.C_drew ?_)))
                   (case side2 => exact (Kd.R_reads' HO189.out).2.1)
                   rintro e w143 ⟨rfl, hb⟩
                   refine ⟨_, rfl, ?_⟩
                   have n0_ := Aside0.mk (Kd.R_below (by (with_reducible repeat (first | apply Kd.R_alloc | apply Kd.R_drewN | apply Kd.R_drew)); exact HO189.out) hb)
                   have n1_ := Aside0.mk (blk_below (g := gb181) (o := .cells #[.int .i64 x182000_46, .int .u32 x182001_46, .slice Ao139 y187.length co139] 45 (0, 0)) (by (with_reducible repeat (first | refine blk_drewN ?_ _ | refine blk_drew ?_ | refine blk_alloc ?_ _)); exact BK181.out) hb)
                   have n2_ := Aside0.mk (blk_below (g := gb182) (o := .cells #[.int .i64 a1_0, .int .u32 a1_1, .int .i64 a1_2, .slice A1_3 l1_3.length c1_3] 41 (0, 0)) (by (with_reducible repeat (first | refine blk_drewN ?_ _ | refine blk_drew ?_ | refine blk_alloc ?_ _)); exact BK182.out) hb)
                   have n3_ := Aside0.mk (blk_below (g := gb183) (o := .cells #[.int .i64 0, .int .u32 0, .slice none 0 0] 45 (0, 0)) (by (with_reducible repeat (first | refine blk_drewN ?_ _ | refine blk_drew ?_ | refine blk_alloc ?_ _)); exact BK183.out) hb)
                   have n4_ := Aside0.mk (below_step (by repeat (first | (with_reducible first | exact HB.out | apply below_alloc | apply pw_below_drewN | apply below_drew1 | refine below_set ?_ GE181.out | refine below_set ?_ GE182.out | refine below_set ?_ GE183.out) | exact HB.out)) hb)
                   clear HO189
                   clear BK181
                   clear BK182
                   clear BK183
                   clear HB
                   have HO189 := n0_
                   have BK181 := n1_
                   have BK182 := n2_
                   have BK183 := n3_
                   have HB := n4_
                   clear n0_ n1_ n2_ n3_ n4_
                   (try clear hb)
                   (try clear hb2)
                   (try clear hk)
                   (try clear hi)
                   refine hK.out _ _ ⟨(blk_cell BK181.out 0).trans rfl, (blk_cell BK181.out 1).trans rfl, (blk_cell BK181.out 2).trans rfl⟩ (fun hHeld => ?_)
                   clear hK K
                   refine norm_ (a' := ?_) ?_ ?_
                   rotate_left
                   ·
                    show Act.put _ (some 129) _ = _
                    simp only [Act.put, List.setIfInBounds_toArray, List.set_cons_zero, List.set_cons_succ, i64_w, i32_w]
                    rfl
                   refine pure_ (i := 5) (N := some 132) (v := ?_) (a' := ?_) #[true, true, true, true, true, true] rfl rfl (by kernel_rfl) (fun _ _ _ h => h) (Or.inl ⟨by rfl, ?_⟩) ?_ ?_
                   rotate_left
                   ·
                    intro w'
                    go_simp
                    with_reducible rfl
                   rotate_left
                   ·
                    simp only [Act.put, List.setIfInBounds_toArray, List.set_cons_zero, List.set_cons_succ, i64_w, i32_w]
                    rfl
                   refine done_ (by kernel_rfl) ?_
                   have hcz144_0 : w143.cell? ⟨gb183, 0, none⟩ = some (.int .i64 0) := (blk_cell BK183.out 0).trans rfl
                   have hcz144_1 : w143.cell? ⟨gb183, 1, none⟩ = some (.int .u32 0) := (blk_cell BK183.out 1).trans rfl
                   have hcz144_2 : w143.cell? ⟨gb183, 2, none⟩ = some (.slice none 0 0) := (blk_cell BK183.out 2).trans rfl
                   have hfz144_0 := blk_frozen BK183.out 0
                   have hfz144_1 := blk_frozen BK183.out 1
                   have hfz144_2 := blk_frozen BK183.out 2
                   try go_wp2
                   refine bodyPost_ret (results_ctt rfl _ _ gb183 45 #[.int .i64 0, .int .u32 0, .slice none 0 0] (0, 0) _ rfl (by (with_reducible repeat (first | refine blk_drewN ?_ _ | refine blk_drew ?_ | refine blk_alloc ?_ _)); refine blk_put (cs := #[.int .i64 0, .int .u32 0, .slice none 0 0]) ?_ 2 _ rfl; (with_reducible repeat (first | refine blk_drewN ?_ _ | refine blk_drew ?_ | refine blk_alloc ?_ _)); refine blk_put (cs := #[.int .i64 0, .int .u32 0, .slice none 0 0]) ?_ 1 _ rfl; (with_reducible repeat (first | refine blk_drewN ?_ _ | refine blk_drew ?_ | refine blk_alloc ?_ _)); refine blk_put (cs := #[.int .i64 0, .int .u32 0, .slice none 0 0]) ?_ 0 _ rfl; (with_reducible repeat (first | refine blk_drewN ?_ _ | refine blk_drew ?_ | refine blk_alloc ?_ _)); exact BK183.out) Try.underlying45 rfl (by kernel_rfl)) rfl ?_
                   exact ⟨_, by first | rfl | (simp [errW_none, errW_some] <;> rfl) | (simp [*, errW_none, errW_some] <;> rfl), by first | exact Kd.R_nil _ _ _ _ _ | exact Kd.N_nil _ _ _ _ _ | exact Kd.V_nil _ _ _ _ _ | exact Kd.Q_nil _ _ _ _ _ | exact Kd.S_nil _ _ _ _ _, by repeat (first | (with_reducible first | exact HB.out | apply below_alloc | apply pw_below_drewN | apply below_drew1 | refine below_set ?_ GE181.out | refine below_set ?_ GE182.out | refine below_set ?_ GE183.out) | exact HB.out)⟩
                ·
                 rw [if_neg c107] at H
                 exact absurd H (by simp)

end Go.Proofs.Ytabkdakikfhgmaa.Q
