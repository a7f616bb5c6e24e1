/- Functions of the program, what each computes and that it does so, printed by the kit's print as pr2.py drives it; a contract's conditions are its hypotheses. -/
import Derived.Test.YtiiphlfgdkjjiaaZDisksQ0
import Derived.Test.YtiiphlfgdkjjiaaZDisksSRefDec
namespace Go.Proofs.Ytiiphlfgdkjjiaa.Q
open Go.RowKit Go.Proofs.YtiiphlfgdkjjiaaW.PrintWords Go.Proofs.YtiiphlfgdkjjiaaW.PrintLast Go.Proofs.YtiiphlfgdkjjiaaW.PrintMore
attribute [local go_sem] max2_int min2_int max_two min_two max_three min_three max_four min_four   -- for this text's walks alone
set_option linter.unusedVariables false
set_option linter.unusedSimpArgs false

def transeptref06_Pick.j0 : Nat → Int → Int → Bool → Int → Int → Int → Int → Int → Int → Int → Int → Int → Int → Option (Int × Int × Int × Int × Int × Int × Int)
  | 0, _, _, _, _, _, _, _, _, _, _, _, _, _ => none
  | k + 1, x8, x10, x21, x662000, x662001, x662002, x662003, x662004, x669000, x669001, x669002, x669003, x669004 => if x21 = true then (some (0, 0, 0, 0, 0, 0, 21)) else (if x8 = 0 then (if x10 = 0 then (if x669000 > x662000 then (some (x669000, x669001, x669002, x669003, x669004, 1, 0)) else (some (x662000, x662001, x662002, x662003, x662004, 0, 0))) else (some (x662000, x662001, x662002, x662003, x662004, 0, 0))) else (some (x669000, x669001, x669002, x669003, x669004, 1, 0)))
def transeptref06_Pick.f (k : Nat) (l0 : List Int) (l1 : List Int) : Option (Int × Int × Int × Int × Int × Int × Int) := (transeptref06_Decode.f l0).bind fun bt655 => ((transeptref06_Decode.f l1).bind fun bt662 => (if bt655.2.2.2.2.2 = 0 then (transeptref06_Pick.j0 k bt655.2.2.2.2.2 bt662.2.2.2.2.2 false bt655.1 bt655.2.1 bt655.2.2.1 bt655.2.2.2.1 bt655.2.2.2.2.1 bt662.1 bt662.2.1 bt662.2.2.1 bt662.2.2.2.1 bt662.2.2.2.2.1) else (transeptref06_Pick.j0 k bt655.2.2.2.2.2 bt662.2.2.2.2.2 (bt662.2.2.2.2.2 != 0) bt655.1 bt655.2.1 bt655.2.2.1 bt655.2.2.2.1 bt655.2.2.2.2.1 bt662.1 bt662.2.1 bt662.2.2.1 bt662.2.2.2.1 bt662.2.2.2.2.1)))
set_option maxHeartbeats 8000000 in
set_option maxRecDepth 100000 in
theorem transeptref06_Pick.calls (k : Nat) (A0 : Option Addr) (c0 : Nat) (l0 : List Int) (A1 : Option Addr) (c1 : Nat) (l1 : List Int) (r1 : Int) (r2 : Int) (r3 : Int) (r4 : Int) (r5 : Int) (r6 : Int) (r7 : Int) (w : World) (hr0 : Kd.C (Kd.int .u8) w A0 l0.length l0) (hc0 : l0.length ≤ c0) (hr1 : Kd.C (Kd.int .u8) w A1 l1.length l1) (hc1 : l1.length ≤ c1) (h : transeptref06_Pick.f k l0 l1 = some (r1, r2, r3, r4, r5, r6, r7)) :
    Calls Try.prog 44 #[.slice A0 l0.length c0, .slice A1 l1.length c1] w fun e w' => e = .returned (.tuple #[.agg #[.int .i64 r1, .int .i64 r2, .int .i64 r3, .int .i64 r4, .int .i64 r5], .int .i64 r6, .int .i64 r7]) ∧ Below w.heap.size w w' := by
 have hu23 := Try.underlying23
 have HR0 := Aside0.mk hr0
 have HC0 := Aside0.mk hc0
 clear hr0 hc0
 have HR1 := Aside0.mk hr1
 have HC1 := Aside0.mk hc1
 clear hr1 hc1
 have HB := Aside0.mk (Below.refl w.heap.size w)
 have H : ((transeptref06_Decode.f l0).bind fun bt655 => ((transeptref06_Decode.f l1).bind fun bt662 => (if bt655.2.2.2.2.2 = 0 then (transeptref06_Pick.j0 k bt655.2.2.2.2.2 bt662.2.2.2.2.2 false bt655.1 bt655.2.1 bt655.2.2.1 bt655.2.2.2.1 bt655.2.2.2.2.1 bt662.1 bt662.2.1 bt662.2.2.1 bt662.2.2.2.1 bt662.2.2.2.2.1) else (transeptref06_Pick.j0 k bt655.2.2.2.2.2 bt662.2.2.2.2.2 (bt662.2.2.2.2.2 != 0) bt655.1 bt655.2.1 bt655.2.2.1 bt655.2.2.2.1 bt655.2.2.2.2.1 bt662.1 bt662.2.1 bt662.2.2.1 bt662.2.2.2.1 bt662.2.2.2.2.1)))) = some (r1, r2, r3, r4, r5, r6, r7) := h
 clear h
 replace H := Option.bind_eq_some_iff.mp H
 obtain ⟨⟨t655, t656, t657, t658, t659, t660⟩, A30, H⟩ := H
 replace H : ((transeptref06_Decode.f l1).bind fun bt662 => (if t660 = 0 then (transeptref06_Pick.j0 k t660 bt662.2.2.2.2.2 false t655 t656 t657 t658 t659 bt662.1 bt662.2.1 bt662.2.2.1 bt662.2.2.2.1 bt662.2.2.2.2.1) else (transeptref06_Pick.j0 k t660 bt662.2.2.2.2.2 (bt662.2.2.2.2.2 != 0) t655 t656 t657 t658 t659 bt662.1 bt662.2.1 bt662.2.2.1 bt662.2.2.2.1 bt662.2.2.2.2.1))) = some (r1, r2, r3, r4, r5, r6, r7) := H
 have A3 := Aside0.mk A30
 clear A30
 replace H := Option.bind_eq_some_iff.mp H
 obtain ⟨⟨t662, t663, t664, t665, t666, t667⟩, A40, H⟩ := H
 replace H : (if t660 = 0 then (transeptref06_Pick.j0 k t660 t667 false t655 t656 t657 t658 t659 t662 t663 t664 t665 t666) else (transeptref06_Pick.j0 k t660 t667 (t667 != 0) t655 t656 t657 t658 t659 t662 t663 t664 t665 t666)) = some (r1, r2, r3, r4, r5, r6, r7) := H
 have A4 := Aside0.mk A40
 clear A40
 have HC5 := Aside0.mk H
 clear H
 go_enter Try.func44, Try.ntmps44
 go_upto_region 3 with (first | ((with_reducible refine gate_dst (N := 4) rfl ?_); refine box_event ?hg (N := 4) ?hd (cs := #[.int .i64 0, .int .i64 0, .int .i64 0, .int .i64 0, .int .i64 0]) (t := 23) ?hr ?_; (case hd => rfl); (case hg => rfl); (case hr => first | (go_simp; done) | (go_simp; rfl)); intro gb654 hg w6 hbox hb; have n0_ := Aside0.mk (below_step (by repeat (first | (with_reducible first | exact HB.out | apply below_alloc | apply pw_below_drewN | apply below_drew1) | exact HB.out)) hb); have n1_ := Aside0.mk (hbox); have n2_ := Aside0.mk ((by rw [hg]; exact (below_size (by repeat (first | (with_reducible first | exact HB.out | apply below_alloc | apply pw_below_drewN | apply below_drew1) | exact HB.out))) : w.heap.size ≤ gb654)); have n3_ := Aside0.mk ((by rw [hg]; exact (below_size (by repeat (first | (with_reducible first | exact HB.out | apply below_alloc | apply pw_below_drewN | apply below_drew1) | exact HB.out))) : w.heap.size ≤ gb654)); clear HB; have HB := n0_; have BK654 := n1_; have GW654 := n2_; have GE654 := n3_; clear n0_ n1_ n2_ n3_; clear hb hbox hg) | ((with_reducible refine gate_callee (f := 42) rfl ?_); refine goesL_ (some 13) rfl rfl Try.func42 (by kernel_rfl) rfl #[.slice A0 l0.length c0] rfl (by (try simp only [List.map_toArray, List.map_cons, List.map_nil]); first | done | rfl | (simp only [List.length_drop, List.length_take]; rfl)) ?_; (with_reducible refine (transeptref06_Decode.calls _ _ l0 t655 t656 t657 t658 t659 t660 _ ?side1 ?side2 A3.out).mono ?_); (case side1 => repeat (first | exact (Kd.C_below HR0.out HB.out) | (with_reducible refine Kd.C_alloc ?_ _) | (with_reducible refine Kd.C_drewN ?_ _) | (with_reducible refine Kd.C_drew ?_))); (case side2 => exact HC0.out); rintro e w7 ⟨rfl, hb⟩; refine ⟨_, rfl, ?_⟩; have n0_ := Aside0.mk (blk_below (g := gb654) (o := .cells #[.int .i64 0, .int .i64 0, .int .i64 0, .int .i64 0, .int .i64 0] 23 (0, 0)) (by (with_reducible repeat (first | refine blk_drewN ?_ _ | refine blk_drew ?_ | refine blk_alloc ?_ _)); exact BK654.out) hb); have n1_ := Aside0.mk (below_step (by repeat (first | (with_reducible first | exact HB.out | apply below_alloc | apply pw_below_drewN | apply below_drew1 | refine below_set ?_ GE654.out) | exact HB.out)) hb); clear BK654; clear HB; have BK654 := n0_; have HB := n1_; clear n0_ n1_; (try clear hb); (try clear hb2); (try clear hk); (try clear hi)) | ((with_reducible refine gate_dst (N := 7) rfl ?_); refine box_event ?hg (N := 7) ?hd (cs := #[.int .i64 0, .int .i64 0, .int .i64 0, .int .i64 0, .int .i64 0]) (t := 23) ?hr ?_; (case hd => rfl); (case hg => rfl); (case hr => first | (go_simp; done) | (go_simp; rfl)); intro gb661 hg w8 hbox hb; have n0_ := Aside0.mk (blk_below (g := gb654) (o := .cells #[.int .i64 0, .int .i64 0, .int .i64 0, .int .i64 0, .int .i64 0] 23 (0, 0)) (by (with_reducible repeat (first | refine blk_drewN ?_ _ | refine blk_drew ?_ | refine blk_alloc ?_ _)); exact BK654.out) hb); have n1_ := Aside0.mk (below_step (by repeat (first | (with_reducible first | exact HB.out | apply below_alloc | apply pw_below_drewN | apply below_drew1 | refine below_set ?_ GE654.out) | exact HB.out)) hb); have n2_ := Aside0.mk (hbox); have n3_ := Aside0.mk ((by rw [hg]; exact (below_size (by repeat (first | (with_reducible first | exact HB.out | apply below_alloc | apply pw_below_drewN | apply below_drew1 | refine below_set ?_ GE654.out) | exact HB.out))) : w.heap.size ≤ gb661)); have n4_ := Aside0.mk ((by rw [hg]; exact (below_size (by repeat (first | (with_reducible first | exact HB.out | apply below_alloc | apply pw_below_drewN | apply below_drew1 | refine below_set ?_ GE654.out) | exact HB.out))) : w.heap.size ≤ gb661)); have n5_ := Aside0.mk ((by rw [hg]; exact Nat.ne_of_lt (blk_lt (g := gb654) (o := .cells #[.int .i64 0, .int .i64 0, .int .i64 0, .int .i64 0, .int .i64 0] 23 (0, 0)) (by (with_reducible repeat (first | refine blk_drewN ?_ _ | refine blk_drew ?_ | refine blk_alloc ?_ _)); exact BK654.out)) : gb654 ≠ gb661)); have n6_ := Aside0.mk ((by rw [hg]; exact Nat.ne_of_gt (blk_lt (g := gb654) (o := .cells #[.int .i64 0, .int .i64 0, .int .i64 0, .int .i64 0, .int .i64 0] 23 (0, 0)) (by (with_reducible repeat (first | refine blk_drewN ?_ _ | refine blk_drew ?_ | refine blk_alloc ?_ _)); exact BK654.out)) : gb661 ≠ gb654)); clear BK654; clear HB; have BK654 := n0_; have HB := n1_; have BK661 := n2_; have GW661 := n3_; have GE661 := n4_; have NB654_661 := n5_; have NB661_654 := n6_; clear n0_ n1_ n2_ n3_ n4_ n5_ n6_; clear hb hbox hg; have hnb9 := NB661_654.out; have hnc9 := NB654_661.out; have hcz10_0 : w8.cell? ⟨gb661, 0, none⟩ = some (.int .i64 0) := (blk_cell BK661.out 0).trans rfl; have hcz10_1 : w8.cell? ⟨gb661, 1, none⟩ = some (.int .i64 0) := (blk_cell BK661.out 1).trans rfl; have hcz10_2 : w8.cell? ⟨gb661, 2, none⟩ = some (.int .i64 0) := (blk_cell BK661.out 2).trans rfl; have hcz10_3 : w8.cell? ⟨gb661, 3, none⟩ = some (.int .i64 0) := (blk_cell BK661.out 3).trans rfl; have hcz10_4 : w8.cell? ⟨gb661, 4, none⟩ = some (.int .i64 0) := (blk_cell BK661.out 4).trans rfl; have hfz10_0 := blk_frozen BK661.out 0; have hfz10_1 := blk_frozen BK661.out 1; have hfz10_2 := blk_frozen BK661.out 2; have hfz10_3 := blk_frozen BK661.out 3; have hfz10_4 := blk_frozen BK661.out 4) | ((with_reducible refine gate_callee (f := 42) rfl ?_); refine goesL_ (some 18) rfl rfl Try.func42 (by kernel_rfl) rfl #[.slice A1 l1.length c1] rfl (by (try simp only [List.map_toArray, List.map_cons, List.map_nil]); first | done | rfl | (simp only [List.length_drop, List.length_take]; rfl)) ?_; (with_reducible refine (transeptref06_Decode.calls _ _ l1 t662 t663 t664 t665 t666 t667 _ ?side1 ?side2 A4.out).mono ?_); (case side1 => exact Kd.C_below HR1.out (by repeat (first | (with_reducible first | exact HB.out | apply below_alloc | apply pw_below_drewN | apply below_drew1 | refine below_set ?_ GE654.out | refine below_set ?_ GE661.out) | exact HB.out))); (case side2 => exact HC1.out); rintro e w11 ⟨rfl, hb⟩; refine ⟨_, rfl, ?_⟩; have n0_ := Aside0.mk (blk_below (g := gb654) (o := .cells #[.int .i64 0, .int .i64 0, .int .i64 0, .int .i64 0, .int .i64 0] 23 (0, 0)) (by (with_reducible repeat (first | refine blk_drewN ?_ _ | refine blk_drew ?_ | refine blk_alloc ?_ _)); refine blk_far ?_ NB654_661.out _; (with_reducible repeat (first | refine blk_drewN ?_ _ | refine blk_drew ?_ | refine blk_alloc ?_ _)); refine blk_far ?_ NB654_661.out _; (with_reducible repeat (first | refine blk_drewN ?_ _ | refine blk_drew ?_ | refine blk_alloc ?_ _)); refine blk_far ?_ NB654_661.out _; (with_reducible repeat (first | refine blk_drewN ?_ _ | refine blk_drew ?_ | refine blk_alloc ?_ _)); refine blk_far ?_ NB654_661.out _; (with_reducible repeat (first | refine blk_drewN ?_ _ | refine blk_drew ?_ | refine blk_alloc ?_ _)); refine blk_far ?_ NB654_661.out _; (with_reducible repeat (first | refine blk_drewN ?_ _ | refine blk_drew ?_ | refine blk_alloc ?_ _)); exact BK654.out) hb); have n1_ := Aside0.mk (blk_below (g := gb661) (o := .cells #[.int .i64 t655, .int .i64 t656, .int .i64 t657, .int .i64 t658, .int .i64 t659] 23 (0, 0)) (by (with_reducible repeat (first | refine blk_drewN ?_ _ | refine blk_drew ?_ | refine blk_alloc ?_ _)); refine blk_put (cs := #[.int .i64 t655, .int .i64 t656, .int .i64 t657, .int .i64 t658, .int .i64 0]) ?_ 4 _ rfl; (with_reducible repeat (first | refine blk_drewN ?_ _ | refine blk_drew ?_ | refine blk_alloc ?_ _)); refine blk_put (cs := #[.int .i64 t655, .int .i64 t656, .int .i64 t657, .int .i64 0, .int .i64 0]) ?_ 3 _ rfl; (with_reducible repeat (first | refine blk_drewN ?_ _ | refine blk_drew ?_ | refine blk_alloc ?_ _)); refine blk_put (cs := #[.int .i64 t655, .int .i64 t656, .int .i64 0, .int .i64 0, .int .i64 0]) ?_ 2 _ rfl; (with_reducible repeat (first | refine blk_drewN ?_ _ | refine blk_drew ?_ | refine blk_alloc ?_ _)); refine blk_put (cs := #[.int .i64 t655, .int .i64 0, .int .i64 0, .int .i64 0, .int .i64 0]) ?_ 1 _ rfl; (with_reducible repeat (first | refine blk_drewN ?_ _ | refine blk_drew ?_ | refine blk_alloc ?_ _)); refine blk_put (cs := #[.int .i64 0, .int .i64 0, .int .i64 0, .int .i64 0, .int .i64 0]) ?_ 0 _ rfl; (with_reducible repeat (first | refine blk_drewN ?_ _ | refine blk_drew ?_ | refine blk_alloc ?_ _)); exact BK661.out) hb); have n2_ := Aside0.mk (below_step (by repeat (first | (with_reducible first | exact HB.out | apply below_alloc | apply pw_below_drewN | apply below_drew1 | refine below_set ?_ GE654.out | refine below_set ?_ GE661.out) | exact HB.out)) hb); clear BK654; clear BK661; clear HB; have BK654 := n0_; have BK661 := n1_; have HB := n2_; clear n0_ n1_ n2_; (try clear hb); (try clear hb2); (try clear hk); (try clear hi)) | ((with_reducible refine gate_dst (N := 9) rfl ?_); refine box_event ?hg (N := 9) ?hd (cs := #[.int .i64 0, .int .i64 0, .int .i64 0, .int .i64 0, .int .i64 0]) (t := 23) ?hr ?_; (case hd => rfl); (case hg => rfl); (case hr => first | (go_simp; done) | (go_simp; rfl)); intro gb668 hg w12 hbox hb; have n0_ := Aside0.mk (blk_below (g := gb654) (o := .cells #[.int .i64 0, .int .i64 0, .int .i64 0, .int .i64 0, .int .i64 0] 23 (0, 0)) (by (with_reducible repeat (first | refine blk_drewN ?_ _ | refine blk_drew ?_ | refine blk_alloc ?_ _)); exact BK654.out) hb); have n1_ := Aside0.mk (blk_below (g := gb661) (o := .cells #[.int .i64 t655, .int .i64 t656, .int .i64 t657, .int .i64 t658, .int .i64 t659] 23 (0, 0)) (by (with_reducible repeat (first | refine blk_drewN ?_ _ | refine blk_drew ?_ | refine blk_alloc ?_ _)); exact BK661.out) hb); have n2_ := Aside0.mk (below_step (by repeat (first | (with_reducible first | exact HB.out | apply below_alloc | apply pw_below_drewN | apply below_drew1 | refine below_set ?_ GE654.out | refine below_set ?_ GE661.out) | exact HB.out)) hb); have n3_ := Aside0.mk (hbox); have n4_ := Aside0.mk ((by rw [hg]; exact (below_size (by repeat (first | (with_reducible first | exact HB.out | apply below_alloc | apply pw_below_drewN | apply below_drew1 | refine below_set ?_ GE654.out | refine below_set ?_ GE661.out) | exact HB.out))) : w.heap.size ≤ gb668)); have n5_ := Aside0.mk ((by rw [hg]; exact (below_size (by repeat (first | (with_reducible first | exact HB.out | apply below_alloc | apply pw_below_drewN | apply below_drew1 | refine below_set ?_ GE654.out | refine below_set ?_ GE661.out) | exact HB.out))) : w.heap.size ≤ gb668)); have n6_ := Aside0.mk ((by rw [hg]; exact Nat.ne_of_lt (blk_lt (g := gb654) (o := .cells #[.int .i64 0, .int .i64 0, .int .i64 0, .int .i64 0, .int .i64 0] 23 (0, 0)) (by (with_reducible repeat (first | refine blk_drewN ?_ _ | refine blk_drew ?_ | refine blk_alloc ?_ _)); exact BK654.out)) : gb654 ≠ gb668)); have n7_ := Aside0.mk ((by rw [hg]; exact Nat.ne_of_gt (blk_lt (g := gb654) (o := .cells #[.int .i64 0, .int .i64 0, .int .i64 0, .int .i64 0, .int .i64 0] 23 (0, 0)) (by (with_reducible repeat (first | refine blk_drewN ?_ _ | refine blk_drew ?_ | refine blk_alloc ?_ _)); exact BK654.out)) : gb668 ≠ gb654)); have n8_ := Aside0.mk ((by rw [hg]; exact Nat.ne_of_lt (blk_lt (g := gb661) (o := .cells #[.int .i64 t655, .int .i64 t656, .int .i64 t657, .int .i64 t658, .int .i64 t659] 23 (0, 0)) (by (with_reducible repeat (first | refine blk_drewN ?_ _ | refine blk_drew ?_ | refine blk_alloc ?_ _)); exact BK661.out)) : gb661 ≠ gb668)); have n9_ := Aside0.mk ((by rw [hg]; exact Nat.ne_of_gt (blk_lt (g := gb661) (o := .cells #[.int .i64 t655, .int .i64 t656, .int .i64 t657, .int .i64 t658, .int .i64 t659] 23 (0, 0)) (by (with_reducible repeat (first | refine blk_drewN ?_ _ | refine blk_drew ?_ | refine blk_alloc ?_ _)); exact BK661.out)) : gb668 ≠ gb661)); clear BK654; clear BK661; clear HB; have BK654 := n0_; have BK661 := n1_; have HB := n2_; have BK668 := n3_; have GW668 := n4_; have GE668 := n5_; have NB654_668 := n6_; have NB668_654 := n7_; have NB661_668 := n8_; have NB668_661 := n9_; clear n0_ n1_ n2_ n3_ n4_ n5_ n6_ n7_ n8_ n9_; clear hb hbox hg; have hnb13 := NB668_654.out; have hnc13 := NB654_668.out; have hnb14 := NB668_661.out; have hnc14 := NB661_668.out; have hcz15_0 : w12.cell? ⟨gb668, 0, none⟩ = some (.int .i64 0) := (blk_cell BK668.out 0).trans rfl; have hcz15_1 : w12.cell? ⟨gb668, 1, none⟩ = some (.int .i64 0) := (blk_cell BK668.out 1).trans rfl; have hcz15_2 : w12.cell? ⟨gb668, 2, none⟩ = some (.int .i64 0) := (blk_cell BK668.out 2).trans rfl; have hcz15_3 : w12.cell? ⟨gb668, 3, none⟩ = some (.int .i64 0) := (blk_cell BK668.out 3).trans rfl; have hcz15_4 : w12.cell? ⟨gb668, 4, none⟩ = some (.int .i64 0) := (blk_cell BK668.out 4).trans rfl; have hfz15_0 := blk_frozen BK668.out 0; have hfz15_1 := blk_frozen BK668.out 1; have hfz15_2 := blk_frozen BK668.out 2; have hfz15_3 := blk_frozen BK668.out 3; have hfz15_4 := blk_frozen BK668.out 4))
 (try simp only [Act.put, List.setIfInBounds_toArray, List.set_cons_zero, List.set_cons_succ])
 go_cut [21] (fun v21 wc => ∃ (kq : Nat) (x21_4 : Bool), v21 = .bool x21_4 ∧ Aside0 (transeptref06_Pick.j0 kq t660 t667 x21_4 t655 t656 t657 t658 t659 t662 t663 t664 t665 t666 = some (r1, r2, r3, r4, r5, r6, r7)) ∧ Aside0 (kq ≤ k) ∧ Aside0 (wc.heap[gb654]? = some (.cells #[.int .i64 0, .int .i64 0, .int .i64 0, .int .i64 0, .int .i64 0] 23 (0, 0))) ∧ Aside0 (wc.heap[gb661]? = some (.cells #[.int .i64 t655, .int .i64 t656, .int .i64 t657, .int .i64 t658, .int .i64 t659] 23 (0, 0))) ∧ Aside0 (wc.heap[gb668]? = some (.cells #[.int .i64 t662, .int .i64 t663, .int .i64 t664, .int .i64 t665, .int .i64 t666] 23 (0, 0))) ∧ Aside0 (Below w.heap.size w wc))
 case first =>
  have H := HC5.out
  clear HC5
  by_cases c16 : t660 = 0
  ·
   rw [if_pos c16] at H
   have c16b0 : (t660 == 0) = true := beq_iff_eq.mpr c16
   have c16b1 : (t660 != 0) = false := bne_eq_false_iff_eq.mpr c16
   clear c16
   (first | rw [c16b0] | (simp only [i64_w, i32_w]; rw [c16b0]) | skip)
   have H' := Aside0.mk H
   clear H
   go_wp2
   go_meet
   case rel => exact ⟨_, (false), (by first | rfl | (simp; done) | (simp [*]; done)), H', ⟨by first | omega | exact Nat.le_refl _⟩, ⟨by (with_reducible repeat (first | refine blk_drewN ?_ _ | refine blk_drew ?_ | refine blk_alloc ?_ _)); refine blk_far ?_ NB654_668.out _; (with_reducible repeat (first | refine blk_drewN ?_ _ | refine blk_drew ?_ | refine blk_alloc ?_ _)); refine blk_far ?_ NB654_668.out _; (with_reducible repeat (first | refine blk_drewN ?_ _ | refine blk_drew ?_ | refine blk_alloc ?_ _)); refine blk_far ?_ NB654_668.out _; (with_reducible repeat (first | refine blk_drewN ?_ _ | refine blk_drew ?_ | refine blk_alloc ?_ _)); refine blk_far ?_ NB654_668.out _; (with_reducible repeat (first | refine blk_drewN ?_ _ | refine blk_drew ?_ | refine blk_alloc ?_ _)); refine blk_far ?_ NB654_668.out _; (with_reducible repeat (first | refine blk_drewN ?_ _ | refine blk_drew ?_ | refine blk_alloc ?_ _)); exact BK654.out⟩, ⟨by (with_reducible repeat (first | refine blk_drewN ?_ _ | refine blk_drew ?_ | refine blk_alloc ?_ _)); refine blk_far ?_ NB661_668.out _; (with_reducible repeat (first | refine blk_drewN ?_ _ | refine blk_drew ?_ | refine blk_alloc ?_ _)); refine blk_far ?_ NB661_668.out _; (with_reducible repeat (first | refine blk_drewN ?_ _ | refine blk_drew ?_ | refine blk_alloc ?_ _)); refine blk_far ?_ NB661_668.out _; (with_reducible repeat (first | refine blk_drewN ?_ _ | refine blk_drew ?_ | refine blk_alloc ?_ _)); refine blk_far ?_ NB661_668.out _; (with_reducible repeat (first | refine blk_drewN ?_ _ | refine blk_drew ?_ | refine blk_alloc ?_ _)); refine blk_far ?_ NB661_668.out _; (with_reducible repeat (first | refine blk_drewN ?_ _ | refine blk_drew ?_ | refine blk_alloc ?_ _)); exact BK661.out⟩, ⟨by (with_reducible repeat (first | refine blk_drewN ?_ _ | refine blk_drew ?_ | refine blk_alloc ?_ _)); refine blk_put (cs := #[.int .i64 t662, .int .i64 t663, .int .i64 t664, .int .i64 t665, .int .i64 0]) ?_ 4 _ rfl; (with_reducible repeat (first | refine blk_drewN ?_ _ | refine blk_drew ?_ | refine blk_alloc ?_ _)); refine blk_put (cs := #[.int .i64 t662, .int .i64 t663, .int .i64 t664, .int .i64 0, .int .i64 0]) ?_ 3 _ rfl; (with_reducible repeat (first | refine blk_drewN ?_ _ | refine blk_drew ?_ | refine blk_alloc ?_ _)); refine blk_put (cs := #[.int .i64 t662, .int .i64 t663, .int .i64 0, .int .i64 0, .int .i64 0]) ?_ 2 _ rfl; (with_reducible repeat (first | refine blk_drewN ?_ _ | refine blk_drew ?_ | refine blk_alloc ?_ _)); refine blk_put (cs := #[.int .i64 t662, .int .i64 0, .int .i64 0, .int .i64 0, .int .i64 0]) ?_ 1 _ rfl; (with_reducible repeat (first | refine blk_drewN ?_ _ | refine blk_drew ?_ | refine blk_alloc ?_ _)); refine blk_put (cs := #[.int .i64 0, .int .i64 0, .int .i64 0, .int .i64 0, .int .i64 0]) ?_ 0 _ rfl; (with_reducible repeat (first | refine blk_drewN ?_ _ | refine blk_drew ?_ | refine blk_alloc ?_ _)); exact BK668.out⟩, ⟨by repeat (first | (with_reducible first | exact HB.out | apply below_alloc | apply pw_below_drewN | apply below_drew1 | refine below_set ?_ GE654.out | refine below_set ?_ GE661.out | refine below_set ?_ GE668.out) | exact HB.out)⟩⟩
  ·
   rw [if_neg c16] at H
   have c16b0 : (t660 == 0) = false := beq_eq_false_iff_ne.mpr c16
   have c16b1 : (t660 != 0) = true := bne_iff_ne.mpr c16
   (first | rw [c16b0] | (simp only [i64_w, i32_w]; rw [c16b0]) | skip)
   have H' := Aside0.mk H
   clear H
   go_wp2
   go_meet
   case rel => exact ⟨_, ((t667 != 0)), (by first | rfl | (simp; done) | (simp [*]; done)), H', ⟨by first | omega | exact Nat.le_refl _⟩, ⟨by (with_reducible repeat (first | refine blk_drewN ?_ _ | refine blk_drew ?_ | refine blk_alloc ?_ _)); refine blk_far ?_ NB654_668.out _; (with_reducible repeat (first | refine blk_drewN ?_ _ | refine blk_drew ?_ | refine blk_alloc ?_ _)); refine blk_far ?_ NB654_668.out _; (with_reducible repeat (first | refine blk_drewN ?_ _ | refine blk_drew ?_ | refine blk_alloc ?_ _)); refine blk_far ?_ NB654_668.out _; (with_reducible repeat (first | refine blk_drewN ?_ _ | refine blk_drew ?_ | refine blk_alloc ?_ _)); refine blk_far ?_ NB654_668.out _; (with_reducible repeat (first | refine blk_drewN ?_ _ | refine blk_drew ?_ | refine blk_alloc ?_ _)); refine blk_far ?_ NB654_668.out _; (with_reducible repeat (first | refine blk_drewN ?_ _ | refine blk_drew ?_ | refine blk_alloc ?_ _)); exact BK654.out⟩, ⟨by (with_reducible repeat (first | refine blk_drewN ?_ _ | refine blk_drew ?_ | refine blk_alloc ?_ _)); refine blk_far ?_ NB661_668.out _; (with_reducible repeat (first | refine blk_drewN ?_ _ | refine blk_drew ?_ | refine blk_alloc ?_ _)); refine blk_far ?_ NB661_668.out _; (with_reducible repeat (first | refine blk_drewN ?_ _ | refine blk_drew ?_ | refine blk_alloc ?_ _)); refine blk_far ?_ NB661_668.out _; (with_reducible repeat (first | refine blk_drewN ?_ _ | refine blk_drew ?_ | refine blk_alloc ?_ _)); refine blk_far ?_ NB661_668.out _; (with_reducible repeat (first | refine blk_drewN ?_ _ | refine blk_drew ?_ | refine blk_alloc ?_ _)); refine blk_far ?_ NB661_668.out _; (with_reducible repeat (first | refine blk_drewN ?_ _ | refine blk_drew ?_ | refine blk_alloc ?_ _)); exact BK661.out⟩, ⟨by (with_reducible repeat (first | refine blk_drewN ?_ _ | refine blk_drew ?_ | refine blk_alloc ?_ _)); refine blk_put (cs := #[.int .i64 t662, .int .i64 t663, .int .i64 t664, .int .i64 t665, .int .i64 0]) ?_ 4 _ rfl; (with_reducible repeat (first | refine blk_drewN ?_ _ | refine blk_drew ?_ | refine blk_alloc ?_ _)); refine blk_put (cs := #[.int .i64 t662, .int .i64 t663, .int .i64 t664, .int .i64 0, .int .i64 0]) ?_ 3 _ rfl; (with_reducible repeat (first | refine blk_drewN ?_ _ | refine blk_drew ?_ | refine blk_alloc ?_ _)); refine blk_put (cs := #[.int .i64 t662, .int .i64 t663, .int .i64 0, .int .i64 0, .int .i64 0]) ?_ 2 _ rfl; (with_reducible repeat (first | refine blk_drewN ?_ _ | refine blk_drew ?_ | refine blk_alloc ?_ _)); refine blk_put (cs := #[.int .i64 t662, .int .i64 0, .int .i64 0, .int .i64 0, .int .i64 0]) ?_ 1 _ rfl; (with_reducible repeat (first | refine blk_drewN ?_ _ | refine blk_drew ?_ | refine blk_alloc ?_ _)); refine blk_put (cs := #[.int .i64 0, .int .i64 0, .int .i64 0, .int .i64 0, .int .i64 0]) ?_ 0 _ rfl; (with_reducible repeat (first | refine blk_drewN ?_ _ | refine blk_drew ?_ | refine blk_alloc ?_ _)); exact BK668.out⟩, ⟨by repeat (first | (with_reducible first | exact HB.out | apply below_alloc | apply pw_below_drewN | apply below_drew1 | refine below_set ?_ GE654.out | refine below_set ?_ GE661.out | refine below_set ?_ GE668.out) | exact HB.out)⟩⟩
 case rest =>
  clear HC5
  try clear c1
  try clear p2
  try clear c4
  try clear c9
  try clear c13
  try clear c14
  try clear c16
  try clear c16b0
  try clear c16b1
  try clear hcz10_0
  try clear hcz10_1
  try clear hcz10_2
  try clear hcz10_3
  try clear hcz10_4
  try clear hcz15_0
  try clear hcz15_1
  try clear hcz15_2
  try clear hcz15_3
  try clear hcz15_4
  try clear hfz10_0
  try clear hfz10_1
  try clear hfz10_2
  try clear hfz10_3
  try clear hfz10_4
  try clear hfz15_0
  try clear hfz15_1
  try clear hfz15_2
  try clear hfz15_3
  try clear hfz15_4
  obtain ⟨kq, x21_4, rfl, HA, HJ4, BK654, BK661, BK668, HB⟩ := hcut
  cases kq with
  | zero => exact absurd HA.out (by simp [transeptref06_Pick.j0])
  | succ kj4 =>
   have H := HA.out
   clear HA
   simp only [transeptref06_Pick.j0] at H
   by_cases c17 : x21_4 = true
   ·
    subst c17
    have H1 : (some (0, 0, 0, 0, 0, 0, 21)) = some (r1, r2, r3, r4, r5, r6, r7) := by rw [if_pos rfl] at H; exact H
    clear H
    have H := H1
    clear H1
    simp only [Option.some.injEq, Prod.mk.injEq] at H
    obtain ⟨rfl, rfl, rfl, rfl, rfl, rfl, rfl⟩ := H
    have hnb18 := NB654_661.out
    have hnc18 := NB661_654.out
    have hnb19 := NB654_668.out
    have hnc19 := NB668_654.out
    have hcz20_0 : wc.cell? ⟨gb654, 0, none⟩ = some (.int .i64 0) := (blk_cell BK654.out 0).trans rfl
    have hcz20_1 : wc.cell? ⟨gb654, 1, none⟩ = some (.int .i64 0) := (blk_cell BK654.out 1).trans rfl
    have hcz20_2 : wc.cell? ⟨gb654, 2, none⟩ = some (.int .i64 0) := (blk_cell BK654.out 2).trans rfl
    have hcz20_3 : wc.cell? ⟨gb654, 3, none⟩ = some (.int .i64 0) := (blk_cell BK654.out 3).trans rfl
    have hcz20_4 : wc.cell? ⟨gb654, 4, none⟩ = some (.int .i64 0) := (blk_cell BK654.out 4).trans rfl
    have hfz20_0 := blk_frozen BK654.out 0
    have hfz20_1 := blk_frozen BK654.out 1
    have hfz20_2 := blk_frozen BK654.out 2
    have hfz20_3 := blk_frozen BK654.out 3
    have hfz20_4 := blk_frozen BK654.out 4
    go_wp2
    refine bodyPost_ret (results_ctt rfl _ _ gb654 23 #[.int .i64 0, .int .i64 0, .int .i64 0, .int .i64 0, .int .i64 0] (0, 0) _ rfl (by (with_reducible repeat (first | refine blk_drewN ?_ _ | refine blk_drew ?_ | refine blk_alloc ?_ _)); refine blk_put (cs := #[.int .i64 0, .int .i64 0, .int .i64 0, .int .i64 0, .int .i64 0]) ?_ 4 _ rfl; (with_reducible repeat (first | refine blk_drewN ?_ _ | refine blk_drew ?_ | refine blk_alloc ?_ _)); refine blk_put (cs := #[.int .i64 0, .int .i64 0, .int .i64 0, .int .i64 0, .int .i64 0]) ?_ 3 _ rfl; (with_reducible repeat (first | refine blk_drewN ?_ _ | refine blk_drew ?_ | refine blk_alloc ?_ _)); refine blk_put (cs := #[.int .i64 0, .int .i64 0, .int .i64 0, .int .i64 0, .int .i64 0]) ?_ 2 _ rfl; (with_reducible repeat (first | refine blk_drewN ?_ _ | refine blk_drew ?_ | refine blk_alloc ?_ _)); refine blk_put (cs := #[.int .i64 0, .int .i64 0, .int .i64 0, .int .i64 0, .int .i64 0]) ?_ 1 _ rfl; (with_reducible repeat (first | refine blk_drewN ?_ _ | refine blk_drew ?_ | refine blk_alloc ?_ _)); refine blk_put (cs := #[.int .i64 0, .int .i64 0, .int .i64 0, .int .i64 0, .int .i64 0]) ?_ 0 _ rfl; (with_reducible repeat (first | refine blk_drewN ?_ _ | refine blk_drew ?_ | refine blk_alloc ?_ _)); exact BK654.out) Try.underlying23 rfl (by kernel_rfl)) rfl ?_
    exact ⟨by first | rfl | (simp [errW_none, errW_some] <;> rfl) | (simp [*, errW_none, errW_some] <;> rfl), by repeat (first | (with_reducible first | exact HB.out | apply below_alloc | apply pw_below_drewN | apply below_drew1 | refine below_set ?_ GE654.out | refine below_set ?_ GE661.out | refine below_set ?_ GE668.out) | exact HB.out)⟩
   ·
    replace c17 := Bool.eq_false_iff.mpr c17
    subst c17
    have H1 : (if t660 = 0 then (if t667 = 0 then (if t662 > t655 then (some (t662, t663, t664, t665, t666, 1, 0)) else (some (t655, t656, t657, t658, t659, 0, 0))) else (some (t655, t656, t657, t658, t659, 0, 0))) else (some (t662, t663, t664, t665, t666, 1, 0))) = some (r1, r2, r3, r4, r5, r6, r7) := by rw [if_neg (show ¬ (false = true) by decide)] at H; exact H
    clear H
    have H := H1
    clear H1
    by_cases c21 : t660 = 0
    ·
     rw [if_pos c21] at H
     have c21b0 : (t660 == 0) = true := beq_iff_eq.mpr c21
     have c21b1 : (t660 != 0) = false := bne_eq_false_iff_eq.mpr c21
     clear c21
     by_cases c22 : t667 = 0
     ·
      rw [if_pos c22] at H
      have c22b0 : (t667 == 0) = true := beq_iff_eq.mpr c22
      have c22b1 : (t667 != 0) = false := bne_eq_false_iff_eq.mpr c22
      clear c22
      by_cases c23 : t662 > t655
      ·
       rw [if_pos c23] at H
       have c23b0 : decide (t655 < t662) = true := decide_eq_true c23
       clear c23
       simp only [Option.some.injEq, Prod.mk.injEq] at H
       obtain ⟨rfl, rfl, rfl, rfl, rfl, rfl, rfl⟩ := H
       have hnb24 := NB668_654.out
       have hnc24 := NB654_668.out
       have hnb25 := NB668_661.out
       have hnc25 := NB661_668.out
       have hcz26_0 : wc.cell? ⟨gb668, 0, none⟩ = some (.int .i64 t662) := (blk_cell BK668.out 0).trans rfl
       have hcz26_1 : wc.cell? ⟨gb668, 1, none⟩ = some (.int .i64 t663) := (blk_cell BK668.out 1).trans rfl
       have hcz26_2 : wc.cell? ⟨gb668, 2, none⟩ = some (.int .i64 t664) := (blk_cell BK668.out 2).trans rfl
       have hcz26_3 : wc.cell? ⟨gb668, 3, none⟩ = some (.int .i64 t665) := (blk_cell BK668.out 3).trans rfl
       have hcz26_4 : wc.cell? ⟨gb668, 4, none⟩ = some (.int .i64 t666) := (blk_cell BK668.out 4).trans rfl
       have hfz26_0 := blk_frozen BK668.out 0
       have hfz26_1 := blk_frozen BK668.out 1
       have hfz26_2 := blk_frozen BK668.out 2
       have hfz26_3 := blk_frozen BK668.out 3
       have hfz26_4 := blk_frozen BK668.out 4
       have hnb27 := NB661_654.out
       have hnc27 := NB654_661.out
       have hcz28_0 : wc.cell? ⟨gb661, 0, none⟩ = some (.int .i64 t655) := (blk_cell BK661.out 0).trans rfl
       have hcz28_1 : wc.cell? ⟨gb661, 1, none⟩ = some (.int .i64 t656) := (blk_cell BK661.out 1).trans rfl
       have hcz28_2 : wc.cell? ⟨gb661, 2, none⟩ = some (.int .i64 t657) := (blk_cell BK661.out 2).trans rfl
       have hcz28_3 : wc.cell? ⟨gb661, 3, none⟩ = some (.int .i64 t658) := (blk_cell BK661.out 3).trans rfl
       have hcz28_4 : wc.cell? ⟨gb661, 4, none⟩ = some (.int .i64 t659) := (blk_cell BK661.out 4).trans rfl
       have hfz28_0 := blk_frozen BK661.out 0
       have hfz28_1 := blk_frozen BK661.out 1
       have hfz28_2 := blk_frozen BK661.out 2
       have hfz28_3 := blk_frozen BK661.out 3
       have hfz28_4 := blk_frozen BK661.out 4
       have hcz29_0 : wc.cell? ⟨gb654, 0, none⟩ = some (.int .i64 0) := (blk_cell BK654.out 0).trans rfl
       have hcz29_1 : wc.cell? ⟨gb654, 1, none⟩ = some (.int .i64 0) := (blk_cell BK654.out 1).trans rfl
       have hcz29_2 : wc.cell? ⟨gb654, 2, none⟩ = some (.int .i64 0) := (blk_cell BK654.out 2).trans rfl
       have hcz29_3 : wc.cell? ⟨gb654, 3, none⟩ = some (.int .i64 0) := (blk_cell BK654.out 3).trans rfl
       have hcz29_4 : wc.cell? ⟨gb654, 4, none⟩ = some (.int .i64 0) := (blk_cell BK654.out 4).trans rfl
       have hfz29_0 := blk_frozen BK654.out 0
       have hfz29_1 := blk_frozen BK654.out 1
       have hfz29_2 := blk_frozen BK654.out 2
       have hfz29_3 := blk_frozen BK654.out 3
       have hfz29_4 := blk_frozen BK654.out 4
       go_wp2
       refine bodyPost_ret (results_ctt rfl _ _ gb654 23 #[.int .i64 t662, .int .i64 t663, .int .i64 t664, .int .i64 t665, .int .i64 t666] (0, 0) _ rfl (by (with_reducible repeat (first | refine blk_drewN ?_ _ | refine blk_drew ?_ | refine blk_alloc ?_ _)); refine blk_put (cs := #[.int .i64 t662, .int .i64 t663, .int .i64 t664, .int .i64 t665, .int .i64 0]) ?_ 4 _ rfl; (with_reducible repeat (first | refine blk_drewN ?_ _ | refine blk_drew ?_ | refine blk_alloc ?_ _)); refine blk_put (cs := #[.int .i64 t662, .int .i64 t663, .int .i64 t664, .int .i64 0, .int .i64 0]) ?_ 3 _ rfl; (with_reducible repeat (first | refine blk_drewN ?_ _ | refine blk_drew ?_ | refine blk_alloc ?_ _)); refine blk_put (cs := #[.int .i64 t662, .int .i64 t663, .int .i64 0, .int .i64 0, .int .i64 0]) ?_ 2 _ rfl; (with_reducible repeat (first | refine blk_drewN ?_ _ | refine blk_drew ?_ | refine blk_alloc ?_ _)); refine blk_put (cs := #[.int .i64 t662, .int .i64 0, .int .i64 0, .int .i64 0, .int .i64 0]) ?_ 1 _ rfl; (with_reducible repeat (first | refine blk_drewN ?_ _ | refine blk_drew ?_ | refine blk_alloc ?_ _)); refine blk_put (cs := #[.int .i64 0, .int .i64 0, .int .i64 0, .int .i64 0, .int .i64 0]) ?_ 0 _ rfl; (with_reducible repeat (first | refine blk_drewN ?_ _ | refine blk_drew ?_ | refine blk_alloc ?_ _)); exact BK654.out) Try.underlying23 rfl (by kernel_rfl)) rfl ?_
       exact ⟨by first | rfl | (simp [errW_none, errW_some] <;> rfl) | (simp [*, errW_none, errW_some] <;> rfl), by repeat (first | (with_reducible first | exact HB.out | apply below_alloc | apply pw_below_drewN | apply below_drew1 | refine below_set ?_ GE654.out | refine below_set ?_ GE661.out | refine below_set ?_ GE668.out) | exact HB.out)⟩
      ·
       rw [if_neg c23] at H
       have c23b0 : decide (t655 < t662) = false := decide_eq_false c23
       clear c23
       simp only [Option.some.injEq, Prod.mk.injEq] at H
       obtain ⟨rfl, rfl, rfl, rfl, rfl, rfl, rfl⟩ := H
       have hnb30 := NB668_654.out
       have hnc30 := NB654_668.out
       have hnb31 := NB668_661.out
       have hnc31 := NB661_668.out
       have hcz32_0 : wc.cell? ⟨gb668, 0, none⟩ = some (.int .i64 t662) := (blk_cell BK668.out 0).trans rfl
       have hcz32_1 : wc.cell? ⟨gb668, 1, none⟩ = some (.int .i64 t663) := (blk_cell BK668.out 1).trans rfl
       have hcz32_2 : wc.cell? ⟨gb668, 2, none⟩ = some (.int .i64 t664) := (blk_cell BK668.out 2).trans rfl
       have hcz32_3 : wc.cell? ⟨gb668, 3, none⟩ = some (.int .i64 t665) := (blk_cell BK668.out 3).trans rfl
       have hcz32_4 : wc.cell? ⟨gb668, 4, none⟩ = some (.int .i64 t666) := (blk_cell BK668.out 4).trans rfl
       have hfz32_0 := blk_frozen BK668.out 0
       have hfz32_1 := blk_frozen BK668.out 1
       have hfz32_2 := blk_frozen BK668.out 2
       have hfz32_3 := blk_frozen BK668.out 3
       have hfz32_4 := blk_frozen BK668.out 4
       have hnb33 := NB661_654.out
       have hnc33 := NB654_661.out
       have hcz34_0 : wc.cell? ⟨gb661, 0, none⟩ = some (.int .i64 t655) := (blk_cell BK661.out 0).trans rfl
       have hcz34_1 : wc.cell? ⟨gb661, 1, none⟩ = some (.int .i64 t656) := (blk_cell BK661.out 1).trans rfl
       have hcz34_2 : wc.cell? ⟨gb661, 2, none⟩ = some (.int .i64 t657) := (blk_cell BK661.out 2).trans rfl
       have hcz34_3 : wc.cell? ⟨gb661, 3, none⟩ = some (.int .i64 t658) := (blk_cell BK661.out 3).trans rfl
       have hcz34_4 : wc.cell? ⟨gb661, 4, none⟩ = some (.int .i64 t659) := (blk_cell BK661.out 4).trans rfl
       have hfz34_0 := blk_frozen BK661.out 0
       have hfz34_1 := blk_frozen BK661.out 1
       have hfz34_2 := blk_frozen BK661.out 2
       have hfz34_3 := blk_frozen BK661.out 3
       have hfz34_4 := blk_frozen BK661.out 4
       have hcz35_0 : wc.cell? ⟨gb654, 0, none⟩ = some (.int .i64 0) := (blk_cell BK654.out 0).trans rfl
       have hcz35_1 : wc.cell? ⟨gb654, 1, none⟩ = some (.int .i64 0) := (blk_cell BK654.out 1).trans rfl
       have hcz35_2 : wc.cell? ⟨gb654, 2, none⟩ = some (.int .i64 0) := (blk_cell BK654.out 2).trans rfl
       have hcz35_3 : wc.cell? ⟨gb654, 3, none⟩ = some (.int .i64 0) := (blk_cell BK654.out 3).trans rfl
       have hcz35_4 : wc.cell? ⟨gb654, 4, none⟩ = some (.int .i64 0) := (blk_cell BK654.out 4).trans rfl
       have hfz35_0 := blk_frozen BK654.out 0
       have hfz35_1 := blk_frozen BK654.out 1
       have hfz35_2 := blk_frozen BK654.out 2
       have hfz35_3 := blk_frozen BK654.out 3
       have hfz35_4 := blk_frozen BK654.out 4
       go_wp2
       refine bodyPost_ret (results_ctt rfl _ _ gb654 23 #[.int .i64 t655, .int .i64 t656, .int .i64 t657, .int .i64 t658, .int .i64 t659] (0, 0) _ rfl (by (with_reducible repeat (first | refine blk_drewN ?_ _ | refine blk_drew ?_ | refine blk_alloc ?_ _)); refine blk_put (cs := #[.int .i64 t655, .int .i64 t656, .int .i64 t657, .int .i64 t658, .int .i64 0]) ?_ 4 _ rfl; (with_reducible repeat (first | refine blk_drewN ?_ _ | refine blk_drew ?_ | refine blk_alloc ?_ _)); refine blk_put (cs := #[.int .i64 t655, .int .i64 t656, .int .i64 t657, .int .i64 0, .int .i64 0]) ?_ 3 _ rfl; (with_reducible repeat (first | refine blk_drewN ?_ _ | refine blk_drew ?_ | refine blk_alloc ?_ _)); refine blk_put (cs := #[.int .i64 t655, .int .i64 t656, .int .i64 0, .int .i64 0, .int .i64 0]) ?_ 2 _ rfl; (with_reducible repeat (first | refine blk_drewN ?_ _ | refine blk_drew ?_ | refine blk_alloc ?_ _)); refine blk_put (cs := #[.int .i64 t655, .int .i64 0, .int .i64 0, .int .i64 0, .int .i64 0]) ?_ 1 _ rfl; (with_reducible repeat (first | refine blk_drewN ?_ _ | refine blk_drew ?_ | refine blk_alloc ?_ _)); refine blk_put (cs := #[.int .i64 0, .int .i64 0, .int .i64 0, .int .i64 0, .int .i64 0]) ?_ 0 _ rfl; (with_reducible repeat (first | refine blk_drewN ?_ _ | refine blk_drew ?_ | refine blk_alloc ?_ _)); exact BK654.out) Try.underlying23 rfl (by kernel_rfl)) rfl ?_
       exact ⟨by first | rfl | (simp [errW_none, errW_some] <;> rfl) | (simp [*, errW_none, errW_some] <;> rfl), by repeat (first | (with_reducible first | exact HB.out | apply below_alloc | apply pw_below_drewN | apply below_drew1 | refine below_set ?_ GE654.out | refine below_set ?_ GE661.out | refine below_set ?_ GE668.out) | exact HB.out)⟩
     ·
      rw [if_neg c22] at H
      have c22b0 : (t667 == 0) = false := beq_eq_false_iff_ne.mpr c22
      have c22b1 : (t667 != 0) = true := bne_iff_ne.mpr c22
      simp only [Option.some.injEq, Prod.mk.injEq] at H
      obtain ⟨rfl, rfl, rfl, rfl, rfl, rfl, rfl⟩ := H
      have hnb36 := NB661_654.out
      have hnc36 := NB654_661.out
      have hnb37 := NB661_668.out
      have hnc37 := NB668_661.out
      have hcz38_0 : wc.cell? ⟨gb661, 0, none⟩ = some (.int .i64 t655) := (blk_cell BK661.out 0).trans rfl
      have hcz38_1 : wc.cell? ⟨gb661, 1, none⟩ = some (.int .i64 t656) := (blk_cell BK661.out 1).trans rfl
      have hcz38_2 : wc.cell? ⟨gb661, 2, none⟩ = some (.int .i64 t657) := (blk_cell BK661.out 2).trans rfl
      have hcz38_3 : wc.cell? ⟨gb661, 3, none⟩ = some (.int .i64 t658) := (blk_cell BK661.out 3).trans rfl
      have hcz38_4 : wc.cell? ⟨gb661, 4, none⟩ = some (.int .i64 t659) := (blk_cell BK661.out 4).trans rfl
      have hfz38_0 := blk_frozen BK661.out 0
      have hfz38_1 := blk_frozen BK661.out 1
      have hfz38_2 := blk_frozen BK661.out 2
      have hfz38_3 := blk_frozen BK661.out 3
      have hfz38_4 := blk_frozen BK661.out 4
      have hnb39 := NB654_668.out
      have hnc39 := NB668_654.out
      have hcz40_0 : wc.cell? ⟨gb654, 0, none⟩ = some (.int .i64 0) := (blk_cell BK654.out 0).trans rfl
      have hcz40_1 : wc.cell? ⟨gb654, 1, none⟩ = some (.int .i64 0) := (blk_cell BK654.out 1).trans rfl
      have hcz40_2 : wc.cell? ⟨gb654, 2, none⟩ = some (.int .i64 0) := (blk_cell BK654.out 2).trans rfl
      have hcz40_3 : wc.cell? ⟨gb654, 3, none⟩ = some (.int .i64 0) := (blk_cell BK654.out 3).trans rfl
      have hcz40_4 : wc.cell? ⟨gb654, 4, none⟩ = some (.int .i64 0) := (blk_cell BK654.out 4).trans rfl
      have hfz40_0 := blk_frozen BK654.out 0
      have hfz40_1 := blk_frozen BK654.out 1
      have hfz40_2 := blk_frozen BK654.out 2
      have hfz40_3 := blk_frozen BK654.out 3
      have hfz40_4 := blk_frozen BK654.out 4
      go_wp2
      refine bodyPost_ret (results_ctt rfl _ _ gb654 23 #[.int .i64 t655, .int .i64 t656, .int .i64 t657, .int .i64 t658, .int .i64 t659] (0, 0) _ rfl (by (with_reducible repeat (first | refine blk_drewN ?_ _ | refine blk_drew ?_ | refine blk_alloc ?_ _)); refine blk_put (cs := #[.int .i64 t655, .int .i64 t656, .int .i64 t657, .int .i64 t658, .int .i64 0]) ?_ 4 _ rfl; (with_reducible repeat (first | refine blk_drewN ?_ _ | refine blk_drew ?_ | refine blk_alloc ?_ _)); refine blk_put (cs := #[.int .i64 t655, .int .i64 t656, .int .i64 t657, .int .i64 0, .int .i64 0]) ?_ 3 _ rfl; (with_reducible repeat (first | refine blk_drewN ?_ _ | refine blk_drew ?_ | refine blk_alloc ?_ _)); refine blk_put (cs := #[.int .i64 t655, .int .i64 t656, .int .i64 0, .int .i64 0, .int .i64 0]) ?_ 2 _ rfl; (with_reducible repeat (first | refine blk_drewN ?_ _ | refine blk_drew ?_ | refine blk_alloc ?_ _)); refine blk_put (cs := #[.int .i64 t655, .int .i64 0, .int .i64 0, .int .i64 0, .int .i64 0]) ?_ 1 _ rfl; (with_reducible repeat (first | refine blk_drewN ?_ _ | refine blk_drew ?_ | refine blk_alloc ?_ _)); refine blk_put (cs := #[.int .i64 0, .int .i64 0, .int .i64 0, .int .i64 0, .int .i64 0]) ?_ 0 _ rfl; (with_reducible repeat (first | refine blk_drewN ?_ _ | refine blk_drew ?_ | refine blk_alloc ?_ _)); exact BK654.out) Try.underlying23 rfl (by kernel_rfl)) rfl ?_
      exact ⟨by first | rfl | (simp [errW_none, errW_some] <;> rfl) | (simp [*, errW_none, errW_some] <;> rfl), by repeat (first | (with_reducible first | exact HB.out | apply below_alloc | apply pw_below_drewN | apply below_drew1 | refine below_set ?_ GE654.out | refine below_set ?_ GE661.out | refine below_set ?_ GE668.out) | exact HB.out)⟩
    ·
     rw [if_neg c21] at H
     have c21b0 : (t660 == 0) = false := beq_eq_false_iff_ne.mpr c21
     have c21b1 : (t660 != 0) = true := bne_iff_ne.mpr c21
     simp only [Option.some.injEq, Prod.mk.injEq] at H
     obtain ⟨rfl, rfl, rfl, rfl, rfl, rfl, rfl⟩ := H
     have hnb41 := NB668_654.out
     have hnc41 := NB654_668.out
     have hnb42 := NB668_661.out
     have hnc42 := NB661_668.out
     have hcz43_0 : wc.cell? ⟨gb668, 0, none⟩ = some (.int .i64 t662) := (blk_cell BK668.out 0).trans rfl
     have hcz43_1 : wc.cell? ⟨gb668, 1, none⟩ = some (.int .i64 t663) := (blk_cell BK668.out 1).trans rfl
     have hcz43_2 : wc.cell? ⟨gb668, 2, none⟩ = some (.int .i64 t664) := (blk_cell BK668.out 2).trans rfl
     have hcz43_3 : wc.cell? ⟨gb668, 3, none⟩ = some (.int .i64 t665) := (blk_cell BK668.out 3).trans rfl
     have hcz43_4 : wc.cell? ⟨gb668, 4, none⟩ = some (.int .i64 t666) := (blk_cell BK668.out 4).trans rfl
     have hfz43_0 := blk_frozen BK668.out 0
     have hfz43_1 := blk_frozen BK668.out 1
     have hfz43_2 := blk_frozen BK668.out 2
     have hfz43_3 := blk_frozen BK668.out 3
     have hfz43_4 := blk_frozen BK668.out 4
     have hnb44 := NB654_661.out
     have hnc44 := NB661_654.out
     have hcz45_0 : wc.cell? ⟨gb654, 0, none⟩ = some (.int .i64 0) := (blk_cell BK654.out 0).trans rfl
     have hcz45_1 : wc.cell? ⟨gb654, 1, none⟩ = some (.int .i64 0) := (blk_cell BK654.out 1).trans rfl
     have hcz45_2 : wc.cell? ⟨gb654, 2, none⟩ = some (.int .i64 0) := (blk_cell BK654.out 2).trans rfl
     have hcz45_3 : wc.cell? ⟨gb654, 3, none⟩ = some (.int .i64 0) := (blk_cell BK654.out 3).trans rfl
     have hcz45_4 : wc.cell? ⟨gb654, 4, none⟩ = some (.int .i64 0) := (blk_cell BK654.out 4).trans rfl
     have hfz45_0 := blk_frozen BK654.out 0
     have hfz45_1 := blk_frozen BK654.out 1
     have hfz45_2 := blk_frozen BK654.out 2
     have hfz45_3 := blk_frozen BK654.out 3
     have hfz45_4 := blk_frozen BK654.out 4
     go_wp2
     refine bodyPost_ret (results_ctt rfl _ _ gb654 23 #[.int .i64 t662, .int .i64 t663, .int .i64 t664, .int .i64 t665, .int .i64 t666] (0, 0) _ rfl (by (with_reducible repeat (first | refine blk_drewN ?_ _ | refine blk_drew ?_ | refine blk_alloc ?_ _)); refine blk_put (cs := #[.int .i64 t662, .int .i64 t663, .int .i64 t664, .int .i64 t665, .int .i64 0]) ?_ 4 _ rfl; (with_reducible repeat (first | refine blk_drewN ?_ _ | refine blk_drew ?_ | refine blk_alloc ?_ _)); refine blk_put (cs := #[.int .i64 t662, .int .i64 t663, .int .i64 t664, .int .i64 0, .int .i64 0]) ?_ 3 _ rfl; (with_reducible repeat (first | refine blk_drewN ?_ _ | refine blk_drew ?_ | refine blk_alloc ?_ _)); refine blk_put (cs := #[.int .i64 t662, .int .i64 t663, .int .i64 0, .int .i64 0, .int .i64 0]) ?_ 2 _ rfl; (with_reducible repeat (first | refine blk_drewN ?_ _ | refine blk_drew ?_ | refine blk_alloc ?_ _)); refine blk_put (cs := #[.int .i64 t662, .int .i64 0, .int .i64 0, .int .i64 0, .int .i64 0]) ?_ 1 _ rfl; (with_reducible repeat (first | refine blk_drewN ?_ _ | refine blk_drew ?_ | refine blk_alloc ?_ _)); refine blk_put (cs := #[.int .i64 0, .int .i64 0, .int .i64 0, .int .i64 0, .int .i64 0]) ?_ 0 _ rfl; (with_reducible repeat (first | refine blk_drewN ?_ _ | refine blk_drew ?_ | refine blk_alloc ?_ _)); exact BK654.out) Try.underlying23 rfl (by kernel_rfl)) rfl ?_
     exact ⟨by first | rfl | (simp [errW_none, errW_some] <;> rfl) | (simp [*, errW_none, errW_some] <;> rfl), by repeat (first | (with_reducible first | exact HB.out | apply below_alloc | apply pw_below_drewN | apply below_drew1 | refine below_set ?_ GE654.out | refine below_set ?_ GE661.out | refine below_set ?_ GE668.out) | exact HB.out)⟩

end Go.Proofs.Ytiiphlfgdkjjiaa.Q
