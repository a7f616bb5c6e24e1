-- Written by a program of this session (pr2.py) that drives the kit's print. Lean checks it.
import Derived.Test.YteplhacanofeoaaQ0
import Derived.Test.YteplhacanofeoaaQ1
import Derived.Test.YteplhacanofeoaaQ2
import Derived.Test.YteplhacanofeoaaQ5
import Derived.Test.YteplhacanofeoaaQ6
import Derived.Test.YteplhacanofeoaaQ7
import Derived.Test.YteplhacanofeoaaQ10
import Derived.Test.YteplhacanofeoaaQ12
import Derived.Test.YteplhacanofeoaaQ17
namespace Go.Proofs.Yteplhacanofeoaa.Q
open Go.RowKit Go.Proofs.YteplhacanofeoaaW.PrintWords Go.Proofs.YteplhacanofeoaaW.PrintLast Go.Proofs.YteplhacanofeoaaW.PrintMore
attribute [local go_sem] max2_int min2_int max_two min_two max_three min_three max_four min_four   -- for this text's walks alone
set_option linter.unusedVariables false
set_option linter.unusedSimpArgs false

/-! ### transeptlaw15_RaftlogCopies: function 5 -/
mutual
def transeptlaw15_RaftlogCopies.j0 : Nat → List (S28) → Int → Bool → Int → Int → List (S28) → Option (Bool)
  | 0, _, _, _, _, _, _ => none
  | k + 1, x0, x1, x33, x291000, x291001, x291002 => if x33 = true then (if (x0.length : Int) > 60 then (some true) else ((transeptref15_Check.f k 0 0 x0).bind fun t293 => (some (t293 != 0)))) else (transeptlaw15_RaftlogCopies.l0 k x0 x1 0 x291000 x291001 x291002 0 0 ([] : List (S28)))
def transeptlaw15_RaftlogCopies.l0 : Nat → List (S28) → Int → Int → Int → Int → List (S28) → Int → Int → List (S28) → Option (Bool)
  | 0, _, _, _, _, _, _, _, _, _ => none
  | k + 1, x0, x1, x7, x291000, x291001, x291002, x295000, x295001, x295002 => if x7 < (x0.length : Int) then ((raftlog_From.f k x291000 x291001 x291002 (wrap64 (x7 + 1)) x1).bind fun bt296 => ((raftlog_Term.f k x291000 x291001 x291002 x7).bind fun bt300 => ((raftlog_Accept.f k x295000 x295001 x295002 x7 bt300.1 bt296.1).bind fun bt302 => ((transeptlaw15_num.f bt296.2).bind fun t310 => ((transeptlaw15_num.f bt300.2).bind fun t311 => ((transeptlaw15_num.f bt302.2.2.2.2).bind fun t312 => (if (wrap64 ((wrap64 (t310 + t311)) + t312)) = 0 then (if bt302.2.2.2.1 = (mn (wrap64 (x7 + x1)) (x0.length : Int)) then (transeptlaw15_RaftlogCopies.l0 k x0 x1 (wrap64 (x7 + x1)) x291000 x291001 x291002 bt302.1 bt302.2.1 bt302.2.2.1) else (none)) else (none)))))))) else ((transeptplain_SameEntries.f k x295002 x0).bind fun t295 => (some t295))
end
def transeptlaw15_RaftlogCopies.f (k : Nat) (l0 : List (S28)) (a1 : Int) : Option (Bool) := (transeptlaw15_alive.f k).bind fun t286 => (if t286 = true then ((transeptplain_CopyEntries.f k l0).bind fun t287 => ((raftlog_Check.f k 0 0 t287).bind fun t291 => ((transeptlaw15_num.f t291).bind fun t292 => (if t292 = 0 then (transeptlaw15_RaftlogCopies.j0 k l0 (wrap64 (1 + (Int.tmod (wrap64 ((Int.tmod a1 9) + 9)) 9))) (decide ((l0.length : Int) > 60)) 0 0 t287) else (transeptlaw15_RaftlogCopies.j0 k l0 (wrap64 (1 + (Int.tmod (wrap64 ((Int.tmod a1 9) + 9)) 9))) true 0 0 t287))))) else (none))
theorem transeptlaw15_RaftlogCopies.mono_l : ∀ k, (∀ y0 y1 y2 y3 y4 y5, LeO (transeptlaw15_RaftlogCopies.j0 k y0 y1 y2 y3 y4 y5) (transeptlaw15_RaftlogCopies.j0 (k + 1) y0 y1 y2 y3 y4 y5)) ∧ (∀ y0 y1 y2 y3 y4 y5 y6 y7 y8, LeO (transeptlaw15_RaftlogCopies.l0 k y0 y1 y2 y3 y4 y5 y6 y7 y8) (transeptlaw15_RaftlogCopies.l0 (k + 1) y0 y1 y2 y3 y4 y5 y6 y7 y8))
  | 0 => ⟨fun _ _ _ _ _ _ r h => by simp [transeptlaw15_RaftlogCopies.j0] at h, fun _ _ _ _ _ _ _ _ _ r h => by simp [transeptlaw15_RaftlogCopies.l0] at h⟩
  | k + 1 => by
    obtain ⟨ih0, ih1⟩ := transeptlaw15_RaftlogCopies.mono_l k
    refine ⟨?_, ?_⟩
    · intro y0 y1 y2 y3 y4 y5
      unfold transeptlaw15_RaftlogCopies.j0
      repeat' first
      | (with_reducible exact ih0 _ _ _ _ _ _)
      | (with_reducible exact ih1 _ _ _ _ _ _ _ _ _)
      | (with_reducible exact raftlog_Accept.mono _ _ _ _ _ _ _)
      | (with_reducible exact raftlog_Check.mono _ _ _ _)
      | (with_reducible exact raftlog_From.mono _ _ _ _ _ _)
      | (with_reducible exact raftlog_Term.mono _ _ _ _ _)
      | (with_reducible exact transeptlaw15_alive.mono _)
      | (with_reducible exact transeptplain_CopyEntries.mono _ _)
      | (with_reducible exact transeptplain_SameEntries.mono _ _ _)
      | (with_reducible exact transeptref15_Check.mono _ _ _ _)
      | (with_reducible exact LeO.refl _)
      | (with_reducible exact LeO.none _)
      | (with_reducible refine LeO.ite ?_ ?_)
      | (with_reducible refine LeO.bind ?_ (fun _ => ?_))
      | exact ih0 _ _ _ _ _ _
      | exact ih1 _ _ _ _ _ _ _ _ _
      | exact raftlog_Accept.mono _ _ _ _ _ _ _
      | exact raftlog_Check.mono _ _ _ _
      | exact raftlog_From.mono _ _ _ _ _ _
      | exact raftlog_Term.mono _ _ _ _ _
      | exact transeptlaw15_alive.mono _
      | exact transeptplain_CopyEntries.mono _ _
      | exact transeptplain_SameEntries.mono _ _ _
      | exact transeptref15_Check.mono _ _ _ _
      | exact LeO.none _
      | refine LeO.ite ?_ ?_
      | refine LeO.bind ?_ (fun _ => ?_)
    · intro y0 y1 y2 y3 y4 y5 y6 y7 y8
      unfold transeptlaw15_RaftlogCopies.l0
      repeat' first
      | (with_reducible exact ih0 _ _ _ _ _ _)
      | (with_reducible exact ih1 _ _ _ _ _ _ _ _ _)
      | (with_reducible exact raftlog_Accept.mono _ _ _ _ _ _ _)
      | (with_reducible exact raftlog_Check.mono _ _ _ _)
      | (with_reducible exact raftlog_From.mono _ _ _ _ _ _)
      | (with_reducible exact raftlog_Term.mono _ _ _ _ _)
      | (with_reducible exact transeptlaw15_alive.mono _)
      | (with_reducible exact transeptplain_CopyEntries.mono _ _)
      | (with_reducible exact transeptplain_SameEntries.mono _ _ _)
      | (with_reducible exact transeptref15_Check.mono _ _ _ _)
      | (with_reducible exact LeO.refl _)
      | (with_reducible exact LeO.none _)
      | (with_reducible refine LeO.ite ?_ ?_)
      | (with_reducible refine LeO.bind ?_ (fun _ => ?_))
      | exact ih0 _ _ _ _ _ _
      | exact ih1 _ _ _ _ _ _ _ _ _
      | exact raftlog_Accept.mono _ _ _ _ _ _ _
      | exact raftlog_Check.mono _ _ _ _
      | exact raftlog_From.mono _ _ _ _ _ _
      | exact raftlog_Term.mono _ _ _ _ _
      | exact transeptlaw15_alive.mono _
      | exact transeptplain_CopyEntries.mono _ _
      | exact transeptplain_SameEntries.mono _ _ _
      | exact transeptref15_Check.mono _ _ _ _
      | exact LeO.none _
      | refine LeO.ite ?_ ?_
      | refine LeO.bind ?_ (fun _ => ?_)
theorem transeptlaw15_RaftlogCopies.mono : ∀ a0 a1 k, LeO (transeptlaw15_RaftlogCopies.f k a0 a1) (transeptlaw15_RaftlogCopies.f (k + 1) a0 a1) := by
  intro a0 a1 k
  obtain ⟨ih0, ih1⟩ := transeptlaw15_RaftlogCopies.mono_l k
  unfold transeptlaw15_RaftlogCopies.f
  repeat' first
      | (with_reducible exact ih0 _ _ _ _ _ _)
      | (with_reducible exact ih1 _ _ _ _ _ _ _ _ _)
      | (with_reducible exact raftlog_Accept.mono _ _ _ _ _ _ _)
      | (with_reducible exact raftlog_Check.mono _ _ _ _)
      | (with_reducible exact raftlog_From.mono _ _ _ _ _ _)
      | (with_reducible exact raftlog_Term.mono _ _ _ _ _)
      | (with_reducible exact transeptlaw15_alive.mono _)
      | (with_reducible exact transeptplain_CopyEntries.mono _ _)
      | (with_reducible exact transeptplain_SameEntries.mono _ _ _)
      | (with_reducible exact transeptref15_Check.mono _ _ _ _)
      | (with_reducible exact LeO.refl _)
      | (with_reducible exact LeO.none _)
      | (with_reducible refine LeO.ite ?_ ?_)
      | (with_reducible refine LeO.bind ?_ (fun _ => ?_))
      | exact ih0 _ _ _ _ _ _
      | exact ih1 _ _ _ _ _ _ _ _ _
      | exact raftlog_Accept.mono _ _ _ _ _ _ _
      | exact raftlog_Check.mono _ _ _ _
      | exact raftlog_From.mono _ _ _ _ _ _
      | exact raftlog_Term.mono _ _ _ _ _
      | exact transeptlaw15_alive.mono _
      | exact transeptplain_CopyEntries.mono _ _
      | exact transeptplain_SameEntries.mono _ _ _
      | exact transeptref15_Check.mono _ _ _ _
      | exact LeO.none _
      | refine LeO.ite ?_ ?_
      | refine LeO.bind ?_ (fun _ => ?_)
set_option maxHeartbeats 8000000 in
set_option maxRecDepth 100000 in
theorem transeptlaw15_RaftlogCopies.calls (k : Nat) (A0 : Option Addr) (c0 : Nat) (l0 : List (S28)) (a1 : Int) (r : Bool) (w : World) (hr0 : Kd.C k28 w A0 l0.length l0) (hc0 : l0.length ≤ c0) (h : transeptlaw15_RaftlogCopies.f k l0 a1 = some r) :
    Calls Try.prog 5 #[.slice A0 l0.length c0, .int .i64 a1] w fun e w' => e = .returned (.bool r) ∧ Below w.heap.size w w' := by
 have hu30 := Try.underlying30
 have hu35 := Try.underlying35
 have HR0 := Aside0.mk hr0
 have HC0 := Aside0.mk hc0
 clear hr0 hc0
 have HB := Aside0.mk (Below.refl w.heap.size w)
 have H : ((transeptlaw15_alive.f k).bind fun t286 => (if t286 = true then ((transeptplain_CopyEntries.f k l0).bind fun t287 => ((raftlog_Check.f k 0 0 t287).bind fun t291 => ((transeptlaw15_num.f t291).bind fun t292 => (if t292 = 0 then (transeptlaw15_RaftlogCopies.j0 k l0 (wrap64 (1 + (Int.tmod (wrap64 ((Int.tmod a1 9) + 9)) 9))) (decide ((l0.length : Int) > 60)) 0 0 t287) else (transeptlaw15_RaftlogCopies.j0 k l0 (wrap64 (1 + (Int.tmod (wrap64 ((Int.tmod a1 9) + 9)) 9))) true 0 0 t287))))) else (none))) = some r := h
 clear h
 replace H := Option.bind_eq_some_iff.mp H
 obtain ⟨t286, A30, H⟩ := H
 replace H : (if t286 = true then ((transeptplain_CopyEntries.f k l0).bind fun t287 => ((raftlog_Check.f k 0 0 t287).bind fun t291 => ((transeptlaw15_num.f t291).bind fun t292 => (if t292 = 0 then (transeptlaw15_RaftlogCopies.j0 k l0 (wrap64 (1 + (Int.tmod (wrap64 ((Int.tmod a1 9) + 9)) 9))) (decide ((l0.length : Int) > 60)) 0 0 t287) else (transeptlaw15_RaftlogCopies.j0 k l0 (wrap64 (1 + (Int.tmod (wrap64 ((Int.tmod a1 9) + 9)) 9))) true 0 0 t287))))) else (none)) = some r := H
 have A3 := Aside0.mk A30
 clear A30
 by_cases c4 : t286 = true
 ·
  subst c4
  have H1 : ((transeptplain_CopyEntries.f k l0).bind fun t287 => ((raftlog_Check.f k 0 0 t287).bind fun t291 => ((transeptlaw15_num.f t291).bind fun t292 => (if t292 = 0 then (transeptlaw15_RaftlogCopies.j0 k l0 (wrap64 (1 + (Int.tmod (wrap64 ((Int.tmod a1 9) + 9)) 9))) (decide ((l0.length : Int) > 60)) 0 0 t287) else (transeptlaw15_RaftlogCopies.j0 k l0 (wrap64 (1 + (Int.tmod (wrap64 ((Int.tmod a1 9) + 9)) 9))) true 0 0 t287))))) = some r := by rw [if_pos rfl] at H; exact H
  clear H
  have H := H1
  clear H1
  replace H := Option.bind_eq_some_iff.mp H
  obtain ⟨t287, A50, H⟩ := H
  replace H : ((raftlog_Check.f k 0 0 t287).bind fun t291 => ((transeptlaw15_num.f t291).bind fun t292 => (if t292 = 0 then (transeptlaw15_RaftlogCopies.j0 k l0 (wrap64 (1 + (Int.tmod (wrap64 ((Int.tmod a1 9) + 9)) 9))) (decide ((l0.length : Int) > 60)) 0 0 t287) else (transeptlaw15_RaftlogCopies.j0 k l0 (wrap64 (1 + (Int.tmod (wrap64 ((Int.tmod a1 9) + 9)) 9))) true 0 0 t287)))) = some r := H
  have A5 := Aside0.mk A50
  clear A50
  have HC6 := Aside0.mk H
  clear H
  go_enter Try.func5, Try.ntmps5
  go_upto_region 5 with (first | ((with_reducible refine gate_callee (f := 8) rfl ?_); refine goesL_ (some 15) rfl rfl Try.func8 (by kernel_rfl) rfl #[] rfl (by (try simp only [List.map_toArray, List.map_cons, List.map_nil]); first | done | rfl | (simp only [List.length_drop, List.length_take]; rfl)) ?_; (with_reducible refine (transeptlaw15_alive.calls k  true _ A3.out).mono ?_); rintro e w7 ⟨rfl, hb⟩; refine ⟨_, rfl, ?_⟩; have n0_ := Aside0.mk (below_step (by repeat (first | (with_reducible first | exact HB.out | apply below_alloc | apply pw_below_drewN | apply below_drew1) | exact HB.out)) hb); clear HB; have HB := n0_; clear n0_; (try clear hb); (try clear hb2); (try clear hk); (try clear hi)) | ((with_reducible refine gate_callee (f := 18) rfl ?_); refine goesL_ (some 23) rfl rfl Try.func18 (by kernel_rfl) rfl #[.slice A0 l0.length c0] rfl (by (try simp only [List.map_toArray, List.map_cons, List.map_nil]); first | done | rfl | (simp only [List.length_drop, List.length_take]; rfl)) ?_; (with_reducible refine (transeptplain_CopyEntries.calls k _ _ l0 t287 _ ?side1 ?side2 A5.out).mono ?_); (case side1 => repeat (first | exact (Kd.C_below HR0.out HB.out) | (with_reducible refine Kd.C_alloc ?_ _) | (with_reducible refine Kd.C_drewN ?_ _) | (with_reducible refine Kd.C_drew ?_))); (case side2 => exact HC0.out); rintro e w8 ⟨v288, rfl, ho0, hb⟩; refine ⟨_, rfl, ?_⟩; have n0_ := Aside0.mk (Kd.S_lower ho0 (below_size (by repeat (first | (with_reducible first | exact HB.out | apply below_alloc | apply pw_below_drewN | apply below_drew1) | exact HB.out)))); have n1_ := Aside0.mk (below_step (by repeat (first | (with_reducible first | exact HB.out | apply below_alloc | apply pw_below_drewN | apply below_drew1) | exact HB.out)) hb); clear HB; have HO289 := n0_; have HB := n1_; clear n0_ n1_; (try clear hb); (try clear hb2); (try clear hk); (try clear hi); (try clear ho0); obtain ⟨Ao9, co9, eo9⟩ := Kd.S_slice HO289.out; subst eo9) | ((with_reducible refine gate_dst (N := 5) rfl ?_); (try (refine gate_guard (by rfl) ?_; dsimp only)); refine box_event ?hg (N := 5) ?hd (cs := #[.int .i64 0, .int .i64 0, .slice none 0 0]) (t := 30) ?hr ?_; (case hd => rfl); (case hg => rfl); (case hr => first | (go_simp; done) | (go_simp; rfl)); intro gb290 hg w10 hbox hb; have n0_ := Aside0.mk (Kd.S_below (by (with_reducible repeat (first | apply Kd.S_alloc | apply Kd.S_drewN | apply Kd.S_drew)); exact HO289.out) hb); have n1_ := Aside0.mk (below_step (by repeat (first | (with_reducible first | exact HB.out | apply below_alloc | apply pw_below_drewN | apply below_drew1) | exact HB.out)) hb); have n2_ := Aside0.mk (hbox); have n3_ := Aside0.mk ((by rw [hg]; exact (below_size (by repeat (first | (with_reducible first | exact HB.out | apply below_alloc | apply pw_below_drewN | apply below_drew1) | exact HB.out))) : w.heap.size ≤ gb290)); have n4_ := Aside0.mk ((by rw [hg]; exact (below_size (by repeat (first | (with_reducible first | exact HB.out | apply below_alloc | apply pw_below_drewN | apply below_drew1) | exact HB.out))) : w.heap.size ≤ gb290)); clear HO289; clear HB; have HO289 := n0_; have HB := n1_; have BK290 := n2_; have GW290 := n3_; have GE290 := n4_; clear n0_ n1_ n2_ n3_ n4_; clear hb hbox hg; have hcz11_0 : w10.cell? ⟨gb290, 0, none⟩ = some (.int .i64 0) := (blk_cell BK290.out 0).trans rfl; have hcz11_1 : w10.cell? ⟨gb290, 1, none⟩ = some (.int .i64 0) := (blk_cell BK290.out 1).trans rfl; have hcz11_2 : w10.cell? ⟨gb290, 2, none⟩ = some (.slice none 0 0) := (blk_cell BK290.out 2).trans rfl; have hfz11_0 := blk_frozen BK290.out 0; have hfz11_1 := blk_frozen BK290.out 1; have hfz11_2 := blk_frozen BK290.out 2))
  (try simp only [Act.put, List.setIfInBounds_toArray, List.set_cons_zero, List.set_cons_succ])
  go_cut [33] (fun v33 wc => ∃ (kq : Nat) (x33_5 : Bool), v33 = .bool x33_5 ∧ Aside0 (transeptlaw15_RaftlogCopies.j0 kq l0 (wrap64 (1 + (Int.tmod (wrap64 ((Int.tmod a1 9) + 9)) 9))) x33_5 0 0 t287 = some r) ∧ Aside0 (kq ≤ k) ∧ Aside0 (Kd.S k28 28 wc w.heap.size (fun _ => True) (.slice Ao9 t287.length co9) t287) ∧ Aside0 (wc.heap[gb290]? = some (.cells #[.int .i64 0, .int .i64 0, (.slice Ao9 t287.length co9)] 30 (0, 0))) ∧ Aside0 (Below w.heap.size w wc))
  case first =>
   have H := HC6.out
   clear HC6
   replace H := Option.bind_eq_some_iff.mp H
   obtain ⟨t291, A120, H⟩ := H
   replace H : ((transeptlaw15_num.f t291).bind fun t292 => (if t292 = 0 then (transeptlaw15_RaftlogCopies.j0 k l0 (wrap64 (1 + (Int.tmod (wrap64 ((Int.tmod a1 9) + 9)) 9))) (decide ((l0.length : Int) > 60)) 0 0 t287) else (transeptlaw15_RaftlogCopies.j0 k l0 (wrap64 (1 + (Int.tmod (wrap64 ((Int.tmod a1 9) + 9)) 9))) true 0 0 t287))) = some r := H
   have A12 := Aside0.mk A120
   clear A120
   replace H := Option.bind_eq_some_iff.mp H
   obtain ⟨t292, A130, H⟩ := H
   replace H : (if t292 = 0 then (transeptlaw15_RaftlogCopies.j0 k l0 (wrap64 (1 + (Int.tmod (wrap64 ((Int.tmod a1 9) + 9)) 9))) (decide ((l0.length : Int) > 60)) 0 0 t287) else (transeptlaw15_RaftlogCopies.j0 k l0 (wrap64 (1 + (Int.tmod (wrap64 ((Int.tmod a1 9) + 9)) 9))) true 0 0 t287)) = some r := H
   have A13 := Aside0.mk A130
   clear A130
   by_cases c14 : t292 = 0
   ·
    rw [if_pos c14] at H
    have c14b0 : (t292 == 0) = true := beq_iff_eq.mpr c14
    have c14b1 : (t292 != 0) = false := bne_eq_false_iff_eq.mpr c14
    clear c14
    (first | rw [c14b0] | (simp only [i64_w, i32_w]; rw [c14b0]) | skip)
    have H' := Aside0.mk H
    clear H
    have hcz15_0 : w10.cell? ⟨gb290, 0, none⟩ = some (.int .i64 0) := (blk_cell BK290.out 0).trans rfl
    have hcz15_1 : w10.cell? ⟨gb290, 1, none⟩ = some (.int .i64 0) := (blk_cell BK290.out 1).trans rfl
    have hcz15_2 : w10.cell? ⟨gb290, 2, none⟩ = some (.slice none 0 0) := (blk_cell BK290.out 2).trans rfl
    have hfz15_0 := blk_frozen BK290.out 0
    have hfz15_1 := blk_frozen BK290.out 1
    have hfz15_2 := blk_frozen BK290.out 2
    go_wp2_with (first | ((with_reducible refine gate_callee (f := 19) rfl ?_); refine goesL_ (some 26) rfl rfl Try.func19 (by kernel_rfl) rfl #[.agg #[.int .i64 0, .int .i64 0, .slice Ao9 t287.length co9]] rfl (by (try simp only [List.map_toArray, List.map_cons, List.map_nil]); first | done | rfl | (simp only [List.length_drop, List.length_take]; rfl)) ?_; (with_reducible refine (raftlog_Check.calls k 0 0 _ _ t287 t291 _ ?side1 ?side2 A12.out).mono ?_); (case side1 => refine (Kd.S_reads' (e := 28) (base := w.heap.size) (ok := fun k_ => True) (n := t287.length) (c := co9) ?_).2.2; exact (by (with_reducible repeat (first | apply Kd.S_alloc | apply Kd.S_drewN | apply Kd.S_drew)); exact (Kd.S_mono (Kd.S_far (p := ⟨gb290, 2, none⟩) (Kd.S_far (p := ⟨gb290, 1, none⟩) (Kd.S_far (p := ⟨gb290, 0, none⟩) (Kd.S_types HO289.out BK290.out (by decide)) (fun _ hk => hk.2) (.int .i64 0)) (fun _ hk => hk.2) (.int .i64 0)) (fun _ hk => hk.2) (.slice Ao9 t287.length co9)) (fun _ h_ => h_.1)))); (case side2 => exact (Kd.S_reads' HO289.out).2.1); rintro e w16 ⟨rfl, hb⟩; refine ⟨_, rfl, ?_⟩; have n0_ := Aside0.mk (Kd.S_below (by (with_reducible repeat (first | apply Kd.S_alloc | apply Kd.S_drewN | apply Kd.S_drew)); exact (Kd.S_mono (Kd.S_far (p := ⟨gb290, 2, none⟩) (Kd.S_far (p := ⟨gb290, 1, none⟩) (Kd.S_far (p := ⟨gb290, 0, none⟩) (Kd.S_types HO289.out BK290.out (by decide)) (fun _ hk => hk.2) (.int .i64 0)) (fun _ hk => hk.2) (.int .i64 0)) (fun _ hk => hk.2) (.slice Ao9 t287.length co9)) (fun _ h_ => h_.1))) hb); have n1_ := Aside0.mk (blk_below (g := gb290) (o := .cells #[.int .i64 0, .int .i64 0, .slice Ao9 t287.length co9] 30 (0, 0)) (by (with_reducible repeat (first | refine blk_drewN ?_ _ | refine blk_drew ?_ | refine blk_alloc ?_ _)); refine blk_put (cs := #[.int .i64 0, .int .i64 0, .slice none 0 0]) ?_ 2 _ rfl; (with_reducible repeat (first | refine blk_drewN ?_ _ | refine blk_drew ?_ | refine blk_alloc ?_ _)); refine blk_put (cs := #[.int .i64 0, .int .i64 0, .slice none 0 0]) ?_ 1 _ rfl; (with_reducible repeat (first | refine blk_drewN ?_ _ | refine blk_drew ?_ | refine blk_alloc ?_ _)); refine blk_put (cs := #[.int .i64 0, .int .i64 0, .slice none 0 0]) ?_ 0 _ rfl; (with_reducible repeat (first | refine blk_drewN ?_ _ | refine blk_drew ?_ | refine blk_alloc ?_ _)); exact BK290.out) hb); have n2_ := Aside0.mk (below_step (by repeat (first | (with_reducible first | exact HB.out | apply below_alloc | apply pw_below_drewN | apply below_drew1 | refine below_set ?_ GE290.out) | exact HB.out)) hb); clear HO289; clear BK290; clear HB; have HO289 := n0_; have BK290 := n1_; have HB := n2_; clear n0_ n1_ n2_; (try clear hb); (try clear hb2); (try clear hk); (try clear hi)) | ((with_reducible refine gate_callee (f := 14) rfl ?_); refine goesL_ (some 27) rfl rfl Try.func14 (by kernel_rfl) rfl #[.int .i64 t291] rfl (by (try simp only [List.map_toArray, List.map_cons, List.map_nil]); first | done | rfl | (simp only [List.length_drop, List.length_take]; rfl)) ?_; (with_reducible refine (transeptlaw15_num.calls t291 t292 _ A13.out).mono ?_); rintro e w' ⟨rfl, ⟨nd, rfl⟩⟩; refine ⟨_, rfl, ?_⟩))
    go_meet
    case rel => exact ⟨_, (decide ((l0.length : Int) > 60)), (by first | rfl | (simp; done) | (simp [*]; done)), H', ⟨by first | omega | exact Nat.le_refl _⟩, ⟨by (with_reducible repeat (first | apply Kd.S_alloc | apply Kd.S_drewN | apply Kd.S_drew)); exact HO289.out⟩, ⟨by (with_reducible repeat (first | refine blk_drewN ?_ _ | refine blk_drew ?_ | refine blk_alloc ?_ _)); exact BK290.out⟩, ⟨by repeat (first | (with_reducible first | exact HB.out | apply below_alloc | apply pw_below_drewN | apply below_drew1 | refine below_set ?_ GE290.out) | exact HB.out)⟩⟩
   ·
    rw [if_neg c14] at H
    have c14b0 : (t292 == 0) = false := beq_eq_false_iff_ne.mpr c14
    have c14b1 : (t292 != 0) = true := bne_iff_ne.mpr c14
    (first | rw [c14b0] | (simp only [i64_w, i32_w]; rw [c14b0]) | skip)
    have H' := Aside0.mk H
    clear H
    have hcz17_0 : w10.cell? ⟨gb290, 0, none⟩ = some (.int .i64 0) := (blk_cell BK290.out 0).trans rfl
    have hcz17_1 : w10.cell? ⟨gb290, 1, none⟩ = some (.int .i64 0) := (blk_cell BK290.out 1).trans rfl
    have hcz17_2 : w10.cell? ⟨gb290, 2, none⟩ = some (.slice none 0 0) := (blk_cell BK290.out 2).trans rfl
    have hfz17_0 := blk_frozen BK290.out 0
    have hfz17_1 := blk_frozen BK290.out 1
    have hfz17_2 := blk_frozen BK290.out 2
    go_wp2_with (first | ((with_reducible refine gate_callee (f := 19) rfl ?_); refine goesL_ (some 26) rfl rfl Try.func19 (by kernel_rfl) rfl #[.agg #[.int .i64 0, .int .i64 0, .slice Ao9 t287.length co9]] rfl (by (try simp only [List.map_toArray, List.map_cons, List.map_nil]); first | done | rfl | (simp only [List.length_drop, List.length_take]; rfl)) ?_; (with_reducible refine (raftlog_Check.calls k 0 0 _ _ t287 t291 _ ?side1 ?side2 A12.out).mono ?_); (case side1 => refine (Kd.S_reads' (e := 28) (base := w.heap.size) (ok := fun k_ => True) (n := t287.length) (c := co9) ?_).2.2; exact (by (with_reducible repeat (first | apply Kd.S_alloc | apply Kd.S_drewN | apply Kd.S_drew)); exact (Kd.S_mono (Kd.S_far (p := ⟨gb290, 2, none⟩) (Kd.S_far (p := ⟨gb290, 1, none⟩) (Kd.S_far (p := ⟨gb290, 0, none⟩) (Kd.S_types HO289.out BK290.out (by decide)) (fun _ hk => hk.2) (.int .i64 0)) (fun _ hk => hk.2) (.int .i64 0)) (fun _ hk => hk.2) (.slice Ao9 t287.length co9)) (fun _ h_ => h_.1)))); (case side2 => exact (Kd.S_reads' HO289.out).2.1); rintro e w18 ⟨rfl, hb⟩; refine ⟨_, rfl, ?_⟩; have n0_ := Aside0.mk (Kd.S_below (by (with_reducible repeat (first | apply Kd.S_alloc | apply Kd.S_drewN | apply Kd.S_drew)); exact (Kd.S_mono (Kd.S_far (p := ⟨gb290, 2, none⟩) (Kd.S_far (p := ⟨gb290, 1, none⟩) (Kd.S_far (p := ⟨gb290, 0, none⟩) (Kd.S_types HO289.out BK290.out (by decide)) (fun _ hk => hk.2) (.int .i64 0)) (fun _ hk => hk.2) (.int .i64 0)) (fun _ hk => hk.2) (.slice Ao9 t287.length co9)) (fun _ h_ => h_.1))) hb); have n1_ := Aside0.mk (blk_below (g := gb290) (o := .cells #[.int .i64 0, .int .i64 0, .slice Ao9 t287.length co9] 30 (0, 0)) (by (with_reducible repeat (first | refine blk_drewN ?_ _ | refine blk_drew ?_ | refine blk_alloc ?_ _)); refine blk_put (cs := #[.int .i64 0, .int .i64 0, .slice none 0 0]) ?_ 2 _ rfl; (with_reducible repeat (first | refine blk_drewN ?_ _ | refine blk_drew ?_ | refine blk_alloc ?_ _)); refine blk_put (cs := #[.int .i64 0, .int .i64 0, .slice none 0 0]) ?_ 1 _ rfl; (with_reducible repeat (first | refine blk_drewN ?_ _ | refine blk_drew ?_ | refine blk_alloc ?_ _)); refine blk_put (cs := #[.int .i64 0, .int .i64 0, .slice none 0 0]) ?_ 0 _ rfl; (with_reducible repeat (first | refine blk_drewN ?_ _ | refine blk_drew ?_ | refine blk_alloc ?_ _)); exact BK290.out) hb); have n2_ := Aside0.mk (below_step (by repeat (first | (with_reducible first | exact HB.out | apply below_alloc | apply pw_below_drewN | apply below_drew1 | refine below_set ?_ GE290.out) | exact HB.out)) hb); clear HO289; clear BK290; clear HB; have HO289 := n0_; have BK290 := n1_; have HB := n2_; clear n0_ n1_ n2_; (try clear hb); (try clear hb2); (try clear hk); (try clear hi)) | ((with_reducible refine gate_callee (f := 14) rfl ?_); refine goesL_ (some 27) rfl rfl Try.func14 (by kernel_rfl) rfl #[.int .i64 t291] rfl (by (try simp only [List.map_toArray, List.map_cons, List.map_nil]); first | done | rfl | (simp only [List.length_drop, List.length_take]; rfl)) ?_; (with_reducible refine (transeptlaw15_num.calls t291 t292 _ A13.out).mono ?_); rintro e w' ⟨rfl, ⟨nd, rfl⟩⟩; refine ⟨_, rfl, ?_⟩))
    go_meet
    case rel => exact ⟨_, (true), (by first | rfl | (simp; done) | (simp [*]; done)), H', ⟨by first | omega | exact Nat.le_refl _⟩, ⟨by (with_reducible repeat (first | apply Kd.S_alloc | apply Kd.S_drewN | apply Kd.S_drew)); exact HO289.out⟩, ⟨by (with_reducible repeat (first | refine blk_drewN ?_ _ | refine blk_drew ?_ | refine blk_alloc ?_ _)); exact BK290.out⟩, ⟨by repeat (first | (with_reducible first | exact HB.out | apply below_alloc | apply pw_below_drewN | apply below_drew1 | refine below_set ?_ GE290.out) | exact HB.out)⟩⟩
  case rest =>
   clear HC6
   try clear c1
   try clear p2
   try clear c4
   try clear c5
   try clear p6
   try clear c8
   try clear c14
   try clear c14b0
   try clear c14b1
   try clear c18
   try clear hcz11_0
   try clear hcz11_1
   try clear hcz11_2
   try clear hcz15_0
   try clear hcz15_1
   try clear hcz15_2
   try clear hcz17_0
   try clear hcz17_1
   try clear hcz17_2
   try clear hfz11_0
   try clear hfz11_1
   try clear hfz11_2
   try clear hfz15_0
   try clear hfz15_1
   try clear hfz15_2
   try clear hfz17_0
   try clear hfz17_1
   try clear hfz17_2
   obtain ⟨kq, x33_5, rfl, HA, HJ5, HO_291002, BK290, HB⟩ := hcut
   cases kq with
   | zero => exact absurd HA.out (by simp [transeptlaw15_RaftlogCopies.j0])
   | succ kj5 =>
    have H := HA.out
    clear HA
    simp only [transeptlaw15_RaftlogCopies.j0] at H
    by_cases c19 : x33_5 = true
    ·
     subst c19
     have H1 : (if (l0.length : Int) > 60 then (some true) else ((transeptref15_Check.f kj5 0 0 l0).bind fun t293 => (some (t293 != 0)))) = some r := by rw [if_pos rfl] at H; exact H
     clear H
     have H := H1
     clear H1
     by_cases c20 : (l0.length : Int) > 60
     ·
      rw [if_pos c20] at H
      have c20b0 : decide (60 < (l0.length : Int)) = true := decide_eq_true c20
      have c20b1 : decide (60 < l0.length) = true := decide_eq_true (by omega)
      clear c20
      obtain rfl := Option.some.inj H
      go_wp2
      go_ret
      exact ⟨by first | rfl | (simp [errW_none, errW_some] <;> rfl) | (simp [*, errW_none, errW_some] <;> rfl), by repeat (first | (with_reducible first | exact HB.out | apply below_alloc | apply pw_below_drewN | apply below_drew1 | refine below_set ?_ GE290.out) | exact HB.out)⟩
     ·
      rw [if_neg c20] at H
      have c20b0 : decide (60 < (l0.length : Int)) = false := decide_eq_false c20
      have c20b1 : decide (60 < l0.length) = false := decide_eq_false (by omega)
      clear c20
      replace H := Option.bind_eq_some_iff.mp H
      obtain ⟨t293, A210, H⟩ := H
      replace H : (some (t293 != 0)) = some r := H
      have A21 := Aside0.mk A210
      clear A210
      obtain rfl := Option.some.inj H
      go_wp2_with (first | (go_at_call 20; (with_reducible refine (transeptref15_Check.calls kj5 0 0 _ _ l0 t293 _ ?side1 ?side2 A21.out).mono ?_); (case side1 => repeat (first | exact (Kd.C_below HR0.out HB.out) | (with_reducible refine Kd.C_alloc ?_ _) | (with_reducible refine Kd.C_drewN ?_ _) | (with_reducible refine Kd.C_drew ?_))); (case side2 => exact HC0.out); rintro e w22 ⟨rfl, hb⟩; have n0_ := Aside0.mk (Kd.S_below (by (with_reducible repeat (first | apply Kd.S_alloc | apply Kd.S_drewN | apply Kd.S_drew)); exact HO_291002.out) hb); have n1_ := Aside0.mk (blk_below (g := gb290) (o := .cells #[.int .i64 0, .int .i64 0, .slice Ao9 t287.length co9] 30 (0, 0)) (by (with_reducible repeat (first | refine blk_drewN ?_ _ | refine blk_drew ?_ | refine blk_alloc ?_ _)); exact BK290.out) hb); have n2_ := Aside0.mk (below_step (by repeat (first | (with_reducible first | exact HB.out | apply below_alloc | apply pw_below_drewN | apply below_drew1 | refine below_set ?_ GE290.out) | exact HB.out)) hb); clear HO_291002; clear BK290; clear HB; have HO_291002 := n0_; have BK290 := n1_; have HB := n2_; clear n0_ n1_ n2_; (try clear hb); (try clear hb2); (try clear hk); (try clear hi)))
      go_ret
      exact ⟨by first | rfl | (simp [errW_none, errW_some] <;> rfl) | (simp [*, errW_none, errW_some] <;> rfl), by repeat (first | (with_reducible first | exact HB.out | apply below_alloc | apply pw_below_drewN | apply below_drew1 | refine below_set ?_ GE290.out) | exact HB.out)⟩
    ·
     replace c19 := Bool.eq_false_iff.mpr c19
     subst c19
     have H1 : (transeptlaw15_RaftlogCopies.l0 kj5 l0 (wrap64 (1 + (Int.tmod (wrap64 ((Int.tmod a1 9) + 9)) 9))) 0 0 0 t287 0 0 ([] : List (S28))) = some r := by rw [if_neg (show ¬ (false = true) by decide)] at H; exact H
     clear H
     have H := H1
     clear H1
     have H' := Aside0.mk H
     clear H
     go_wp2_with (first | ((with_reducible refine gate_dst (N := 6) rfl ?_); (try (refine gate_guard (by rfl) ?_; dsimp only)); refine box_event ?hg (N := 6) ?hd (cs := #[.int .i64 0, .int .i64 0, .slice none 0 0]) (t := 30) ?hr ?_; (case hd => rfl); (case hg => rfl); (case hr => first | (go_simp; done) | (go_simp; rfl)); intro gb294 hg w23 hbox hb; have n0_ := Aside0.mk (Kd.S_below (by (with_reducible repeat (first | apply Kd.S_alloc | apply Kd.S_drewN | apply Kd.S_drew)); exact HO_291002.out) hb); have n1_ := Aside0.mk (blk_below (g := gb290) (o := .cells #[.int .i64 0, .int .i64 0, .slice Ao9 t287.length co9] 30 (0, 0)) (by (with_reducible repeat (first | refine blk_drewN ?_ _ | refine blk_drew ?_ | refine blk_alloc ?_ _)); exact BK290.out) hb); have n2_ := Aside0.mk (below_step (by repeat (first | (with_reducible first | exact HB.out | apply below_alloc | apply pw_below_drewN | apply below_drew1 | refine below_set ?_ GE290.out) | exact HB.out)) hb); have n3_ := Aside0.mk (hbox); have n4_ := Aside0.mk ((by rw [hg]; exact (below_size (by repeat (first | (with_reducible first | exact HB.out | apply below_alloc | apply pw_below_drewN | apply below_drew1 | refine below_set ?_ GE290.out) | exact HB.out))) : w.heap.size ≤ gb294)); have n5_ := Aside0.mk ((by rw [hg]; exact (below_size (by repeat (first | (with_reducible first | exact HB.out | apply below_alloc | apply pw_below_drewN | apply below_drew1 | refine below_set ?_ GE290.out) | exact HB.out))) : w.heap.size ≤ gb294)); have n6_ := Aside0.mk ((by rw [hg]; exact Nat.ne_of_lt (blk_lt (g := gb290) (o := .cells #[.int .i64 0, .int .i64 0, .slice Ao9 t287.length co9] 30 (0, 0)) (by (with_reducible repeat (first | refine blk_drewN ?_ _ | refine blk_drew ?_ | refine blk_alloc ?_ _)); exact BK290.out)) : gb290 ≠ gb294)); have n7_ := Aside0.mk ((by rw [hg]; exact Nat.ne_of_gt (blk_lt (g := gb290) (o := .cells #[.int .i64 0, .int .i64 0, .slice Ao9 t287.length co9] 30 (0, 0)) (by (with_reducible repeat (first | refine blk_drewN ?_ _ | refine blk_drew ?_ | refine blk_alloc ?_ _)); exact BK290.out)) : gb294 ≠ gb290)); clear HO_291002; clear BK290; clear HB; have HO_291002 := n0_; have BK290 := n1_; have HB := n2_; have BK294 := n3_; have GW294 := n4_; have GE294 := n5_; have NB290_294 := n6_; have NB294_290 := n7_; clear n0_ n1_ n2_ n3_ n4_ n5_ n6_ n7_; clear hb hbox hg))
     go_loopg [7] kj5 (fun kq v7 w' => ∃ (x7_2 : Int) (x295000_2 : Int) (x295001_2 : Int) (x295002_2 : List (S28)) (u295002 : Value), v7 = .int .i64 x7_2 ∧ Aside0 (transeptlaw15_RaftlogCopies.l0 kq l0 (wrap64 (1 + (Int.tmod (wrap64 ((Int.tmod a1 9) + 9)) 9))) x7_2 0 0 t287 x295000_2 x295001_2 x295002_2 = some r) ∧ Aside0 (kq ≤ kj5) ∧ Aside0 (Kd.S k28 28 w' w.heap.size (fun k_ => some k_ ≠ (u295002 : Value).ownBlock) (.slice Ao9 t287.length co9) t287) ∧ Aside0 (Kd.S k28 28 w' w.heap.size (fun k_ => some k_ ≠ ((.slice Ao9 t287.length co9) : Value).ownBlock) u295002 x295002_2) ∧ Aside0 (w'.heap[gb290]? = some (.cells #[.int .i64 0, .int .i64 0, (.slice Ao9 t287.length co9)] 30 (0, 0))) ∧ Aside0 (w'.heap[gb294]? = some (.cells #[.int .i64 x295000_2, .int .i64 x295001_2, u295002] 30 (0, 0))) ∧ Aside0 (Below w.heap.size w w'))
     case atStart => exact ⟨(0), (0), (0), (([] : List (S28))), (.slice none 0 0), (by first | rfl | (simp; done) | (simp [*]; done)), H', ⟨Nat.le_refl _⟩, ⟨by (with_reducible repeat (first | apply Kd.S_alloc | apply Kd.S_drewN | apply Kd.S_drew)); exact Kd.S_mono HO_291002.out (fun _ hk => (by simp [Value.ownBlock]))⟩, ⟨by first | exact Kd.S_nil _ _ _ _ _ | exact Kd.N_nil _ _ _ _ _ | exact Kd.V_nil _ _ _ _ _ | exact Kd.Q_nil _ _ _ _ _ | exact Kd.R_nil _ _ _ _ _⟩, ⟨by (with_reducible repeat (first | refine blk_drewN ?_ _ | refine blk_drew ?_ | refine blk_alloc ?_ _)); exact BK290.out⟩, ⟨by (with_reducible repeat (first | refine blk_drewN ?_ _ | refine blk_drew ?_ | refine blk_alloc ?_ _)); exact BK294.out⟩, ⟨by repeat (first | (with_reducible first | exact HB.out | apply below_alloc | apply pw_below_drewN | apply below_drew1 | refine below_set ?_ GE290.out | refine below_set ?_ GE294.out) | exact HB.out)⟩⟩
     case round =>
      clear H'
      try clear c1
      try clear c2
      try clear p2
      try clear c4
      try clear c5
      try clear p6
      try clear c8
      try clear c14
      try clear c14b0
      try clear c14b1
      try clear c18
      try clear c19
      try clear c20
      try clear c20b0
      try clear c20b1
      try clear hcz11_0
      try clear hcz11_1
      try clear hcz11_2
      try clear hcz15_0
      try clear hcz15_1
      try clear hcz15_2
      try clear hcz17_0
      try clear hcz17_1
      try clear hcz17_2
      try clear hfz11_0
      try clear hfz11_1
      try clear hfz11_2
      try clear hfz15_0
      try clear hfz15_1
      try clear hfz15_2
      try clear hfz17_0
      try clear hfz17_1
      try clear hfz17_2
      try clear p2
      try clear p6
      obtain ⟨x7_2, x295000_2, x295001_2, x295002_2, u295002, rfl, HA, HK2, HO_291002, HO_295002, BK290, BK294, HB⟩ := hrel
      cases gk with
      | zero => exact absurd HA.out (by simp [transeptlaw15_RaftlogCopies.l0])
      | succ k2 =>
       have H := HA.out
       clear HA
       simp only [transeptlaw15_RaftlogCopies.l0] at H
       by_cases c24 : x7_2 < (l0.length : Int)
       ·
        rw [if_pos c24] at H
        have c24b0 : decide (x7_2 < (l0.length : Int)) = true := decide_eq_true c24
        clear c24
        replace H := Option.bind_eq_some_iff.mp H
        obtain ⟨⟨t296, t299⟩, A250, H⟩ := H
        replace H : ((raftlog_Term.f k2 0 0 t287 x7_2).bind fun bt300 => ((raftlog_Accept.f k2 x295000_2 x295001_2 x295002_2 x7_2 bt300.1 t296).bind fun bt302 => ((transeptlaw15_num.f t299).bind fun t310 => ((transeptlaw15_num.f bt300.2).bind fun t311 => ((transeptlaw15_num.f bt302.2.2.2.2).bind fun t312 => (if (wrap64 ((wrap64 (t310 + t311)) + t312)) = 0 then (if bt302.2.2.2.1 = (mn (wrap64 (x7_2 + (wrap64 (1 + (Int.tmod (wrap64 ((Int.tmod a1 9) + 9)) 9))))) (l0.length : Int)) then (transeptlaw15_RaftlogCopies.l0 k2 l0 (wrap64 (1 + (Int.tmod (wrap64 ((Int.tmod a1 9) + 9)) 9))) (wrap64 (x7_2 + (wrap64 (1 + (Int.tmod (wrap64 ((Int.tmod a1 9) + 9)) 9))))) 0 0 t287 bt302.1 bt302.2.1 bt302.2.2.1) else (none)) else (none))))))) = some r := H
        have A25 := Aside0.mk A250
        clear A250
        replace H := Option.bind_eq_some_iff.mp H
        obtain ⟨⟨t300, t301⟩, A260, H⟩ := H
        replace H : ((raftlog_Accept.f k2 x295000_2 x295001_2 x295002_2 x7_2 t300 t296).bind fun bt302 => ((transeptlaw15_num.f t299).bind fun t310 => ((transeptlaw15_num.f t301).bind fun t311 => ((transeptlaw15_num.f bt302.2.2.2.2).bind fun t312 => (if (wrap64 ((wrap64 (t310 + t311)) + t312)) = 0 then (if bt302.2.2.2.1 = (mn (wrap64 (x7_2 + (wrap64 (1 + (Int.tmod (wrap64 ((Int.tmod a1 9) + 9)) 9))))) (l0.length : Int)) then (transeptlaw15_RaftlogCopies.l0 k2 l0 (wrap64 (1 + (Int.tmod (wrap64 ((Int.tmod a1 9) + 9)) 9))) (wrap64 (x7_2 + (wrap64 (1 + (Int.tmod (wrap64 ((Int.tmod a1 9) + 9)) 9))))) 0 0 t287 bt302.1 bt302.2.1 bt302.2.2.1) else (none)) else (none)))))) = some r := H
        have A26 := Aside0.mk A260
        clear A260
        replace H := Option.bind_eq_some_iff.mp H
        obtain ⟨⟨t302, t303, t304, t307, t308⟩, A270, H⟩ := H
        replace H : ((transeptlaw15_num.f t299).bind fun t310 => ((transeptlaw15_num.f t301).bind fun t311 => ((transeptlaw15_num.f t308).bind fun t312 => (if (wrap64 ((wrap64 (t310 + t311)) + t312)) = 0 then (if t307 = (mn (wrap64 (x7_2 + (wrap64 (1 + (Int.tmod (wrap64 ((Int.tmod a1 9) + 9)) 9))))) (l0.length : Int)) then (transeptlaw15_RaftlogCopies.l0 k2 l0 (wrap64 (1 + (Int.tmod (wrap64 ((Int.tmod a1 9) + 9)) 9))) (wrap64 (x7_2 + (wrap64 (1 + (Int.tmod (wrap64 ((Int.tmod a1 9) + 9)) 9))))) 0 0 t287 t302 t303 t304) else (none)) else (none))))) = some r := H
        have A27 := Aside0.mk A270
        clear A270
        replace H := Option.bind_eq_some_iff.mp H
        obtain ⟨t310, A280, H⟩ := H
        replace H : ((transeptlaw15_num.f t301).bind fun t311 => ((transeptlaw15_num.f t308).bind fun t312 => (if (wrap64 ((wrap64 (t310 + t311)) + t312)) = 0 then (if t307 = (mn (wrap64 (x7_2 + (wrap64 (1 + (Int.tmod (wrap64 ((Int.tmod a1 9) + 9)) 9))))) (l0.length : Int)) then (transeptlaw15_RaftlogCopies.l0 k2 l0 (wrap64 (1 + (Int.tmod (wrap64 ((Int.tmod a1 9) + 9)) 9))) (wrap64 (x7_2 + (wrap64 (1 + (Int.tmod (wrap64 ((Int.tmod a1 9) + 9)) 9))))) 0 0 t287 t302 t303 t304) else (none)) else (none)))) = some r := H
        have A28 := Aside0.mk A280
        clear A280
        replace H := Option.bind_eq_some_iff.mp H
        obtain ⟨t311, A290, H⟩ := H
        replace H : ((transeptlaw15_num.f t308).bind fun t312 => (if (wrap64 ((wrap64 (t310 + t311)) + t312)) = 0 then (if t307 = (mn (wrap64 (x7_2 + (wrap64 (1 + (Int.tmod (wrap64 ((Int.tmod a1 9) + 9)) 9))))) (l0.length : Int)) then (transeptlaw15_RaftlogCopies.l0 k2 l0 (wrap64 (1 + (Int.tmod (wrap64 ((Int.tmod a1 9) + 9)) 9))) (wrap64 (x7_2 + (wrap64 (1 + (Int.tmod (wrap64 ((Int.tmod a1 9) + 9)) 9))))) 0 0 t287 t302 t303 t304) else (none)) else (none))) = some r := H
        have A29 := Aside0.mk A290
        clear A290
        replace H := Option.bind_eq_some_iff.mp H
        obtain ⟨t312, A300, H⟩ := H
        replace H : (if (wrap64 ((wrap64 (t310 + t311)) + t312)) = 0 then (if t307 = (mn (wrap64 (x7_2 + (wrap64 (1 + (Int.tmod (wrap64 ((Int.tmod a1 9) + 9)) 9))))) (l0.length : Int)) then (transeptlaw15_RaftlogCopies.l0 k2 l0 (wrap64 (1 + (Int.tmod (wrap64 ((Int.tmod a1 9) + 9)) 9))) (wrap64 (x7_2 + (wrap64 (1 + (Int.tmod (wrap64 ((Int.tmod a1 9) + 9)) 9))))) 0 0 t287 t302 t303 t304) else (none)) else (none)) = some r := H
        have A30 := Aside0.mk A300
        clear A300
        by_cases c31 : (wrap64 ((wrap64 (t310 + t311)) + t312)) = 0
        ·
         rw [if_pos c31] at H
         have c31b0 : ((wrap64 ((wrap64 (t310 + t311)) + t312)) == 0) = true := beq_iff_eq.mpr c31
         have c31b1 : ((wrap64 ((wrap64 (t310 + t311)) + t312)) != 0) = false := bne_eq_false_iff_eq.mpr c31
         clear c31
         obtain ⟨ji32, hji32⟩ : ∃ j_ : Int, (mn (wrap64 (x7_2 + (wrap64 (1 + (Int.tmod (wrap64 ((Int.tmod a1 9) + 9)) 9))))) (l0.length : Int)) = j_ := ⟨_, rfl⟩
         replace H : (if t307 = (ji32) then (transeptlaw15_RaftlogCopies.l0 k2 l0 (wrap64 (1 + (Int.tmod (wrap64 ((Int.tmod a1 9) + 9)) 9))) (wrap64 (x7_2 + (wrap64 (1 + (Int.tmod (wrap64 ((Int.tmod a1 9) + 9)) 9))))) 0 0 t287 t302 t303 t304) else (none)) = some r := by first | (rw [hji32] at H; exact H) | (simp only [hji32] at H ⊢; exact H)
         (try rw [hji32] at A25)
         (try rw [hji32] at A26)
         (try rw [hji32] at A27)
         (try rw [hji32] at A28)
         (try rw [hji32] at A29)
         (try rw [hji32] at A30)
         have hji32_ : (if (l0.length : Int) < (wrap64 (x7_2 + (wrap64 (1 + (Int.tmod (wrap64 ((Int.tmod a1 9) + 9)) 9))))) then (l0.length : Int) else (wrap64 (x7_2 + (wrap64 (1 + (Int.tmod (wrap64 ((Int.tmod a1 9) + 9)) 9)))))) = ji32 := hji32
         by_cases c33 : t307 = (ji32)
         ·
          rw [if_pos c33] at H
          have c33b0 : (t307 == (ji32)) = true := beq_iff_eq.mpr c33
          have c33b1 : (t307 != (ji32)) = false := bne_eq_false_iff_eq.mpr c33
          clear c33
          have H' := Aside0.mk H
          clear H
          have hnb34 := NB290_294.out
          have hnc34 := NB294_290.out
          have hcz35_0 : wr.cell? ⟨gb290, 0, none⟩ = some (.int .i64 0) := (blk_cell BK290.out 0).trans rfl
          have hcz35_1 : wr.cell? ⟨gb290, 1, none⟩ = some (.int .i64 0) := (blk_cell BK290.out 1).trans rfl
          have hcz35_2 : wr.cell? ⟨gb290, 2, none⟩ = some (.slice Ao9 t287.length co9) := (blk_cell BK290.out 2).trans rfl
          have hfz35_0 := blk_frozen BK290.out 0
          have hfz35_1 := blk_frozen BK290.out 1
          have hfz35_2 := blk_frozen BK290.out 2
          go_wp2_with (first | ((with_reducible refine gate_callee (f := 21) rfl ?_); refine goesL_ (some 55) rfl rfl Try.func21 (by kernel_rfl) rfl #[.agg #[.int .i64 0, .int .i64 0, .slice Ao9 t287.length co9], .int .i64 (wrap64 (x7_2 + 1)), .int .i64 (wrap64 (1 + (Int.tmod (wrap64 ((Int.tmod a1 9) + 9)) 9)))] rfl (by (try simp only [List.map_toArray, List.map_cons, List.map_nil]); first | done | rfl | (simp only [List.length_drop, List.length_take]; rfl)) ?_; (with_reducible refine (raftlog_From.calls k2 0 0 _ _ t287 (wrap64 (x7_2 + 1)) (wrap64 (1 + (Int.tmod (wrap64 ((Int.tmod a1 9) + 9)) 9))) t296 t299 _ ?side1 ?side2 A25.out).mono ?_); (case side1 => repeat (first | exact (Kd.S_reads' HO_291002.out).2.2 | (with_reducible refine Kd.C_alloc ?_ _) | (with_reducible refine Kd.C_drewN ?_ _) | (with_reducible refine Kd.C_drew ?_))); (case side2 => exact (Kd.S_reads' HO_291002.out).2.1); rintro e w36 ⟨v297, rfl, ho0, hb⟩; refine ⟨_, rfl, ?_⟩; have n0_ := Aside0.mk (Kd.S_elder' (by (with_reducible repeat (first | apply Kd.S_alloc | apply Kd.S_drewN | apply Kd.S_drew)); exact HO_291002.out) (Kd.S_base ho0) hb); have n1_ := Aside0.mk (Kd.S_elder' (by (with_reducible repeat (first | apply Kd.S_alloc | apply Kd.S_drewN | apply Kd.S_drew)); exact HO_295002.out) (Kd.S_base ho0) hb); have n2_ := Aside0.mk (Kd.S_lower (Kd.S_new' (Kd.S_new' ho0 (Kd.S_lt (by (with_reducible repeat (first | apply Kd.S_alloc | apply Kd.S_drewN | apply Kd.S_drew)); exact HO_291002.out))) (Kd.S_lt (by (with_reducible repeat (first | apply Kd.S_alloc | apply Kd.S_drewN | apply Kd.S_drew)); exact HO_295002.out))) (below_size (by repeat (first | (with_reducible first | exact HB.out | apply below_alloc | apply pw_below_drewN | apply below_drew1 | refine below_set ?_ GE290.out | refine below_set ?_ GE294.out) | exact HB.out)))); have n3_ := Aside0.mk (blk_below (g := gb290) (o := .cells #[.int .i64 0, .int .i64 0, .slice Ao9 t287.length co9] 30 (0, 0)) (by (with_reducible repeat (first | refine blk_drewN ?_ _ | refine blk_drew ?_ | refine blk_alloc ?_ _)); exact BK290.out) hb); have n4_ := Aside0.mk (blk_below (g := gb294) (o := .cells #[.int .i64 x295000_2, .int .i64 x295001_2, u295002] 30 (0, 0)) (by (with_reducible repeat (first | refine blk_drewN ?_ _ | refine blk_drew ?_ | refine blk_alloc ?_ _)); exact BK294.out) hb); have n5_ := Aside0.mk (below_step (by repeat (first | (with_reducible first | exact HB.out | apply below_alloc | apply pw_below_drewN | apply below_drew1 | refine below_set ?_ GE290.out | refine below_set ?_ GE294.out) | exact HB.out)) hb); clear HO_291002; clear HO_295002; clear BK290; clear BK294; clear HB; have HO_291002 := n0_; have HO_295002 := n1_; have HO298 := n2_; have BK290 := n3_; have BK294 := n4_; have HB := n5_; clear n0_ n1_ n2_ n3_ n4_ n5_; (try clear hb); (try clear hb2); (try clear hk); (try clear hi); (try clear ho0); have hcz37_0 : w36.cell? ⟨gb290, 0, none⟩ = some (.int .i64 0) := (blk_cell BK290.out 0).trans rfl; have hcz37_1 : w36.cell? ⟨gb290, 1, none⟩ = some (.int .i64 0) := (blk_cell BK290.out 1).trans rfl; have hcz37_2 : w36.cell? ⟨gb290, 2, none⟩ = some (.slice Ao9 t287.length co9) := (blk_cell BK290.out 2).trans rfl; have hfz37_0 := blk_frozen BK290.out 0; have hfz37_1 := blk_frozen BK290.out 1; have hfz37_2 := blk_frozen BK290.out 2) | ((with_reducible refine gate_callee (f := 22) rfl ?_); refine goesL_ (some 61) rfl rfl Try.func22 (by kernel_rfl) rfl #[.agg #[.int .i64 0, .int .i64 0, .slice Ao9 t287.length co9], .int .i64 x7_2] rfl (by (try simp only [List.map_toArray, List.map_cons, List.map_nil]); first | done | rfl | (simp only [List.length_drop, List.length_take]; rfl)) ?_; (with_reducible refine (raftlog_Term.calls k2 0 0 _ _ t287 x7_2 t300 t301 _ ?side1 ?side2 A26.out).mono ?_); (case side1 => repeat (first | exact (Kd.S_reads' HO_291002.out).2.2 | (with_reducible refine Kd.C_alloc ?_ _) | (with_reducible refine Kd.C_drewN ?_ _) | (with_reducible refine Kd.C_drew ?_))); (case side2 => exact (Kd.S_reads' HO_291002.out).2.1); rintro e w38 ⟨rfl, hb⟩; refine ⟨_, rfl, ?_⟩; have n0_ := Aside0.mk (Kd.S_below (by (with_reducible repeat (first | apply Kd.S_alloc | apply Kd.S_drewN | apply Kd.S_drew)); exact HO_291002.out) hb); have n1_ := Aside0.mk (Kd.S_below (by (with_reducible repeat (first | apply Kd.S_alloc | apply Kd.S_drewN | apply Kd.S_drew)); exact HO_295002.out) hb); have n2_ := Aside0.mk (Kd.S_below (by (with_reducible repeat (first | apply Kd.S_alloc | apply Kd.S_drewN | apply Kd.S_drew)); exact HO298.out) hb); have n3_ := Aside0.mk (blk_below (g := gb290) (o := .cells #[.int .i64 0, .int .i64 0, .slice Ao9 t287.length co9] 30 (0, 0)) (by (with_reducible repeat (first | refine blk_drewN ?_ _ | refine blk_drew ?_ | refine blk_alloc ?_ _)); exact BK290.out) hb); have n4_ := Aside0.mk (blk_below (g := gb294) (o := .cells #[.int .i64 x295000_2, .int .i64 x295001_2, u295002] 30 (0, 0)) (by (with_reducible repeat (first | refine blk_drewN ?_ _ | refine blk_drew ?_ | refine blk_alloc ?_ _)); exact BK294.out) hb); have n5_ := Aside0.mk (below_step (by repeat (first | (with_reducible first | exact HB.out | apply below_alloc | apply pw_below_drewN | apply below_drew1 | refine below_set ?_ GE290.out | refine below_set ?_ GE294.out) | exact HB.out)) hb); clear HO_291002; clear HO_295002; clear HO298; clear BK290; clear BK294; clear HB; have HO_291002 := n0_; have HO_295002 := n1_; have HO298 := n2_; have BK290 := n3_; have BK294 := n4_; have HB := n5_; clear n0_ n1_ n2_ n3_ n4_ n5_; (try clear hb); (try clear hb2); (try clear hk); (try clear hi); have hcz39_0 : w38.cell? ⟨gb294, 0, none⟩ = some (.int .i64 x295000_2) := (blk_cell BK294.out 0).trans rfl; have hcz39_1 : w38.cell? ⟨gb294, 1, none⟩ = some (.int .i64 x295001_2) := (blk_cell BK294.out 1).trans rfl; have hcz39_2 : w38.cell? ⟨gb294, 2, none⟩ = some (u295002) := (blk_cell BK294.out 2).trans rfl; have hfz39_0 := blk_frozen BK294.out 0; have hfz39_1 := blk_frozen BK294.out 1; have hfz39_2 := blk_frozen BK294.out 2; obtain ⟨Ao40, co40, eo40⟩ := Kd.S_slice HO_295002.out; subst eo40; obtain ⟨Ao41, co41, eo41⟩ := Kd.S_slice HO298.out; subst eo41) | ((with_reducible refine gate_callee (f := 23) rfl ?_); refine goesL_ (some 69) rfl rfl Try.func23 (by kernel_rfl) rfl #[.agg #[.int .i64 x295000_2, .int .i64 x295001_2, .slice Ao40 x295002_2.length co40], .int .i64 x7_2, .int .i64 t300, .slice Ao41 t296.length co41] rfl (by (try simp only [List.map_toArray, List.map_cons, List.map_nil]); first | done | rfl | (simp only [List.length_drop, List.length_take]; rfl)) ?_; (with_reducible refine (raftlog_Accept.calls k2 x295000_2 x295001_2 _ _ x295002_2 x7_2 t300 _ _ t296 t302 t303 t304 t307 t308 _ ?side1 ?side2 ?side3 ?side4 A27.out).mono ?_); (case side1 => repeat (first | exact (Kd.S_reads' HO_295002.out).2.2 | (with_reducible refine Kd.C_alloc ?_ _) | (with_reducible refine Kd.C_drewN ?_ _) | (with_reducible refine Kd.C_drew ?_))); (case side2 => exact (Kd.S_reads' HO_295002.out).2.1); (case side3 => repeat (first | exact (Kd.S_reads' HO298.out).2.2 | (with_reducible refine Kd.C_alloc ?_ _) | (with_reducible refine Kd.C_drewN ?_ _) | (with_reducible refine Kd.C_drew ?_))); (case side4 => exact (Kd.S_reads' HO298.out).2.1); rintro e w42 ⟨v305, rfl, ho0, hb⟩; refine ⟨_, rfl, ?_⟩; have n0_ := Aside0.mk (Kd.S_elder' (by (with_reducible repeat (first | apply Kd.S_alloc | apply Kd.S_drewN | apply Kd.S_drew)); exact HO_291002.out) (Kd.S_base ho0) hb); have n1_ := Aside0.mk (Kd.S_elder' (by (with_reducible repeat (first | apply Kd.S_alloc | apply Kd.S_drewN | apply Kd.S_drew)); exact HO_295002.out) (Kd.S_base ho0) hb); have n2_ := Aside0.mk (Kd.S_elder' (by (with_reducible repeat (first | apply Kd.S_alloc | apply Kd.S_drewN | apply Kd.S_drew)); exact HO298.out) (Kd.S_base ho0) hb); have n3_ := Aside0.mk (Kd.S_lower (Kd.S_new' (Kd.S_new' (Kd.S_new' ho0 (Kd.S_lt (by (with_reducible repeat (first | apply Kd.S_alloc | apply Kd.S_drewN | apply Kd.S_drew)); exact HO_291002.out))) (Kd.S_lt (by (with_reducible repeat (first | apply Kd.S_alloc | apply Kd.S_drewN | apply Kd.S_drew)); exact HO_295002.out))) (Kd.S_lt (by (with_reducible repeat (first | apply Kd.S_alloc | apply Kd.S_drewN | apply Kd.S_drew)); exact HO298.out))) (below_size (by repeat (first | (with_reducible first | exact HB.out | apply below_alloc | apply pw_below_drewN | apply below_drew1 | refine below_set ?_ GE290.out | refine below_set ?_ GE294.out) | exact HB.out)))); have n4_ := Aside0.mk (blk_below (g := gb290) (o := .cells #[.int .i64 0, .int .i64 0, .slice Ao9 t287.length co9] 30 (0, 0)) (by (with_reducible repeat (first | refine blk_drewN ?_ _ | refine blk_drew ?_ | refine blk_alloc ?_ _)); exact BK290.out) hb); have n5_ := Aside0.mk (blk_below (g := gb294) (o := .cells #[.int .i64 x295000_2, .int .i64 x295001_2, .slice Ao40 x295002_2.length co40] 30 (0, 0)) (by (with_reducible repeat (first | refine blk_drewN ?_ _ | refine blk_drew ?_ | refine blk_alloc ?_ _)); exact BK294.out) hb); have n6_ := Aside0.mk (below_step (by repeat (first | (with_reducible first | exact HB.out | apply below_alloc | apply pw_below_drewN | apply below_drew1 | refine below_set ?_ GE290.out | refine below_set ?_ GE294.out) | exact HB.out)) hb); clear HO_291002; clear HO_295002; clear HO298; clear BK290; clear BK294; clear HB; have HO_291002 := n0_; have HO_295002 := n1_; have HO298 := n2_; have HO306 := n3_; have BK290 := n4_; have BK294 := n5_; have HB := n6_; clear n0_ n1_ n2_ n3_ n4_ n5_ n6_; (try clear hb); (try clear hb2); (try clear hk); (try clear hi); (try clear ho0)) | ((with_reducible refine gate_dst (N := 12) rfl ?_); (try (refine gate_guard (by rfl) ?_; dsimp only)); refine box_event ?hg (N := 12) ?hd (cs := #[.int .i64 0, .int .i64 0, .slice none 0 0]) (t := 30) ?hr ?_; (case hd => rfl); (case hg => rfl); (case hr => first | (go_simp; done) | (go_simp; rfl)); intro gb309 hg w43 hbox hb; have n0_ := Aside0.mk (Kd.S_below (by (with_reducible repeat (first | apply Kd.S_alloc | apply Kd.S_drewN | apply Kd.S_drew)); exact HO_291002.out) hb); have n1_ := Aside0.mk (Kd.S_below (by (with_reducible repeat (first | apply Kd.S_alloc | apply Kd.S_drewN | apply Kd.S_drew)); exact HO_295002.out) hb); have n2_ := Aside0.mk (Kd.S_below (by (with_reducible repeat (first | apply Kd.S_alloc | apply Kd.S_drewN | apply Kd.S_drew)); exact HO298.out) hb); have n3_ := Aside0.mk (Kd.S_below (by (with_reducible repeat (first | apply Kd.S_alloc | apply Kd.S_drewN | apply Kd.S_drew)); exact HO306.out) hb); have n4_ := Aside0.mk (blk_below (g := gb290) (o := .cells #[.int .i64 0, .int .i64 0, .slice Ao9 t287.length co9] 30 (0, 0)) (by (with_reducible repeat (first | refine blk_drewN ?_ _ | refine blk_drew ?_ | refine blk_alloc ?_ _)); exact BK290.out) hb); have n5_ := Aside0.mk (blk_below (g := gb294) (o := .cells #[.int .i64 x295000_2, .int .i64 x295001_2, .slice Ao40 x295002_2.length co40] 30 (0, 0)) (by (with_reducible repeat (first | refine blk_drewN ?_ _ | refine blk_drew ?_ | refine blk_alloc ?_ _)); exact BK294.out) hb); have n6_ := Aside0.mk (below_step (by repeat (first | (with_reducible first | exact HB.out | apply below_alloc | apply pw_below_drewN | apply below_drew1 | refine below_set ?_ GE290.out | refine below_set ?_ GE294.out) | exact HB.out)) hb); have n7_ := Aside0.mk (hbox); have n8_ := Aside0.mk ((by rw [hg]; exact (below_size (by repeat (first | (with_reducible first | exact HB.out | apply below_alloc | apply pw_below_drewN | apply below_drew1 | refine below_set ?_ GE290.out | refine below_set ?_ GE294.out) | exact HB.out))) : w.heap.size ≤ gb309)); have n9_ := Aside0.mk ((by rw [hg]; exact (below_size (by repeat (first | (with_reducible first | exact HB.out | apply below_alloc | apply pw_below_drewN | apply below_drew1 | refine below_set ?_ GE290.out | refine below_set ?_ GE294.out) | exact HB.out))) : w.heap.size ≤ gb309)); have n10_ := Aside0.mk ((by rw [hg]; exact Nat.ne_of_lt (blk_lt (g := gb290) (o := .cells #[.int .i64 0, .int .i64 0, .slice Ao9 t287.length co9] 30 (0, 0)) (by (with_reducible repeat (first | refine blk_drewN ?_ _ | refine blk_drew ?_ | refine blk_alloc ?_ _)); exact BK290.out)) : gb290 ≠ gb309)); have n11_ := Aside0.mk ((by rw [hg]; exact Nat.ne_of_gt (blk_lt (g := gb290) (o := .cells #[.int .i64 0, .int .i64 0, .slice Ao9 t287.length co9] 30 (0, 0)) (by (with_reducible repeat (first | refine blk_drewN ?_ _ | refine blk_drew ?_ | refine blk_alloc ?_ _)); exact BK290.out)) : gb309 ≠ gb290)); have n12_ := Aside0.mk ((by rw [hg]; exact Nat.ne_of_lt (blk_lt (g := gb294) (o := .cells #[.int .i64 x295000_2, .int .i64 x295001_2, .slice Ao40 x295002_2.length co40] 30 (0, 0)) (by (with_reducible repeat (first | refine blk_drewN ?_ _ | refine blk_drew ?_ | refine blk_alloc ?_ _)); exact BK294.out)) : gb294 ≠ gb309)); have n13_ := Aside0.mk ((by rw [hg]; exact Nat.ne_of_gt (blk_lt (g := gb294) (o := .cells #[.int .i64 x295000_2, .int .i64 x295001_2, .slice Ao40 x295002_2.length co40] 30 (0, 0)) (by (with_reducible repeat (first | refine blk_drewN ?_ _ | refine blk_drew ?_ | refine blk_alloc ?_ _)); exact BK294.out)) : gb309 ≠ gb294)); clear HO_291002; clear HO_295002; clear HO298; clear HO306; clear BK290; clear BK294; clear HB; have HO_291002 := n0_; have HO_295002 := n1_; have HO298 := n2_; have HO306 := n3_; have BK290 := n4_; have BK294 := n5_; have HB := n6_; have BK309 := n7_; have GW309 := n8_; have GE309 := n9_; have NB290_309 := n10_; have NB309_290 := n11_; have NB294_309 := n12_; have NB309_294 := n13_; clear n0_ n1_ n2_ n3_ n4_ n5_ n6_ n7_ n8_ n9_ n10_ n11_ n12_ n13_; clear hb hbox hg; have hnb44 := NB309_290.out; have hnc44 := NB290_309.out; have hnb45 := NB309_294.out; have hnc45 := NB294_309.out; have hcz46_0 : w43.cell? ⟨gb309, 0, none⟩ = some (.int .i64 0) := (blk_cell BK309.out 0).trans rfl; have hcz46_1 : w43.cell? ⟨gb309, 1, none⟩ = some (.int .i64 0) := (blk_cell BK309.out 1).trans rfl; have hcz46_2 : w43.cell? ⟨gb309, 2, none⟩ = some (.slice none 0 0) := (blk_cell BK309.out 2).trans rfl; have hfz46_0 := blk_frozen BK309.out 0; have hfz46_1 := blk_frozen BK309.out 1; have hfz46_2 := blk_frozen BK309.out 2; obtain ⟨Ao47, co47, eo47⟩ := Kd.S_slice HO306.out; subst eo47) | ((with_reducible refine gate_callee (f := 14) rfl ?_); refine goesL_ (some 74) rfl rfl Try.func14 (by kernel_rfl) rfl #[.int .i64 t299] rfl (by (try simp only [List.map_toArray, List.map_cons, List.map_nil]); first | done | rfl | (simp only [List.length_drop, List.length_take]; rfl)) ?_; (with_reducible refine (transeptlaw15_num.calls t299 t310 _ A28.out).mono ?_); rintro e w' ⟨rfl, ⟨nd, rfl⟩⟩; refine ⟨_, rfl, ?_⟩) | ((with_reducible refine gate_callee (f := 14) rfl ?_); refine goesL_ (some 76) rfl rfl Try.func14 (by kernel_rfl) rfl #[.int .i64 t301] rfl (by (try simp only [List.map_toArray, List.map_cons, List.map_nil]); first | done | rfl | (simp only [List.length_drop, List.length_take]; rfl)) ?_; (with_reducible refine (transeptlaw15_num.calls t301 t311 _ A29.out).mono ?_); rintro e w' ⟨rfl, ⟨nd, rfl⟩⟩; refine ⟨_, rfl, ?_⟩) | ((with_reducible refine gate_callee (f := 14) rfl ?_); refine goesL_ (some 79) rfl rfl Try.func14 (by kernel_rfl) rfl #[.int .i64 t308] rfl (by (try simp only [List.map_toArray, List.map_cons, List.map_nil]); first | done | rfl | (simp only [List.length_drop, List.length_take]; rfl)) ?_; (with_reducible refine (transeptlaw15_num.calls t308 t312 _ A30.out).mono ?_); rintro e w' ⟨rfl, ⟨nd, rfl⟩⟩; refine ⟨_, rfl, ?_⟩; have hcz48_0 : w43.cell? ⟨gb294, 0, none⟩ = some (.int .i64 x295000_2) := (blk_cell BK294.out 0).trans rfl; have hcz48_1 : w43.cell? ⟨gb294, 1, none⟩ = some (.int .i64 x295001_2) := (blk_cell BK294.out 1).trans rfl; have hcz48_2 : w43.cell? ⟨gb294, 2, none⟩ = some (.slice Ao40 x295002_2.length co40) := (blk_cell BK294.out 2).trans rfl; have hfz48_0 := blk_frozen BK294.out 0; have hfz48_1 := blk_frozen BK294.out 1; have hfz48_2 := blk_frozen BK294.out 2))
          go_roundg k2
          case measure => have := HJ5.out; have := HK2.out; omega
          case rel => exact ⟨(wrap64 (x7_2 + (wrap64 (1 + (Int.tmod (wrap64 ((Int.tmod a1 9) + 9)) 9))))), (t302), (t303), (t304), (.slice Ao47 t304.length co47), (by first | rfl | (simp; done) | (simp [*]; done)), H', ⟨by have := HJ5.out; have := HK2.out; omega⟩, ⟨by (with_reducible repeat (first | apply Kd.S_alloc | apply Kd.S_drewN | apply Kd.S_drew)); exact Kd.S_mono (Kd.S_far (p := ⟨gb294, 2, none⟩) (Kd.S_far (p := ⟨gb294, 1, none⟩) (Kd.S_far (p := ⟨gb294, 0, none⟩) (Kd.S_far (p := ⟨gb309, 2, none⟩) (Kd.S_far (p := ⟨gb309, 1, none⟩) (Kd.S_far (p := ⟨gb309, 0, none⟩) (Kd.S_types (Kd.S_types HO_291002.out BK309.out (by decide)) BK294.out (by decide)) (fun _ hk => hk.1.2) (.int .i64 t302)) (fun _ hk => hk.1.2) (.int .i64 t303)) (fun _ hk => hk.1.2) (.slice Ao47 t304.length co47)) (fun _ hk => hk.2) (.int .i64 t302)) (fun _ hk => hk.2) (.int .i64 t303)) (fun _ hk => hk.2) (.slice Ao47 t304.length co47)) (fun _ hk => hk.1.1.2)⟩, ⟨by (with_reducible repeat (first | apply Kd.S_alloc | apply Kd.S_drewN | apply Kd.S_drew)); exact Kd.S_mono (Kd.S_far (p := ⟨gb294, 2, none⟩) (Kd.S_far (p := ⟨gb294, 1, none⟩) (Kd.S_far (p := ⟨gb294, 0, none⟩) (Kd.S_far (p := ⟨gb309, 2, none⟩) (Kd.S_far (p := ⟨gb309, 1, none⟩) (Kd.S_far (p := ⟨gb309, 0, none⟩) (Kd.S_types (Kd.S_types HO306.out BK309.out (by decide)) BK294.out (by decide)) (fun _ hk => hk.1.2) (.int .i64 t302)) (fun _ hk => hk.1.2) (.int .i64 t303)) (fun _ hk => hk.1.2) (.slice Ao47 t304.length co47)) (fun _ hk => hk.2) (.int .i64 t302)) (fun _ hk => hk.2) (.int .i64 t303)) (fun _ hk => hk.2) (.slice Ao47 t304.length co47)) (fun _ hk => hk.1.1.1.1.2)⟩, ⟨by (with_reducible repeat (first | refine blk_drewN ?_ _ | refine blk_drew ?_ | refine blk_alloc ?_ _)); refine blk_far ?_ NB290_294.out _; (with_reducible repeat (first | refine blk_drewN ?_ _ | refine blk_drew ?_ | refine blk_alloc ?_ _)); refine blk_far ?_ NB290_294.out _; (with_reducible repeat (first | refine blk_drewN ?_ _ | refine blk_drew ?_ | refine blk_alloc ?_ _)); refine blk_far ?_ NB290_294.out _; (with_reducible repeat (first | refine blk_drewN ?_ _ | refine blk_drew ?_ | refine blk_alloc ?_ _)); refine blk_far ?_ NB290_309.out _; (with_reducible repeat (first | refine blk_drewN ?_ _ | refine blk_drew ?_ | refine blk_alloc ?_ _)); refine blk_far ?_ NB290_309.out _; (with_reducible repeat (first | refine blk_drewN ?_ _ | refine blk_drew ?_ | refine blk_alloc ?_ _)); refine blk_far ?_ NB290_309.out _; (with_reducible repeat (first | refine blk_drewN ?_ _ | refine blk_drew ?_ | refine blk_alloc ?_ _)); exact BK290.out⟩, ⟨by (with_reducible repeat (first | refine blk_drewN ?_ _ | refine blk_drew ?_ | refine blk_alloc ?_ _)); refine blk_put (cs := #[.int .i64 t302, .int .i64 t303, .slice Ao40 x295002_2.length co40]) ?_ 2 _ rfl; (with_reducible repeat (first | refine blk_drewN ?_ _ | refine blk_drew ?_ | refine blk_alloc ?_ _)); refine blk_put (cs := #[.int .i64 t302, .int .i64 x295001_2, .slice Ao40 x295002_2.length co40]) ?_ 1 _ rfl; (with_reducible repeat (first | refine blk_drewN ?_ _ | refine blk_drew ?_ | refine blk_alloc ?_ _)); refine blk_put (cs := #[.int .i64 x295000_2, .int .i64 x295001_2, .slice Ao40 x295002_2.length co40]) ?_ 0 _ rfl; (with_reducible repeat (first | refine blk_drewN ?_ _ | refine blk_drew ?_ | refine blk_alloc ?_ _)); refine blk_far ?_ NB294_309.out _; (with_reducible repeat (first | refine blk_drewN ?_ _ | refine blk_drew ?_ | refine blk_alloc ?_ _)); refine blk_far ?_ NB294_309.out _; (with_reducible repeat (first | refine blk_drewN ?_ _ | refine blk_drew ?_ | refine blk_alloc ?_ _)); refine blk_far ?_ NB294_309.out _; (with_reducible repeat (first | refine blk_drewN ?_ _ | refine blk_drew ?_ | refine blk_alloc ?_ _)); exact BK294.out⟩, ⟨by repeat (first | (with_reducible first | exact HB.out | apply below_alloc | apply pw_below_drewN | apply below_drew1 | refine below_set ?_ GE290.out | refine below_set ?_ GE294.out | refine below_set ?_ GE309.out) | exact HB.out)⟩⟩
         ·
          rw [if_neg c33] at H
          exact absurd H (by simp)
        ·
         rw [if_neg c31] at H
         exact absurd H (by simp)
       ·
        rw [if_neg c24] at H
        have c24b0 : decide (x7_2 < (l0.length : Int)) = false := decide_eq_false c24
        clear c24
        replace H := Option.bind_eq_some_iff.mp H
        obtain ⟨t295, A490, H⟩ := H
        replace H : (some t295) = some r := H
        have A49 := Aside0.mk A490
        clear A490
        obtain rfl := Option.some.inj H
        have hnb50 := NB294_290.out
        have hnc50 := NB290_294.out
        have hcz51_0 : wr.cell? ⟨gb294, 0, none⟩ = some (.int .i64 x295000_2) := (blk_cell BK294.out 0).trans rfl
        have hcz51_1 : wr.cell? ⟨gb294, 1, none⟩ = some (.int .i64 x295001_2) := (blk_cell BK294.out 1).trans rfl
        have hcz51_2 : wr.cell? ⟨gb294, 2, none⟩ = some (u295002) := (blk_cell BK294.out 2).trans rfl
        have hfz51_0 := blk_frozen BK294.out 0
        have hfz51_1 := blk_frozen BK294.out 1
        have hfz51_2 := blk_frozen BK294.out 2
        obtain ⟨Ao52, co52, eo52⟩ := Kd.S_slice HO_295002.out
        subst eo52
        go_wp2_with (first | ((with_reducible refine gate_callee (f := 10) rfl ?_); refine goesL_ (some 96) rfl rfl Try.func10 (by kernel_rfl) rfl #[.slice Ao52 x295002_2.length co52, .slice A0 l0.length c0] rfl (by (try simp only [List.map_toArray, List.map_cons, List.map_nil]); first | done | rfl | (simp only [List.length_drop, List.length_take]; rfl)) ?_; (with_reducible refine (transeptplain_SameEntries.calls k2 _ _ x295002_2 _ _ l0 t295 _ ?side1 ?side2 ?side3 ?side4 A49.out).mono ?_); (case side1 => repeat (first | exact (Kd.S_reads' HO_295002.out).2.2 | (with_reducible refine Kd.C_alloc ?_ _) | (with_reducible refine Kd.C_drewN ?_ _) | (with_reducible refine Kd.C_drew ?_))); (case side2 => exact (Kd.S_reads' HO_295002.out).2.1); (case side3 => repeat (first | exact (Kd.C_below HR0.out HB.out) | (with_reducible refine Kd.C_alloc ?_ _) | (with_reducible refine Kd.C_drewN ?_ _) | (with_reducible refine Kd.C_drew ?_))); (case side4 => exact HC0.out); rintro e w' ⟨rfl, ⟨nd, rfl⟩⟩; refine ⟨_, rfl, ?_⟩))
        go_ret
        exact ⟨by first | rfl | (simp [errW_none, errW_some] <;> rfl) | (simp [*, errW_none, errW_some] <;> rfl), by repeat (first | (with_reducible first | exact HB.out | apply below_alloc | apply pw_below_drewN | apply below_drew1 | refine below_set ?_ GE290.out | refine below_set ?_ GE294.out) | exact HB.out)⟩
 ·
  replace c4 := Bool.eq_false_iff.mpr c4
  subst c4
  have H1 : (none) = some r := by rw [if_neg (show ¬ (false = true) by decide)] at H; exact H
  clear H
  have H := H1
  clear H1
  exact absurd H (by simp)

end Go.Proofs.Yteplhacanofeoaa.Q
