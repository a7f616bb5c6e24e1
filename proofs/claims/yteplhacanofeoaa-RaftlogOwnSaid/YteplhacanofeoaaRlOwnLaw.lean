/- RaftlogOwn, walked by hand: what it answers; no condition. -/
import Derived.Test.YteplhacanofeoaaApp
import Derived.Test.YteplhacanofeoaaQ11
import Derived.Test.YteplhacanofeoaaQ10
import Derived.Test.YteplhacanofeoaaQ14
import Derived.Test.YteplhacanofeoaaQ15
import Derived.Test.YteplhacanofeoaaQ16
import Derived.Test.YteplhacanofeoaaQ6
import Derived.Test.YteplhacanofeoaaQ1
namespace Go.Proofs.Yteplhacanofeoaa.Q
open Go.RowKit Go.Proofs.YteplhacanofeoaaW.PrintWords Go.Proofs.YteplhacanofeoaaW.PrintLast Go.Proofs.YteplhacanofeoaaW.PrintMore
set_option linter.unusedVariables false
set_option linter.unusedSimpArgs false

theorem spoil_l0 : ∀ (m k : Nat) (l : List Int) (i : Nat), i + m = l.length → l.length < 4611686018427387904 → m + 1 ≤ k → ∃ r, transeptplain_Spoil.l0 k l (i : Int) = some r := by
  intro m
  induction m with
  | zero =>
    intro k l i hi hl hk
    obtain ⟨k, rfl⟩ : ∃ j, k = j + 1 := ⟨k - 1, by omega⟩
    exact ⟨l, by rw [transeptplain_Spoil.l0, if_neg (by omega)]⟩
  | succ m ih =>
    intro k l i hi hl hk
    obtain ⟨k, rfl⟩ : ∃ j, k = j + 1 := ⟨k - 1, by omega⟩
    rw [transeptplain_Spoil.l0, if_pos (by omega), if_pos (by omega), show wrap64 ((i : Int) + 1) = ((i + 1 : Nat) : Int) from by unfold wrap64; omega]
    exact ih k _ (i + 1) (by rw [List.length_set]; omega) (by rw [List.length_set]; exact hl) (by omega)
theorem spoil_some {k : Nat} {l : List Int} (hl : l.length < 4611686018427387904) (hk : l.length + 1 ≤ k) : ∃ r, transeptplain_Spoil.f k l = some r := spoil_l0 l.length k l 0 (by omega) hl (by omega)
/-- Enough rounds for each text that is spoilt. -/
def okSp (k : Nat) (xs : List S28) (d : List Int) : Bool := decide (d.length + 1 ≤ k) && decide (d.length < 4611686018427387904) && decide (xs.length < 4611686018427387904) && xs.all (fun x => decide (x.f1.length + 1 ≤ k) && decide (x.f1.length < 4611686018427387904))
theorem okSp_out {k : Nat} {xs : List S28} {d : List Int} (h : okSp k xs d = true) : d.length + 1 ≤ k ∧ d.length < 4611686018427387904 ∧ xs.length < 4611686018427387904 ∧ ∀ x ∈ xs, x.f1.length + 1 ≤ k ∧ x.f1.length < 4611686018427387904 := by
  simp only [okSp, Bool.and_eq_true, decide_eq_true_eq, List.all_eq_true] at h
  exact ⟨h.1.1.1, h.1.1.2, h.1.2, fun x hx => h.2 x hx⟩
def transeptlaw15_RaftlogOwn.f (k : Nat) (b bt : Int) (xs : List S28) (t : Int) (d : List Int) : Option Bool :=
  (transeptlaw15_alive.f k).bind fun a => if a = true then (transeptlaw15_Of.f k b bt xs).bind fun o => (transeptplain_CopyBytes.f d).bind fun d2 => (raftlog_Append.f k o.1 o.2.1 o.2.2 t d2).bind fun p =>
    if p.2.2.2 = 0 then (transeptref15_Append.f k b bt xs t d).bind fun q => (transeptlaw15_Alike.f k p.1 p.2.1 p.2.2.1 q.1 q.2.1 q.2.2.1).bind fun r => (if okSp k o.2.2 d2 = true then some (r == 0) else none) else some ((p.2.2.1.length : Int) == 0) else none

set_option maxHeartbeats 8000000 in
set_option maxRecDepth 100000 in
theorem transeptlaw15_RaftlogOwn.calls (k : Nat) (a0_0 : Int) (a0_1 : Int) (A0_2 : Option Addr) (c0_2 : Nat) (l0_2 : List (S28)) (a1_0 : Int) (A1_1 : Option Addr) (c1_1 : Nat) (l1_1 : List Int) (r : Bool) (w : World) (hr0_2 : Kd.C k28 w A0_2 l0_2.length l0_2) (hc0_2 : l0_2.length ≤ c0_2) (hr1_1 : Kd.C (Kd.int .u8) w A1_1 l1_1.length l1_1) (hc1_1 : l1_1.length ≤ c1_1) (h : transeptlaw15_RaftlogOwn.f k a0_0 a0_1 l0_2 a1_0 l1_1 = some r) :
    Calls Try.prog 4 #[.agg #[.int .i64 a0_0, .int .i64 a0_1, .slice A0_2 l0_2.length c0_2], .agg #[.int .i64 a1_0, .slice A1_1 l1_1.length c1_1]] w fun e w' => e = .returned (.bool r) ∧ Below w.heap.size w w' := by
  have hu30 := Try.underlying30
  have hu35 := Try.underlying35
  have hu28 := Try.underlying28
  have HR0 := Aside0.mk hr0_2
  have HC0 := Aside0.mk hc0_2
  have HR1 := Aside0.mk hr1_1
  have HC1 := Aside0.mk hc1_1
  clear hr0_2 hc0_2 hr1_1 hc1_1
  unfold transeptlaw15_RaftlogOwn.f at h
  obtain ⟨al, hal, h⟩ := Option.bind_eq_some_iff.mp h
  have ha : al = true := by
    cases al with
    | true => rfl
    | false => rw [if_neg (by simp)] at h; exact absurd h (by simp)
  subst ha
  rw [if_pos rfl] at h
  obtain ⟨⟨o1, o2, os⟩, hof, h⟩ := Option.bind_eq_some_iff.mp h
  obtain ⟨d2, hcb, h⟩ := Option.bind_eq_some_iff.mp h
  obtain ⟨⟨p1, p2, ps, pe⟩, hap, h⟩ := Option.bind_eq_some_iff.mp h
  dsimp only at hap h
  have HAL := Aside0.mk hal
  have HOF := Aside0.mk hof
  have HCB := Aside0.mk hcb
  have HAP := Aside0.mk hap
  have H := Aside0.mk h
  clear hal hof hcb hap h
  go_enter Try.func4, Try.ntmps4
  go_wp2_with (first
    | ((with_reducible refine gate_dst (N := 2) rfl ?_); refine box_event ?hg (N := 2) ?hd (cs := #[.int .i64 a0_0, .int .i64 a0_1, .slice A0_2 l0_2.length c0_2]) (t := 35) ?hr ?_; (case hd => rfl); (case hg => rfl); (case hr => first | (go_simp; done) | (go_simp; rfl)); intro gl hgl w1 hbox hb; have HB := Aside0.mk hb; have BKL := Aside0.mk hbox; clear hb hbox hgl)
    | ((with_reducible refine gate_dst (N := 3) rfl ?_); refine box_event ?hg (N := 3) ?hd (cs := #[.int .i64 a1_0, .slice A1_1 l1_1.length c1_1]) (t := 28) ?hr ?_; (case hd => rfl); (case hg => rfl); (case hr => first | (go_simp; done) | (go_simp; rfl)); intro gx hgx w2 hbox hb; replace BKL := Aside0.mk (blk_below BKL.out hb); replace HB := Aside0.mk (below_step HB.out hb); have BKX := Aside0.mk hbox; clear hb hbox hgx))
  refine (transeptlaw15_alive.calls k true _ HAL.out).mono ?_
  rintro e w3 ⟨rfl, hb⟩
  replace BKL := Aside0.mk (blk_below BKL.out hb)
  replace BKX := Aside0.mk (blk_below BKX.out hb)
  replace HB := Aside0.mk (below_step HB.out hb)
  clear hb
  have hz0 := (blk_cell BKL.out 0).trans rfl
  have hz1 := (blk_cell BKL.out 1).trans rfl
  have hz2 := (blk_cell BKL.out 2).trans rfl
  go_wp2_with fail
  refine (transeptlaw15_Of.calls k a0_0 a0_1 _ _ l0_2 o1 o2 os _ (Kd.C_below HR0.out HB.out) HC0.out HOF.out).mono ?_
  rintro e w4 ⟨v4, rfl, hs, hb⟩
  clear hz0 hz1 hz2
  obtain ⟨A4, c4, e4⟩ := Kd.S_slice hs
  subst e4
  replace BKL := Aside0.mk (blk_below BKL.out hb)
  replace BKX := Aside0.mk (blk_below BKX.out hb)
  have HS := Aside0.mk (Kd.S_lower hs HB.out.size)
  replace HB := Aside0.mk (below_step HB.out hb)
  clear hb hs
  have hz1 : (w4.alloc (.cells #[.int .i64 o1, .int .i64 o2, .slice A4 os.length c4] 30)).cell? ⟨gx, 1, none⟩ = some (.slice A1_1 l1_1.length c1_1) := (blk_cell (blk_alloc BKX.out _) 1).trans rfl
  go_wp2_with fail
  refine (transeptplain_CopyBytes.calls _ _ l1_1 d2 _ (Kd.C_alloc (Kd.C_below HR1.out HB.out) _) HC1.out HCB.out).mono ?_
  rintro e w5 ⟨v5, rfl, ho, hb⟩
  clear hz1
  obtain ⟨A5, c5, e5⟩ := Kd.R_slice ho
  subst e5
  obtain ⟨gw, hgw⟩ : ∃ gw, gw = w4.heap.size := ⟨_, rfl⟩
  have BKW := Aside0.mk (show w5.heap[gw]? = some (.cells #[.int .i64 o1, .int .i64 o2, .slice A4 os.length c4] 30 (0, 0)) from by rw [hgw]; exact blk_below (blk_new _ _) hb)
  replace BKL := Aside0.mk (blk_below (blk_alloc BKL.out _) hb)
  replace BKX := Aside0.mk (blk_below (blk_alloc BKX.out _) hb)
  obtain ⟨M, hM⟩ : ∃ M, M = w5.heap.size := ⟨_, rfl⟩
  have HM := Aside0.mk hM
  have hsz5 := hb.size
  have HNE := Aside0.mk (fun k hk e_ => by have := Kd.R_base ho k e_.symm; omega : ∀ k, k < (w4.alloc (.cells #[.int .i64 o1, .int .i64 o2, .slice A4 os.length c4] 30)).heap.size → ¬ some k = (Value.slice A5 d2.length c5).ownBlock)
  replace HS := Aside0.mk (Kd.S_mono (Kd.S_old (Kd.S_alloc HS.out _) hb) (fun k hk => ⟨by have := hk.2; omega, HNE.out k hk.2⟩ : ∀ k, True ∧ k < (w4.alloc (.cells #[.int .i64 o1, .int .i64 o2, .slice A4 os.length c4] 30)).heap.size → k < M ∧ ¬ some k = (Value.slice A5 d2.length c5).ownBlock))
  have HLT := Aside0.mk (fun k e_ => by have := Kd.R_lt ho k e_.symm; omega : ∀ k, some k = (Value.slice A5 d2.length c5).ownBlock → k < M)
  have HO := Aside0.mk (Kd.R_lower ho (Nat.le_trans HB.out.size (below_alloc (Below.refl w4.heap.size w4) _).size))
  replace HB := Aside0.mk (below_step (below_alloc HB.out _) hb)
  have GWT := Aside0.mk (Kd.R_ne ho BKW.out (by decide) : some gw ≠ (Value.slice A5 d2.length c5).ownBlock)
  rw [← hgw]
  clear hb ho hsz5 hM hgw HNE
  have hz0 := (blk_cell BKW.out 0).trans rfl
  have hz1 := (blk_cell BKW.out 1).trans rfl
  have hz2 := (blk_cell BKW.out 2).trans rfl
  have hz3 := (blk_cell BKX.out 0).trans rfl
  go_wp2_with fail
  refine (raftlog_Append.calls k o1 o2 A4 c4 os a1_0 A5 c5 d2 p1 p2 ps pe _ (Kd.S_reads' HS.out).2.2 (Kd.S_reads' HS.out).2.1 (Kd.R_reads' HO.out).2.2 (Kd.R_reads' HO.out).2.1 HAP.out).mono ?_
  rintro e w6 ⟨v6, rfl, hs6, hb⟩
  clear hz0 hz1 hz2 hz3
  obtain ⟨A6, c6, e6⟩ := Kd.S_slice hs6
  subst e6
  replace BKL := Aside0.mk (blk_below BKL.out hb)
  replace BKX := Aside0.mk (blk_below BKX.out hb)
  replace BKW := Aside0.mk (blk_below BKW.out hb)
  replace HS := Aside0.mk (Kd.S_below HS.out hb)
  replace HO := Aside0.mk (Kd.R_below HO.out hb)
  have hle := HB.out.size
  have HA := Aside0.mk (show Kd.S k28 28 w6 w.heap.size (fun k => M ≤ k) (.slice A6 ps.length c6) ps from Kd.S_lower (Kd.S_mono (Kd.S_bound hs6) (fun k hk => by rw [HM.out]; exact hk.2.1)) hle)
  have hMs : M ≤ w6.heap.size := by rw [HM.out]; exact hb.size
  replace HB := Aside0.mk (below_step HB.out hb)
  clear hb hs6 hle
  go_wp2_with fail
  refine (transeptlaw15_num.calls pe pe _ rfl).mono ?_
  rintro e w7 ⟨rfl, ⟨⟨m1, rfl⟩⟩⟩
  obtain ⟨ga, hga⟩ : ∃ ga, ga = w6.heap.size := ⟨_, rfl⟩
  obtain ⟨W7, hW7⟩ : ∃ W7, W7 = (w6.alloc (.cells #[.int .i64 p1, .int .i64 p2, .slice A6 ps.length c6] 30)).drewN m1 := ⟨_, rfl⟩
  have hb7 : Below w6.heap.size w6 W7 := by rw [hW7]; exact pw_below_drewN (below_alloc (Below.refl _ _) _) _
  have BKA := Aside0.mk (show W7.heap[ga]? = some (.cells #[.int .i64 p1, .int .i64 p2, .slice A6 ps.length c6] 30 (0, 0)) from by rw [hW7, hga]; exact blk_new _ _)
  have GA := Aside0.mk (show M ≤ ga from by omega)
  replace BKL := Aside0.mk (blk_below BKL.out hb7)
  replace BKX := Aside0.mk (blk_below BKX.out hb7)
  replace BKW := Aside0.mk (blk_below BKW.out hb7)
  replace HS := Aside0.mk (Kd.S_below HS.out hb7)
  replace HO := Aside0.mk (Kd.R_below HO.out hb7)
  replace HA := Aside0.mk (Kd.S_below HA.out hb7)
  have hMs7 : M ≤ W7.heap.size := Nat.le_trans hMs hb7.size
  replace HB := Aside0.mk (below_step HB.out hb7)
  rw [← hW7, ← hga]
  clear hW7 hga hb7 hMs
  have h := H.out
  clear H
  by_cases c1 : pe = 0
  · rw [if_pos c1] at h
    have c1b : (pe != 0) = false := by simp [c1]
    obtain ⟨⟨q1, q2, qs, qe⟩, hrf, h⟩ := Option.bind_eq_some_iff.mp h
    dsimp only at h
    obtain ⟨ra, hra, h⟩ := Option.bind_eq_some_iff.mp h
    by_cases c2 : okSp k os d2 = true
    · rw [if_pos c2] at h
      obtain rfl := Option.some.inj h
      obtain ⟨hk1, hk2, hk3, hk4⟩ := okSp_out c2
      have HRF := Aside0.mk hrf
      have HRA := Aside0.mk hra
      have HK4 := Aside0.mk hk4
      clear h hrf hra c1 c2 hk4
      have hz0 := (blk_cell BKL.out 0).trans rfl
      have hz1 := (blk_cell BKL.out 1).trans rfl
      have hz2 := (blk_cell BKL.out 2).trans rfl
      have hz3 := (blk_cell BKX.out 0).trans rfl
      have hz4 := (blk_cell BKX.out 1).trans rfl
      go_wp2_with fail
      refine (transeptref15_Append.calls k a0_0 a0_1 _ _ l0_2 a1_0 _ _ l1_1 q1 q2 qs qe _ (Kd.C_below HR0.out HB.out) HC0.out (Kd.C_below HR1.out HB.out) HC1.out HRF.out).mono ?_
      rintro e w8 ⟨v8, rfl, hs8, hb⟩
      clear hz0 hz1 hz2 hz3 hz4
      obtain ⟨A8, c8, e8⟩ := Kd.S_slice hs8
      subst e8
      have hle := HB.out.size
      have HQ := Aside0.mk (show Kd.S k28 28 (w8.alloc (.cells #[.int .i64 q1, .int .i64 q2, .slice A8 qs.length c8] 35)) w.heap.size (fun k => M ≤ k) (.slice A8 qs.length c8) qs from Kd.S_alloc (Kd.S_lower (Kd.S_mono (Kd.S_bound hs8) (fun k hk => Nat.le_trans hMs7 hk.2.1)) hle) _)
      have hb8 : Below W7.heap.size W7 (w8.alloc (.cells #[.int .i64 q1, .int .i64 q2, .slice A8 qs.length c8] 35)) := below_alloc hb _
      replace BKW := Aside0.mk (blk_below BKW.out hb8)
      replace BKA := Aside0.mk (blk_below BKA.out hb8)
      obtain ⟨gq, hgq⟩ : ∃ gq, gq = w8.heap.size := ⟨_, rfl⟩
      have BKQ := Aside0.mk (show (w8.alloc (.cells #[.int .i64 q1, .int .i64 q2, .slice A8 qs.length c8] 35)).heap[gq]? = some (.cells #[.int .i64 q1, .int .i64 q2, .slice A8 qs.length c8] 35 (0, 0)) from by rw [hgq]; exact blk_new _ _)
      have GQ := Aside0.mk (show M ≤ gq from by have := hb.size; omega)
      replace HS := Aside0.mk (Kd.S_below HS.out hb8)
      replace HO := Aside0.mk (Kd.R_below HO.out hb8)
      replace HA := Aside0.mk (Kd.S_below HA.out hb8)
      replace HB := Aside0.mk (below_step HB.out hb8)
      clear hs8 hb hb8 hle BKL BKX
      obtain ⟨rs0, hsp⟩ := spoil_some (k := k) hk2 hk1
      go_wp2_with fail
      rw [← hgq]
      refine (transeptplain_Spoil.calls k (fun k_ => some k_ = (Value.slice A5 d2.length c5).ownBlock) _ d2 rs0 w _ HB.out (Kd.R_tight rfl HO.out) hsp).mono ?_
      rintro e w9 ⟨rfl, _, hb9, hk9⟩
      replace HS := Aside0.mk (Kd.S_mono (Kd.S_kept HS.out hk9 (fun k hk => hk.2)) (fun k hk => hk.1))
      replace HA := Aside0.mk (Kd.S_step HA.out (fun k hk hlt => hk9.2 k hlt (fun e_ => by have := HLT.out k e_; omega)))
      replace HQ := Aside0.mk (Kd.S_step HQ.out (fun k hk hlt => hk9.2 k hlt (fun e_ => by have := HLT.out k e_; omega)))
      replace BKW := Aside0.mk (blk_kept BKW.out hk9 GWT.out)
      replace BKA := Aside0.mk (blk_kept BKA.out hk9 (fun e_ => by have := HLT.out _ e_; have := GA.out; omega))
      replace BKQ := Aside0.mk (blk_kept BKQ.out hk9 (fun e_ => by have := HLT.out _ e_; have := GQ.out; omega))
      replace HB := Aside0.mk hb9
      clear hsp hb9 hk9 HO hgq
      obtain ⟨n, hn⟩ : ∃ n, n = os.length := ⟨_, rfl⟩
      rw [← hn] at HS BKW
      have HN := Aside0.mk hn
      have hnb : n < 4611686018427387904 := by omega
      clear hn hk3
      go_wp2_with fail
      go_loopw [11] (fun v wr => ∃ i : Nat, i ≤ n ∧ v = .int .i64 i ∧ ∃ ys : List S28, ys.length = n ∧ (∀ y ∈ ys, y.f1.length + 1 ≤ k ∧ y.f1.length < 4611686018427387904) ∧ Hid (Kd.S k28 28 wr w.heap.size (fun k => k < M) (.slice A4 n c4) ys) ∧ Hid (Kd.S k28 28 wr w.heap.size (fun k => M ≤ k) (.slice A6 ps.length c6) ps) ∧ Hid (Kd.S k28 28 wr w.heap.size (fun k => M ≤ k) (.slice A8 qs.length c8) qs) ∧ Hid (wr.heap[gw]? = some (.cells #[.int .i64 o1, .int .i64 o2, .slice A4 n c4] 30 (0, 0))) ∧ Hid (wr.heap[ga]? = some (.cells #[.int .i64 p1, .int .i64 p2, .slice A6 ps.length c6] 30 (0, 0))) ∧ Hid (wr.heap[gq]? = some (.cells #[.int .i64 q1, .int .i64 q2, .slice A8 qs.length c8] 35 (0, 0))) ∧ Hid (Below w.heap.size w wr)) (fun v _ => n - (intOf v).toNat)
      case atStart => exact ⟨0, by omega, rfl, os, HN.out.symm, HK4.out, HS.out, HA.out, HQ.out, BKW.out, BKA.out, BKQ.out, HB.out⟩
      case round =>
        clear HS HA HQ BKW BKA BKQ HB
        obtain ⟨i, hi, rfl, ys, hyl, hyk, HS, HA, HQ, BKW, BKA, BKQ, HB⟩ := hrel
        have HYK := Aside0.mk hyk
        clear hyk
        have hz2 : wr.cell? ⟨gw, 2, none⟩ = some (.slice A4 n c4) := (blk_cell BKW 2).trans rfl
        by_cases hlt : i < n
        · have hlen : i < ys.length := by omega
          obtain ⟨g, c0, eo, hgb, hgl, cg, hcg⟩ := Kd.S_form HS (by omega)
          rw [hyl] at eo
          injection eo with ea _ ec
          subst ea ec
          obtain ⟨oki, c, hcl, hM, hcc, hfr, hoki, hH⟩ := Kd.S_elem HS z28 (i : Int) (by omega) (by omega)
          rw [Int.toNat_natCast] at hcc
          obtain ⟨y, hy⟩ : ∃ y, y = ys.getD (i : Int).toNat z28 := ⟨_, rfl⟩
          have hym : y ∈ ys := by rw [hy, Int.toNat_natCast, List.getD_eq_getElem?_getD, List.getElem?_eq_getElem hlen]; exact List.getElem_mem hlen
          rw [← hy] at hM
          obtain ⟨v1, rfl, hR1⟩ := k28_openM hM
          obtain ⟨A', c', ev⟩ := Kd.R_slice hR1
          subst ev
          have hc1 : wr.cell? ⟨g, i * 2 + 1, none⟩ = some (.slice A' y.f1.length c') := hcc 1 _ rfl
          obtain ⟨hy1, hy2⟩ := HYK.out y hym
          obtain ⟨rs, hsp⟩ := spoil_some (k := k) hy2 hy1
          have HH := Aside0.mk hH
          have HR := Aside0.mk hR1
          have HOK := Aside0.mk hoki
          clear hH hR1 hoki hM hcc hfr hcl hy hym
          go_wp2_with fail
          refine (transeptplain_Spoil.calls k (fun k_ => some k_ = (Value.slice A' y.f1.length c').ownBlock) _ y.f1 rs w wr HB (Kd.R_tight rfl HR.out) hsp).mono ?_
          rintro e w9 ⟨rfl, ho9, hb9, hk9⟩
          have hown : ∀ k_, some k_ = (Value.slice A' y.f1.length c').ownBlock → oki k_ := fun k_ e_ => HR.out.1 k_ e_.symm
          have hltM : ∀ k_, some k_ = (Value.slice A' y.f1.length c').ownBlock → k_ < M := fun k_ e_ => (HOK.out k_ (hown k_ e_)).1
          have hrl : y.f1.length = rs.length := (Kd.R_reads' ho9).1
          have hS9 := Kd.H_back (Kd.H_step HH.out (fun k_ _ hn_ hl_ => hk9.2 k_ hl_ (fun e_ => hn_ (hown k_ e_)))) (x' := (⟨y.f0, rs⟩ : S28)) (okp := oki) (k28_mkM w9 w.heap.size oki (⟨y.f0, rs⟩ : S28) (Kd.R_mono (Kd.R_tight rfl ho9) hown)) (fun _ h_ => h_)
          replace HA := Kd.S_step HA (fun k hk hlt => hk9.2 k hlt (fun e_ => by have := hltM k e_; omega))
          replace HQ := Kd.S_step HQ (fun k hk hlt => hk9.2 k hlt (fun e_ => by have := hltM k e_; omega))
          have hgw : some gw ≠ (Value.slice A' y.f1.length c').ownBlock := Kd.R_ne HR.out BKW (by decide)
          replace BKW := blk_kept BKW hk9 hgw
          replace BKA := blk_kept BKA hk9 (fun e_ => by have := hltM _ e_; have := GA.out; omega)
          replace BKQ := blk_kept BKQ hk9 (fun e_ => by have := hltM _ e_; have := GQ.out; omega)
          have HS9 := Aside0.mk hS9
          clear hS9 ho9 hsp HH HR HOK hc1 hz2
          go_wp2_with fail
          go_roundw
          case rel => exact ⟨i + 1, by omega, by go_num, ys.set (i : Int).toNat ⟨y.f0, rs⟩, by rw [List.length_set]; exact hyl, fun z hz => by
            rcases List.mem_or_eq_of_mem_set hz with h_ | h_
            · exact HYK.out z h_
            · rw [h_]; exact ⟨by rw [← hrl]; exact hy1, by rw [← hrl]; exact hy2⟩, HS9.out, HA, HQ, BKW, BKA, BKQ, hb9⟩
          case measure => simp [intOf]; omega
        · obtain rfl : i = n := by omega
          have hy0 := (blk_cell BKA 0).trans rfl
          have hy1 := (blk_cell BKA 1).trans rfl
          have hy2 := (blk_cell BKA 2).trans rfl
          have hx0 := (blk_cell BKQ 0).trans rfl
          have hx1 := (blk_cell BKQ 1).trans rfl
          have hx2 := (blk_cell BKQ 2).trans rfl
          go_wp2_with fail
          refine (transeptlaw15_Alike.calls k p1 p2 _ _ ps q1 q2 _ _ qs ra _ (Kd.S_reads' HA).2.2 (Kd.S_reads' HA).2.1 (Kd.S_reads' HQ).2.2 (Kd.S_reads' HQ).2.1 HRA.out).mono ?_
          rintro e w9 ⟨rfl, hb9⟩
          go_wp2_with fail
          go_ret
          exact ⟨rfl, below_step HB hb9⟩
    · rw [if_neg c2] at h
      exact absurd h (by simp)
  · rw [if_neg c1] at h
    have c1b : (pe != 0) = true := by simp [c1]
    obtain rfl := Option.some.inj h
    have hz2 := (blk_cell BKA.out 2).trans rfl
    go_wp2_with fail
    go_ret
    exact ⟨rfl, HB.out⟩
end Go.Proofs.Yteplhacanofeoaa.Q
