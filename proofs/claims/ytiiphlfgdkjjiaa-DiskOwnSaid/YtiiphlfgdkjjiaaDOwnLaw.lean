/- DiskOwn, walked by hand: what it answers; no condition. -/
import Derived.Test.YtiiphlfgdkjjiaaDOf
import Derived.Test.YtiiphlfgdkjjiaaQ9
import Derived.Test.YtiiphlfgdkjjiaaQ19
import Derived.Test.YtiiphlfgdkjjiaaQ19
import Derived.Test.YtiiphlfgdkjjiaaQ14
import Derived.Test.YtiiphlfgdkjjiaaQ15
namespace Go.Proofs.Ytiiphlfgdkjjiaa.Q
open Go.RowKit Go.Proofs.YtiiphlfgdkjjiaaW.PrintWords Go.Proofs.YtiiphlfgdkjjiaaW.PrintLast Go.Proofs.YtiiphlfgdkjjiaaW.PrintMore
set_option linter.unusedVariables false
set_option linter.unusedSimpArgs false

theorem blk_keptH {w w1 : World} {g : Nat} {o : Obj} {P : Nat → Prop} (h : w.heap[g]? = some o) (hk : Kept w w1 P) (hn : ¬ P g) : w1.heap[g]? = some o := (hk.2 g (blk_lt h) hn).trans h
theorem spoil_l0 : ∀ (m k : Nat) (l : List Int) (i : Nat), i + m = l.length → l.length < 4611686018427387904 → m + 1 ≤ k → ∃ r, transeptplain_Spoil.l0 k l (i : Int) = some r := by
  intro m
  induction m with
  | zero =>
    intro k l i hi hl hk
    obtain ⟨k, rfl⟩ : ∃ j, k = j + 1 := ⟨k - 1, by omega⟩
    exact ⟨l, by rw [transeptplain_Spoil.l0, if_neg (by omega)]⟩
  | succ m ih =>
    intro k l i hi hl hk
    obtain ⟨k, rfl⟩ : ∃ j, k = j + 1 := ⟨k - 1, by omega⟩
    rw [transeptplain_Spoil.l0, if_pos (by omega), if_pos (by omega), show wrap64 ((i : Int) + 1) = ((i + 1 : Nat) : Int) from by unfold wrap64; omega]
    exact ih k _ (i + 1) (by rw [List.length_set]; omega) (by rw [List.length_set]; exact hl) (by omega)
theorem spoil_some {k : Nat} {l : List Int} (hl : l.length < 4611686018427387904) (hk : l.length + 1 ≤ k) : ∃ r, transeptplain_Spoil.f k l = some r := spoil_l0 l.length k l 0 (by omega) hl (by omega)
/-- As long as a machine holds, and rounds enough for each text that is spoilt. -/
def okF (k : Nat) (l0 : List (List Int)) (l1 : List Wp) (d : List Int) : Bool := decide (l0.length < 5864062014805) && decide (l1.length < 4398046511104) && decide (d.length < 140737488355328) && decide (d.length + 1 ≤ k) && l0.all (fun b => decide (b.length + 1 ≤ k) && decide (b.length < 140737488355328)) && l1.all (fun x => decide (x.f1.length + 1 ≤ k) && decide (x.f1.length < 140737488355328))
theorem okF_out {k : Nat} {l0 : List (List Int)} {l1 : List Wp} {d : List Int} (h : okF k l0 l1 d = true) : FitD l0 ∧ FitW l1 ∧ (d.length + 1 ≤ k ∧ d.length < 140737488355328) ∧ (∀ b ∈ l0, b.length + 1 ≤ k ∧ b.length < 140737488355328) ∧ ∀ x ∈ toWs l1, x.f1.length + 1 ≤ k ∧ x.f1.length < 140737488355328 := by
  simp only [okF, Bool.and_eq_true, decide_eq_true_eq, List.all_eq_true] at h
  obtain ⟨⟨⟨⟨⟨h1, h2⟩, h3⟩, h4⟩, h5⟩, h6⟩ := h
  refine ⟨⟨h1, fun b hb => (h5 b hb).2⟩, ⟨h2, fun x hx => (h6 x hx).2⟩, ⟨h4, h3⟩, h5, fun x hx => ?_⟩
  obtain ⟨y, hy, rfl⟩ := List.mem_map.1 hx
  exact h6 y hy
def transeptlaw04_DiskOwn.f (k : Nat) (l0 : List (List Int)) (l1 : List Wp) (d : List Int) : Option Bool :=
  (transeptlaw04_alive.f).bind fun a => if a = true then (if okF k l0 l1 d = true then (disk_Put.f k l0 (toWs l1) 0 d).bind fun p =>
    if p.2.2 = 0 then (transeptref04_Put.f k l0 l1 0 d).bind fun q => (transeptlaw04_Alike.f k p.1 p.2.1 q.1 q.2.1).bind fun r => some (r == 0) else some ((p.1.length : Int) == 0) else none) else none

set_option maxHeartbeats 8000000 in
set_option maxRecDepth 100000 in
theorem transeptlaw04_DiskOwn.calls (k : Nat) (A0_0 : Option Addr) (c0_0 : Nat) (l0_0 : List (List Int)) (A0_1 : Option Addr) (c0_1 : Nat) (l0_1 : List Wp) (A1 : Option Addr) (c1 : Nat) (l1 : List Int) (r : Bool) (w : World) (hr0_0 : Kd.C kB w A0_0 l0_0.length l0_0) (hc0_0 : l0_0.length ≤ c0_0) (hr0_1 : Kd.C kP w A0_1 l0_1.length l0_1) (hc0_1 : l0_1.length ≤ c0_1) (hr1 : Kd.C (Kd.int .u8) w A1 l1.length l1) (hc1 : l1.length ≤ c1) (h : transeptlaw04_DiskOwn.f k l0_0 l0_1 l1 = some r) :
    Calls Try.prog 6 #[.agg #[.slice A0_0 l0_0.length c0_0, .slice A0_1 l0_1.length c0_1], .slice A1 l1.length c1] w fun e w' => e = .returned (.bool r) ∧ Below w.heap.size w w' := by
  have hu30 := Try.underlying28
  have hu35 := Try.underlying42
  have hu28 := Try.underlying61
  have HR0 := Aside0.mk hr0_0
  have HC0 := Aside0.mk hc0_0
  have HR1 := Aside0.mk hr0_1
  have HC1 := Aside0.mk hc0_1
  have HR2 := Aside0.mk hr1
  have HC2 := Aside0.mk hc1
  clear hr0_0 hc0_0 hr0_1 hc0_1 hr1 hc1
  unfold transeptlaw04_DiskOwn.f at h
  obtain ⟨al, hal, h⟩ := Option.bind_eq_some_iff.mp h
  have ha : al = true := by
    cases al with
    | true => rfl
    | false => rw [if_neg (by simp)] at h; exact absurd h (by simp)
  subst ha
  rw [if_pos rfl] at h
  have hok : okF k l0_0 l0_1 l1 = true := by
    by_cases c : okF k l0_0 l0_1 l1 = true
    · exact c
    · rw [if_neg c] at h; exact absurd h (by simp)
  rw [if_pos hok] at h
  obtain ⟨hf0, hf1, hkd, hk0, hk1⟩ := okF_out hok
  obtain ⟨⟨ps, pw, pe⟩, hap, h⟩ := Option.bind_eq_some_iff.mp h
  dsimp only at h
  have HAL := Aside0.mk hal
  have HF0 := Aside0.mk hf0
  have HF1 := Aside0.mk hf1
  have HKD := Aside0.mk hkd
  have HK0 := Aside0.mk hk0
  have HK1 := Aside0.mk hk1
  have HAP := Aside0.mk hap
  have H := Aside0.mk h
  clear hal hok hf0 hf1 hkd hk0 hk1 hap h
  go_enter Try.func6, Try.ntmps6
  go_wp2_with (first
    | ((with_reducible refine gate_dst (N := 2) rfl ?_); refine box_event ?hg (N := 2) ?hd (cs := #[.slice A0_0 l0_0.length c0_0, .slice A0_1 l0_1.length c0_1]) (t := 42) ?hr ?_; (case hd => rfl); (case hg => rfl); (case hr => first | (go_simp; done) | (go_simp; rfl)); intro gl hgl w1 hbox hb; have HB := Aside0.mk hb; have BKL := Aside0.mk hbox; clear hb hbox hgl))
  refine (transeptlaw04_alive.calls true _ HAL.out).mono ?_
  rintro e w3 ⟨rfl, hb⟩
  replace BKL := Aside0.mk (blk_below BKL.out hb)
  replace HB := Aside0.mk (below_step HB.out hb)
  clear hb
  have hz0 := (blk_cell BKL.out 0).trans rfl
  have hz1 := (blk_cell BKL.out 1).trans rfl
  go_wp2_with fail
  refine (of_any A0_0 c0_0 l0_0 A0_1 c0_1 l0_1 _ (Kd.C_below HR0.out HB.out) HC0.out (Kd.C_below HR1.out HB.out) HF0.out HF1.out).mono ?_
  rintro e w4 ⟨v0, v1, rfl, ⟨p, hs0, hs1⟩, hb⟩
  clear hz0 hz1
  obtain ⟨A4, c4, e4⟩ := Kd.S_slice hs0
  subst e4
  obtain ⟨B4, d4, e4⟩ := Kd.S_slice hs1
  subst e4
  replace BKL := Aside0.mk (blk_below BKL.out hb)
  have HS := Aside0.mk (Kd.S_lower hs0 HB.out.size)
  have HT := Aside0.mk (Kd.S_lower hs1 HB.out.size)
  replace HB := Aside0.mk (below_step HB.out hb)
  clear hb hs0 hs1
  go_wp2_with fail
  refine (transeptplain_CopyBytes.calls _ _ l1 l1 _ (Kd.C_below HR2.out HB.out) HC2.out (copyBytes HKD.out.2)).mono ?_
  rintro e w5 ⟨v5, rfl, ho, hb⟩
  obtain ⟨A5, c5, e5⟩ := Kd.R_slice ho
  subst e5
  have HNE := Aside0.mk (fun k hk e_ => by have := Kd.R_base ho k e_.symm; omega : ∀ k, k < w4.heap.size → ¬ some k = (Value.slice A5 l1.length c5).ownBlock)
  have HLT0 := Aside0.mk (fun k e_ => Kd.R_lt ho k e_.symm : ∀ k, some k = (Value.slice A5 l1.length c5).ownBlock → k < w5.heap.size)
  have hsz5 := hb.size
  replace HS := Aside0.mk (Kd.S_mono (Kd.S_old HS.out hb) (fun k hk => ⟨⟨Nat.lt_of_lt_of_le hk.2 hsz5, HNE.out k hk.2⟩, hk.1⟩ : ∀ k, p k ∧ k < w4.heap.size → (k < w5.heap.size ∧ ¬ some k = (Value.slice A5 l1.length c5).ownBlock) ∧ p k))
  replace HT := Aside0.mk (Kd.S_mono (Kd.S_old HT.out hb) (fun k hk => ⟨⟨Nat.lt_of_lt_of_le hk.2 hsz5, HNE.out k hk.2⟩, hk.1⟩ : ∀ k, ¬ p k ∧ k < w4.heap.size → (k < w5.heap.size ∧ ¬ some k = (Value.slice A5 l1.length c5).ownBlock) ∧ ¬ p k))
  have HO := Aside0.mk (Kd.R_lower ho HB.out.size)
  replace BKL := Aside0.mk (blk_below BKL.out hb)
  replace HB := Aside0.mk (below_step HB.out hb)
  clear hb ho hsz5 HNE
  go_wp2_with fail
  obtain ⟨gx, hgx⟩ : ∃ gx, gx = w5.heap.size := ⟨_, rfl⟩
  obtain ⟨n, hn⟩ : ∃ n, n = l0_0.length := ⟨_, rfl⟩
  obtain ⟨m, hm⟩ : ∃ m, m = (toWs l0_1).length := ⟨_, rfl⟩
  have HN := Aside0.mk hn
  have HM2 := Aside0.mk hm
  obtain ⟨W5, hW5⟩ : ∃ W5, W5 = w5.alloc (.cells #[.slice A4 l0_0.length c4, .slice B4 (toWs l0_1).length d4] 28) := ⟨_, rfl⟩
  have hb5 : Below w5.heap.size w5 W5 := by rw [hW5]; exact below_alloc (Below.refl _ _) _
  have BKX := Aside0.mk (show W5.heap[gx]? = some (.cells #[.slice A4 l0_0.length c4, .slice B4 (toWs l0_1).length d4] 28 (0, 0)) from by rw [hW5, hgx]; exact blk_new _ _)
  obtain ⟨M, hM⟩ : ∃ M, M = W5.heap.size := ⟨_, rfl⟩
  have hMs : w5.heap.size ≤ M := by rw [hM]; exact hb5.size
  have HLT := Aside0.mk (fun k e_ => Nat.lt_of_lt_of_le (HLT0.out k e_) hMs : ∀ k, some k = (Value.slice A5 l1.length c5).ownBlock → k < M)
  replace HS := Aside0.mk (Kd.S_mono (Kd.S_below HS.out hb5) (fun k hk => ⟨⟨Nat.lt_of_lt_of_le hk.1.1 hMs, hk.1.2⟩, hk.2⟩ : ∀ k, _ → (k < M ∧ ¬ some k = (Value.slice A5 l1.length c5).ownBlock) ∧ p k))
  replace HT := Aside0.mk (Kd.S_mono (Kd.S_below HT.out hb5) (fun k hk => ⟨⟨Nat.lt_of_lt_of_le hk.1.1 hMs, hk.1.2⟩, hk.2⟩ : ∀ k, _ → (k < M ∧ ¬ some k = (Value.slice A5 l1.length c5).ownBlock) ∧ ¬ p k))
  replace HO := Aside0.mk (Kd.R_below HO.out hb5)
  replace BKL := Aside0.mk (blk_below BKL.out hb5)
  replace HB := Aside0.mk (below_step HB.out hb5)
  have GWT := Aside0.mk (Kd.R_ne HO.out BKX.out (by decide) : some gx ≠ (Value.slice A5 l1.length c5).ownBlock)
  rw [← hW5, ← hgx]
  clear hW5 hgx hb5 hMs HLT0 hn hm
  refine (disk_Put.calls k A4 c4 l0_0 B4 d4 (toWs l0_1) 0 A5 c5 l1 ps pw pe _ (Kd.S_reads' HS.out).2.2 (Kd.S_reads' HS.out).2.1 (Kd.S_reads' HT.out).2.2 (Kd.S_reads' HT.out).2.1 (Kd.R_reads' HO.out).2.2 (Kd.R_reads' HO.out).2.1 HAP.out).mono ?_
  rintro e w6 ⟨v6, u6, rfl, hs6, ht6, hb⟩
  obtain ⟨A6, c6, e6⟩ := Kd.S_slice hs6
  subst e6
  obtain ⟨B6, d6, e6⟩ := Kd.S_slice ht6
  subst e6
  replace BKL := Aside0.mk (blk_below BKL.out hb)
  replace BKX := Aside0.mk (blk_below BKX.out hb)
  replace HS := Aside0.mk (Kd.S_below HS.out hb)
  replace HT := Aside0.mk (Kd.S_below HT.out hb)
  replace HO := Aside0.mk (Kd.R_below HO.out hb)
  have hle := HB.out.size
  have HA := Aside0.mk (show Kd.S kB 50 w6 w.heap.size (fun k => M ≤ k) (.slice A6 ps.length c6) ps from Kd.S_lower (Kd.S_mono (Kd.S_bound hs6) (fun k hk => by rw [hM]; exact hk.2.1)) hle)
  have HA1 := Aside0.mk (show Kd.S kW 61 w6 w.heap.size (fun k => M ≤ k) (.slice B6 pw.length d6) pw from Kd.S_lower (Kd.S_mono (Kd.S_bound ht6) (fun k hk => by rw [hM]; exact hk.2.1)) hle)
  have hMs : M ≤ w6.heap.size := by rw [hM]; exact hb.size
  replace HB := Aside0.mk (below_step HB.out hb)
  clear hb hs6 ht6 hle hM
  go_wp2_with fail
  refine (transeptlaw04_num.calls pe pe _ rfl).mono ?_
  rintro e w7 ⟨rfl, ⟨⟨m1, rfl⟩⟩⟩
  obtain ⟨ga, hga⟩ : ∃ ga, ga = w6.heap.size := ⟨_, rfl⟩
  obtain ⟨W7, hW7⟩ : ∃ W7, W7 = (w6.alloc (.cells #[.slice A6 ps.length c6, .slice B6 pw.length d6] 28)).drewN m1 := ⟨_, rfl⟩
  have hb7 : Below w6.heap.size w6 W7 := by rw [hW7]; exact pw_below_drewN (below_alloc (Below.refl _ _) _) _
  have BKA := Aside0.mk (show W7.heap[ga]? = some (.cells #[.slice A6 ps.length c6, .slice B6 pw.length d6] 28 (0, 0)) from by rw [hW7, hga]; exact blk_new _ _)
  have GA := Aside0.mk (show M ≤ ga from by omega)
  replace BKL := Aside0.mk (blk_below BKL.out hb7)
  replace BKX := Aside0.mk (blk_below BKX.out hb7)
  replace HS := Aside0.mk (Kd.S_below HS.out hb7)
  replace HT := Aside0.mk (Kd.S_below HT.out hb7)
  replace HO := Aside0.mk (Kd.R_below HO.out hb7)
  replace HA := Aside0.mk (Kd.S_below HA.out hb7)
  replace HA1 := Aside0.mk (Kd.S_below HA1.out hb7)
  have hMs7 : M ≤ W7.heap.size := Nat.le_trans hMs hb7.size
  replace HB := Aside0.mk (below_step HB.out hb7)
  rw [← hW7, ← hga]
  clear hW7 hga hb7 hMs
  have h := H.out
  clear H
  by_cases c1_ : pe = 0
  · rw [if_pos c1_] at h
    have c1b : (pe != 0) = false := by simp [c1_]
    obtain ⟨⟨qs, qw, qe⟩, hrf, h⟩ := Option.bind_eq_some_iff.mp h
    dsimp only at h
    obtain ⟨ra, hra, h⟩ := Option.bind_eq_some_iff.mp h
    obtain rfl := Option.some.inj h
    have HRF := Aside0.mk hrf
    have HRA := Aside0.mk hra
    clear h hrf hra c1_
    have hz0 := (blk_cell BKL.out 0).trans rfl
    have hz1 := (blk_cell BKL.out 1).trans rfl
    go_wp2_with fail
    refine (transeptref04_Put.calls k _ _ l0_0 _ _ l0_1 0 _ _ l1 qs qw qe _ (Kd.C_below HR0.out HB.out) HC0.out (Kd.C_below HR1.out HB.out) HC1.out (Kd.C_below HR2.out HB.out) HC2.out HRF.out).mono ?_
    rintro e w8 ⟨v8, u8, rfl, hs8, ht8, hb⟩
    clear hz0 hz1
    obtain ⟨A8, c8, e8⟩ := Kd.S_slice hs8
    subst e8
    obtain ⟨B8, d8, e8⟩ := Kd.S_slice ht8
    subst e8
    have hle := HB.out.size
    obtain ⟨W8, hW8⟩ : ∃ W8, W8 = w8.alloc (.cells #[.slice A8 qs.length c8, .slice B8 qw.length d8] 42) := ⟨_, rfl⟩
    have hb88 : Below w8.heap.size w8 W8 := by rw [hW8]; exact below_alloc (Below.refl _ _) _
    have HQ := Aside0.mk (show Kd.S kB 50 W8 w.heap.size (fun k => M ≤ k) (.slice A8 qs.length c8) qs from Kd.S_below (Kd.S_lower (Kd.S_mono (Kd.S_bound hs8) (fun k hk => Nat.le_trans hMs7 hk.2.1)) hle) hb88)
    have HQ1 := Aside0.mk (show Kd.S kP 55 W8 w.heap.size (fun k => M ≤ k) (.slice B8 qw.length d8) qw from Kd.S_below (Kd.S_lower (Kd.S_mono (Kd.S_bound ht8) (fun k hk => Nat.le_trans hMs7 hk.2.1)) hle) hb88)
    have hb8 : Below W7.heap.size W7 W8 := below_step hb hb88
    replace BKX := Aside0.mk (blk_below BKX.out hb8)
    replace BKA := Aside0.mk (blk_below BKA.out hb8)
    obtain ⟨gq, hgq⟩ : ∃ gq, gq = w8.heap.size := ⟨_, rfl⟩
    have BKQ := Aside0.mk (show W8.heap[gq]? = some (.cells #[.slice A8 qs.length c8, .slice B8 qw.length d8] 42 (0, 0)) from by rw [hW8, hgq]; exact blk_new _ _)
    have GQ := Aside0.mk (show M ≤ gq from by have := hb.size; omega)
    replace HS := Aside0.mk (Kd.S_below HS.out hb8)
    replace HT := Aside0.mk (Kd.S_below HT.out hb8)
    replace HO := Aside0.mk (Kd.R_below HO.out hb8)
    replace HA := Aside0.mk (Kd.S_below HA.out hb8)
    replace HA1 := Aside0.mk (Kd.S_below HA1.out hb8)
    replace HB := Aside0.mk (below_step HB.out hb8)
    obtain ⟨rs0, hsp⟩ := spoil_some (k := k) (l := l1) (by have := HKD.out.2; omega) HKD.out.1
    clear hs8 ht8 hb hb8 hb88 hle BKL
    go_wp2_with fail
    rw [← hW8, ← hgq]
    refine (transeptplain_Spoil.calls k (fun k_ => some k_ = (Value.slice A5 l1.length c5).ownBlock) _ l1 rs0 w _ HB.out (Kd.R_tight rfl HO.out) hsp).mono ?_
    rintro e w9 ⟨rfl, _, hb9, hk9⟩
    replace HS := Aside0.mk (Kd.S_step HS.out (fun k hk hlt => hk9.2 k hlt hk.1.2))
    replace HT := Aside0.mk (Kd.S_step HT.out (fun k hk hlt => hk9.2 k hlt hk.1.2))
    replace HA := Aside0.mk (Kd.S_step HA.out (fun k hk hlt => hk9.2 k hlt (fun e_ => by have := HLT.out k e_; omega)))
    replace HA1 := Aside0.mk (Kd.S_step HA1.out (fun k hk hlt => hk9.2 k hlt (fun e_ => by have := HLT.out k e_; omega)))
    replace HQ := Aside0.mk (Kd.S_step HQ.out (fun k hk hlt => hk9.2 k hlt (fun e_ => by have := HLT.out k e_; omega)))
    replace HQ1 := Aside0.mk (Kd.S_step HQ1.out (fun k hk hlt => hk9.2 k hlt (fun e_ => by have := HLT.out k e_; omega)))
    replace BKX := Aside0.mk (blk_keptH BKX.out hk9 GWT.out)
    replace BKA := Aside0.mk (blk_keptH BKA.out hk9 (fun e_ => by have := HLT.out _ e_; have := GA.out; omega))
    replace BKQ := Aside0.mk (blk_keptH BKQ.out hk9 (fun e_ => by have := HLT.out _ e_; have := GQ.out; omega))
    replace HB := Aside0.mk hb9
    clear hsp hb9 hk9 HO hgq hW8
    rw [← HN.out, ← HM2.out] at BKX
    rw [← HN.out] at HS
    rw [← HM2.out] at HT
    have hnb : n < 5864062014805 := by rw [HN.out]; exact HF0.out.1
    have hmb : m < 4398046511104 := by rw [HM2.out, toWs_length]; exact HF1.out.1
    go_wp2_with fail
    go_loopw [11] (fun v wr => ∃ i : Nat, i ≤ n ∧ v = .int .i64 i ∧ ∃ ys : List (List Int), ys.length = n ∧ (∀ y ∈ ys, y.length + 1 ≤ k ∧ y.length < 140737488355328) ∧ Hid (Kd.S kB 50 wr w.heap.size (fun k => (k < M ∧ ¬ some k = (Value.slice A5 l1.length c5).ownBlock) ∧ p k) (.slice A4 n c4) ys) ∧ Hid (Kd.S kW 61 wr w.heap.size (fun k => (k < M ∧ ¬ some k = (Value.slice A5 l1.length c5).ownBlock) ∧ ¬ p k) (.slice B4 m d4) (toWs l0_1)) ∧ Hid (Kd.S kB 50 wr w.heap.size (fun k => M ≤ k) (.slice A6 ps.length c6) ps) ∧ Hid (Kd.S kW 61 wr w.heap.size (fun k => M ≤ k) (.slice B6 pw.length d6) pw) ∧ Hid (Kd.S kB 50 wr w.heap.size (fun k => M ≤ k) (.slice A8 qs.length c8) qs) ∧ Hid (Kd.S kP 55 wr w.heap.size (fun k => M ≤ k) (.slice B8 qw.length d8) qw) ∧ Hid (wr.heap[gx]? = some (.cells #[.slice A4 n c4, .slice B4 m d4] 28 (0, 0))) ∧ Hid (wr.heap[ga]? = some (.cells #[.slice A6 ps.length c6, .slice B6 pw.length d6] 28 (0, 0))) ∧ Hid (wr.heap[gq]? = some (.cells #[.slice A8 qs.length c8, .slice B8 qw.length d8] 42 (0, 0))) ∧ Hid (Below w.heap.size w wr)) (fun v _ => n - (intOf v).toNat)
    case atStart => exact ⟨0, by omega, rfl, l0_0, HN.out.symm, HK0.out, HS.out, HT.out, HA.out, HA1.out, HQ.out, HQ1.out, BKX.out, BKA.out, BKQ.out, HB.out⟩
    case round =>
      clear HS HT HA HA1 HQ HQ1 BKX BKA BKQ HB
      obtain ⟨i, hi, rfl, ys, hyl, hyk, HS, HT, HA, HA1, HQ, HQ1, BKX, BKA, BKQ, HB⟩ := hrel
      have HYK := Aside0.mk hyk
      clear hyk
      have hz0 : wr.cell? ⟨gx, 0, none⟩ = some (.slice A4 n c4) := (blk_cell BKX 0).trans rfl
      by_cases hlt : i < n
      · have hlen : i < ys.length := by omega
        obtain ⟨g, c0, eo, hgb, hgl, cg, hcg⟩ := Kd.S_form HS (by omega)
        rw [hyl] at eo
        injection eo with ea _ ec
        subst ea ec
        obtain ⟨oki, c, hcl, hM, hcc, hfr, hoki, hH⟩ := Kd.S_elem HS ([] : List Int) (i : Int) (by omega) (by omega)
        rw [Int.toNat_natCast] at hcc
        obtain ⟨y, hy⟩ : ∃ y, y = ys.getD (i : Int).toNat ([] : List Int) := ⟨_, rfl⟩
        have hym : y ∈ ys := by rw [hy, Int.toNat_natCast, List.getD_eq_getElem?_getD, List.getElem?_eq_getElem hlen]; exact List.getElem_mem hlen
        rw [← hy] at hM
        obtain ⟨v1, rfl, hR1⟩ := hM
        obtain ⟨A', c', ev⟩ := Kd.R_slice hR1
        subst ev
        have hc1 : wr.cell? ⟨g, i, none⟩ = some (.slice A' y.length c') := by have := hcc 0 _ rfl; rwa [show i * (kB).sz + 0 = i from by show i * 1 + 0 = i; omega] at this
        obtain ⟨hy1, hy2⟩ := HYK.out y hym
        obtain ⟨rs, hsp⟩ := spoil_some (k := k) (l := y) (by omega) hy1
        have HH := Aside0.mk hH
        have HR := Aside0.mk hR1
        have HOK := Aside0.mk hoki
        clear hH hR1 hoki hcc hfr hcl hy hym
        go_wp2_with fail
        refine (transeptplain_Spoil.calls k (fun k_ => some k_ = (Value.slice A' y.length c').ownBlock) _ y rs w wr HB (Kd.R_tight rfl HR.out) hsp).mono ?_
        rintro e w9 ⟨rfl, ho9, hb9, hk9⟩
        have hown : ∀ k_, some k_ = (Value.slice A' y.length c').ownBlock → oki k_ := fun k_ e_ => HR.out.1 k_ e_.symm
        have hltM : ∀ k_, some k_ = (Value.slice A' y.length c').ownBlock → k_ < M := fun k_ e_ => (HOK.out k_ (hown k_ e_)).1.1.1
        have hpk : ∀ k_, some k_ = (Value.slice A' y.length c').ownBlock → p k_ := fun k_ e_ => (HOK.out k_ (hown k_ e_)).1.2
        have hrl : y.length = rs.length := (Kd.R_reads' ho9).1
        have hS9 := Kd.H_back (Kd.H_step HH.out (fun k_ _ hn_ hl_ => hk9.2 k_ hl_ (fun e_ => hn_ (hown k_ e_)))) (x' := rs) (okp := oki) (⟨_, rfl, Kd.R_mono (Kd.R_tight rfl ho9) hown⟩ : kB.M w9 w.heap.size oki rs _) (fun _ h_ => h_)
        replace HT := Kd.S_step HT (fun k hk hlt => hk9.2 k hlt (fun e_ => hk.2 (hpk k e_)))
        replace HA := Kd.S_step HA (fun k hk hlt => hk9.2 k hlt (fun e_ => by have := hltM k e_; omega))
        replace HA1 := Kd.S_step HA1 (fun k hk hlt => hk9.2 k hlt (fun e_ => by have := hltM k e_; omega))
        replace HQ := Kd.S_step HQ (fun k hk hlt => hk9.2 k hlt (fun e_ => by have := hltM k e_; omega))
        replace HQ1 := Kd.S_step HQ1 (fun k hk hlt => hk9.2 k hlt (fun e_ => by have := hltM k e_; omega))
        have hgw : some gx ≠ (Value.slice A' y.length c').ownBlock := Kd.R_ne HR.out BKX (by decide)
        replace BKX := blk_keptH BKX hk9 hgw
        replace BKA := blk_keptH BKA hk9 (fun e_ => by have := hltM _ e_; have := GA.out; omega)
        replace BKQ := blk_keptH BKQ hk9 (fun e_ => by have := hltM _ e_; have := GQ.out; omega)
        have HS9 := Aside0.mk hS9
        clear hS9 ho9 hsp HH HR HOK hc1 hz0
        go_wp2_with fail
        go_roundw
        case rel => exact ⟨i + 1, by omega, by go_num, ys.set (i : Int).toNat rs, by rw [List.length_set]; exact hyl, fun z hz => by
          rcases List.mem_or_eq_of_mem_set hz with h_ | h_
          · exact HYK.out z h_
          · rw [h_]; exact ⟨by rw [← hrl]; exact hy1, by rw [← hrl]; exact hy2⟩, HS9.out, HT, HA, HA1, HQ, HQ1, BKX, BKA, BKQ, hb9⟩
        case measure => simp [intOf]; omega
      · obtain rfl : i = n := by omega
        replace HT := Aside0.mk HT
        replace HA := Aside0.mk HA
        replace HA1 := Aside0.mk HA1
        replace HQ := Aside0.mk HQ
        replace HQ1 := Aside0.mk HQ1
        replace BKX := Aside0.mk BKX
        replace BKA := Aside0.mk BKA
        replace BKQ := Aside0.mk BKQ
        replace HB := Aside0.mk HB
        clear HS HYK hyl
        go_wp2_with fail
        go_loopw [12] (fun v wr => ∃ j : Nat, j ≤ m ∧ v = .int .i64 j ∧ ∃ ys : List Wr, ys.length = m ∧ (∀ y ∈ ys, y.f1.length + 1 ≤ k ∧ y.f1.length < 140737488355328) ∧ Hid (Kd.S kW 61 wr w.heap.size (fun k => (k < M ∧ ¬ some k = (Value.slice A5 l1.length c5).ownBlock) ∧ ¬ p k) (.slice B4 m d4) ys) ∧ Hid (Kd.S kB 50 wr w.heap.size (fun k => M ≤ k) (.slice A6 ps.length c6) ps) ∧ Hid (Kd.S kW 61 wr w.heap.size (fun k => M ≤ k) (.slice B6 pw.length d6) pw) ∧ Hid (Kd.S kB 50 wr w.heap.size (fun k => M ≤ k) (.slice A8 qs.length c8) qs) ∧ Hid (Kd.S kP 55 wr w.heap.size (fun k => M ≤ k) (.slice B8 qw.length d8) qw) ∧ Hid (wr.heap[gx]? = some (.cells #[.slice A4 i c4, .slice B4 m d4] 28 (0, 0))) ∧ Hid (wr.heap[ga]? = some (.cells #[.slice A6 ps.length c6, .slice B6 pw.length d6] 28 (0, 0))) ∧ Hid (wr.heap[gq]? = some (.cells #[.slice A8 qs.length c8, .slice B8 qw.length d8] 42 (0, 0))) ∧ Hid (Below w.heap.size w wr)) (fun v _ => m - (intOf v).toNat)
        case atStart => exact ⟨0, by omega, rfl, toWs l0_1, HM2.out.symm, HK1.out, HT.out, HA.out, HA1.out, HQ.out, HQ1.out, BKX.out, BKA.out, BKQ.out, HB.out⟩
        case round =>
          clear HT HA HA1 HQ HQ1 BKX BKA BKQ HB
          clear hz0
          obtain ⟨j, hj, rfl, ys, hyl, hyk, HT, HA, HA1, HQ, HQ1, BKX, BKA, BKQ, HB⟩ := hrel
          have HYK := Aside0.mk hyk
          clear hyk
          have hz1 : wr.cell? ⟨gx, 1, none⟩ = some (.slice B4 m d4) := (blk_cell BKX 1).trans rfl
          by_cases hlt2 : j < m
          · have hlen : j < ys.length := by omega
            obtain ⟨g, c0, eo, hgb, hgl, cg, hcg⟩ := Kd.S_form HT (by omega)
            rw [hyl] at eo
            injection eo with ea _ ec
            subst ea ec
            obtain ⟨oki, c, hcl, hM, hcc, hfr, hoki, hH⟩ := Kd.S_elem HT z61 (j : Int) (by omega) (by omega)
            rw [Int.toNat_natCast] at hcc
            obtain ⟨y, hy⟩ : ∃ y, y = ys.getD (j : Int).toNat z61 := ⟨_, rfl⟩
            have hym : y ∈ ys := by rw [hy, Int.toNat_natCast, List.getD_eq_getElem?_getD, List.getElem?_eq_getElem hlen]; exact List.getElem_mem hlen
            rw [← hy] at hM
            obtain ⟨v1, rfl, hR1⟩ := k61_openM hM
            obtain ⟨A', c', ev⟩ := Kd.R_slice hR1
            subst ev
            have hc1 : wr.cell? ⟨g, j * 2 + 1, none⟩ = some (.slice A' y.f1.length c') := hcc 1 _ rfl
            obtain ⟨hy1, hy2⟩ := HYK.out y hym
            obtain ⟨rs, hsp⟩ := spoil_some (k := k) (l := y.f1) (by omega) hy1
            have HH := Aside0.mk hH
            have HR := Aside0.mk hR1
            have HOK := Aside0.mk hoki
            clear hH hR1 hoki hM hcc hfr hcl hy hym
            go_wp2_with fail
            refine (transeptplain_Spoil.calls k (fun k_ => some k_ = (Value.slice A' y.f1.length c').ownBlock) _ y.f1 rs w wr HB (Kd.R_tight rfl HR.out) hsp).mono ?_
            rintro e w9 ⟨rfl, ho9, hb9, hk9⟩
            have hown : ∀ k_, some k_ = (Value.slice A' y.f1.length c').ownBlock → oki k_ := fun k_ e_ => HR.out.1 k_ e_.symm
            have hltM : ∀ k_, some k_ = (Value.slice A' y.f1.length c').ownBlock → k_ < M := fun k_ e_ => (HOK.out k_ (hown k_ e_)).1.1.1
            have hrl : y.f1.length = rs.length := (Kd.R_reads' ho9).1
            have hS9 := Kd.H_back (Kd.H_step HH.out (fun k_ _ hn_ hl_ => hk9.2 k_ hl_ (fun e_ => hn_ (hown k_ e_)))) (x' := (⟨y.f0, rs⟩ : Wr)) (okp := oki) (k61_mkM w9 w.heap.size oki (⟨y.f0, rs⟩ : Wr) (Kd.R_mono (Kd.R_tight rfl ho9) hown)) (fun _ h_ => h_)
            replace HA := Kd.S_step HA (fun k hk hlt => hk9.2 k hlt (fun e_ => by have := hltM k e_; omega))
            replace HA1 := Kd.S_step HA1 (fun k hk hlt => hk9.2 k hlt (fun e_ => by have := hltM k e_; omega))
            replace HQ := Kd.S_step HQ (fun k hk hlt => hk9.2 k hlt (fun e_ => by have := hltM k e_; omega))
            replace HQ1 := Kd.S_step HQ1 (fun k hk hlt => hk9.2 k hlt (fun e_ => by have := hltM k e_; omega))
            have hgw : some gx ≠ (Value.slice A' y.f1.length c').ownBlock := Kd.R_ne HR.out BKX (by decide)
            replace BKX := blk_keptH BKX hk9 hgw
            replace BKA := blk_keptH BKA hk9 (fun e_ => by have := hltM _ e_; have := GA.out; omega)
            replace BKQ := blk_keptH BKQ hk9 (fun e_ => by have := hltM _ e_; have := GQ.out; omega)
            have HS9 := Aside0.mk hS9
            clear hS9 ho9 hsp HH HR HOK hc1 hz1
            go_wp2_with fail
            go_roundw
            case rel => exact ⟨j + 1, by omega, by go_num, ys.set (j : Int).toNat ⟨y.f0, rs⟩, by rw [List.length_set]; exact hyl, fun z hz => by
              rcases List.mem_or_eq_of_mem_set hz with h_ | h_
              · exact HYK.out z h_
              · rw [h_]; exact ⟨by rw [← hrl]; exact hy1, by rw [← hrl]; exact hy2⟩, HS9.out, HA, HA1, HQ, HQ1, BKX, BKA, BKQ, hb9⟩
            case measure => simp [intOf]; omega
          · obtain rfl : j = m := by omega
            have hy0 := (blk_cell BKA 0).trans rfl
            have hy1 := (blk_cell BKA 1).trans rfl
            have hx0 := (blk_cell BKQ 0).trans rfl
            have hx1 := (blk_cell BKQ 1).trans rfl
            go_wp2_with fail
            refine (transeptlaw04_Alike.calls k _ _ ps _ _ pw _ _ qs _ _ qw ra _ (Kd.S_reads' HA).2.2 (Kd.S_reads' HA).2.1 (Kd.S_reads' HA1).2.2 (Kd.S_reads' HA1).2.1 (Kd.S_reads' HQ).2.2 (Kd.S_reads' HQ).2.1 (Kd.S_reads' HQ1).2.2 (Kd.S_reads' HQ1).2.1 HRA.out).mono ?_
            rintro e w9 ⟨rfl, hb9⟩
            go_wp2_with fail
            go_ret
            exact ⟨rfl, below_step HB hb9⟩
  · rw [if_neg c1_] at h
    have c1b : (pe != 0) = true := by simp [c1_]
    obtain rfl := Option.some.inj h
    have hz0 := (blk_cell BKA.out 0).trans rfl
    go_wp2_with fail
    go_ret
    exact ⟨rfl, HB.out⟩
end Go.Proofs.Ytiiphlfgdkjjiaa.Q
