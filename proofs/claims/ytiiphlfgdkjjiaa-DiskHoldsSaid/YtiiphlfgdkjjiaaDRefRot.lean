/- The page's Rot; no condition but that the state may be where Check says so. -/
import Derived.Test.YtiiphlfgdkjjiaaDRot
namespace Go.Proofs.Ytiiphlfgdkjjiaa.Q
open Go.RowKit Go.Proofs.YtiiphlfgdkjjiaaW.PrintWords Go.Proofs.YtiiphlfgdkjjiaaW.PrintLast Go.Proofs.YtiiphlfgdkjjiaaW.PrintMore
set_option linter.unusedVariables false
set_option linter.unusedSimpArgs false

def transeptref04_Rot.f (k : Nat) (l0 : List (List Int)) (l1 : List Wp) (sec p b : Int) : Option (List (List Int) × List Wp × Int) :=
  (transeptref04_Check.f k l0 l1).bind fun c => if c = 0 then ((transeptref04_has.f l0 l1 sec).bind fun h => if h = true then (if p < 0 then some ([], [], 4) else if p ≥ 64 then some ([], [], 4) else if okS l0 (toWs l1) = true ∧ 0 ≤ sec ∧ sec < (l0.length : Int) then some (rotted l0 sec p b, l1, 0) else none) else some ([], [], 41)) else some ([], [], 9)
theorem transeptref04_Rot.mono : ∀ a0 a1 a2 a3 a4 k, LeO (transeptref04_Rot.f k a0 a1 a2 a3 a4) (transeptref04_Rot.f (k + 1) a0 a1 a2 a3 a4) := by
  intro a0 a1 a2 a3 a4 k
  unfold transeptref04_Rot.f
  exact LeO.bind (transeptref04_Check.mono _ _ _) (fun _ => LeO.refl _)

set_option maxHeartbeats 8000000 in
set_option maxRecDepth 100000 in
theorem transeptref04_Rot.calls (k : Nat) (A0_0 : Option Addr) (c0_0 : Nat) (l0_0 : List (List Int)) (A0_1 : Option Addr) (c0_1 : Nat) (l0_1 : List Wp) (a1 a2 a3 : Int) (r1 : List (List Int)) (r2 : List Wp) (r3 : Int) (w : World) (hr0_0 : Kd.C kB w A0_0 l0_0.length l0_0) (hc0_0 : l0_0.length ≤ c0_0) (hr0_1 : Kd.C kP w A0_1 l0_1.length l0_1) (hc0_1 : l0_1.length ≤ c0_1) (h : transeptref04_Rot.f k l0_0 l0_1 a1 a2 a3 = some (r1, r2, r3)) :
    Calls Try.prog 38 #[.agg #[.slice A0_0 l0_0.length c0_0, .slice A0_1 l0_1.length c0_1], .int .i64 a1, .int .i64 a2, .int .u8 a3] w fun e w' => ∃ v0_ v1_ : Value, e = .returned (.tuple #[.agg #[v0_, v1_], .int .i64 r3]) ∧ Kd.S kB 50 w' w.heap.size (fun _ => True) v0_ r1 ∧ Kd.S kP 55 w' w.heap.size (fun _ => True) v1_ r2 ∧ Below w.heap.size w w' := by
  have hu := Try.underlying42
  have huw := Try.underlying55
  have HR0 := Aside0.mk hr0_0
  have HC0 := Aside0.mk hc0_0
  have HR1 := Aside0.mk hr0_1
  have HC1 := Aside0.mk hc0_1
  clear hr0_0 hc0_0 hr0_1 hc0_1
  unfold transeptref04_Rot.f at h
  obtain ⟨t0, ht0, h⟩ := Option.bind_eq_some_iff.mp h
  have HT := Aside0.mk ht0
  have H := Aside0.mk h
  clear ht0 h
  go_enter Try.func38, Try.ntmps38
  go_wp2_with (first
    | ((with_reducible refine gate_dst (N := 4) rfl ?_); refine box_event ?hg (N := 4) ?hd (cs := #[.slice A0_0 l0_0.length c0_0, .slice A0_1 l0_1.length c0_1]) (t := 42) ?hr ?_; (case hd => rfl); (case hg => rfl); (case hr => first | (go_simp; done) | (go_simp; rfl)); intro gs hgs w1 hbox hb; have HB := Aside0.mk hb; have BKS := Aside0.mk hbox; clear hb hbox hgs)
    | ((with_reducible refine gate_dst (N := 8) rfl ?_); refine box_event ?hg (N := 8) ?hd (cs := #[.slice none 0 0, .slice none 0 0]) (t := 42) ?hr ?_; (case hd => rfl); (case hg => rfl); (case hr => first | (go_simp; done) | (go_simp; rfl)); intro gr hgr w2 hbox hb; have GR := Aside0.mk (by have := HB.out.size; omega : w.heap.size ≤ gr); replace BKS := Aside0.mk (blk_below BKS.out hb); replace HB := Aside0.mk (below_step HB.out hb); have BKR := Aside0.mk hbox; clear hb hbox hgr; have hz0 := (blk_cell BKS.out 0).trans rfl; have hz1 := (blk_cell BKS.out 1).trans rfl))
  refine (transeptref04_Check.calls k _ _ l0_0 _ _ l0_1 t0 _ (Kd.C_below HR0.out HB.out) HC0.out (Kd.C_below HR1.out HB.out) HC1.out HT.out).mono ?_
  rintro e w4a ⟨rfl, hb⟩
  clear hz0 hz1
  replace BKS := Aside0.mk (blk_below BKS.out hb)
  replace BKR := Aside0.mk (blk_below BKR.out hb)
  replace HB := Aside0.mk (below_step HB.out hb)
  clear hb
  have h := H.out
  clear H
  rcases Decidable.em (¬ t0 = 0) with c1_ | c1_
  · rw [if_neg c1_] at h
    have c1c : (t0 != 0) = true := by simp [c1_]
    obtain ⟨rfl, rfl, rfl⟩ : [] = r1 ∧ [] = r2 ∧ 9 = r3 := by simpa using h
    have hr0 : w4a.cell? ⟨gr, 0, none⟩ = some (.slice none 0 0) := (blk_cell BKR.out 0).trans rfl
    have hr1 : w4a.cell? ⟨gr, 1, none⟩ = some (.slice none 0 0) := (blk_cell BKR.out 1).trans rfl
    have hf0 := blk_frozen BKR.out 0
    have hf1 := blk_frozen BKR.out 1
    go_wp2_with fail
    refine bodyPost_ret (results_ct rfl _ _ gr 42 #[.slice none 0 0, .slice none 0 0] (0, 0) _ rfl (put2 BKR.out) Try.underlying42 rfl (by kernel_rfl)) rfl ?_
    exact ⟨_, _, rfl, Kd.S_nil _ _ _ _ _, Kd.S_nil _ _ _ _ _, below2 HB.out GR.out _ _⟩
  obtain rfl : t0 = 0 := Decidable.not_not.1 c1_
  rw [if_pos rfl] at h
  clear c1_
  obtain ⟨t1, ht1, h⟩ := Option.bind_eq_some_iff.mp h
  have HT1 := Aside0.mk ht1
  have H := Aside0.mk h
  clear ht1 h
  have hz0 : w4a.cell? ⟨gs, 0, none⟩ = some (.slice A0_0 l0_0.length c0_0) := (blk_cell BKS.out 0).trans rfl
  have hz1 : w4a.cell? ⟨gs, 1, none⟩ = some (.slice A0_1 l0_1.length c0_1) := (blk_cell BKS.out 1).trans rfl
  go_wp2_with fail
  refine (transeptref04_has.calls _ _ l0_0 _ _ l0_1 a1 t1 _ (Kd.C_below HR0.out HB.out) HC0.out (Kd.C_below HR1.out HB.out) HC1.out HT1.out).mono ?_
  rintro e w4 ⟨rfl, hb⟩
  clear hz0 hz1
  replace BKS := Aside0.mk (blk_below BKS.out hb)
  replace BKR := Aside0.mk (blk_below BKR.out hb)
  replace HB := Aside0.mk (below_step HB.out hb)
  clear hb
  clear HT1
  have h := H.out
  clear H
  rcases Decidable.em (¬ t1 = true) with c1_ | c1_
  · rw [if_neg c1_] at h
    obtain rfl : t1 = false := by simpa using c1_
    obtain ⟨rfl, rfl, rfl⟩ : [] = r1 ∧ [] = r2 ∧ 41 = r3 := by simpa using h
    have hr0 : w4.cell? ⟨gr, 0, none⟩ = some (.slice none 0 0) := (blk_cell BKR.out 0).trans rfl
    have hr1 : w4.cell? ⟨gr, 1, none⟩ = some (.slice none 0 0) := (blk_cell BKR.out 1).trans rfl
    have hf0 := blk_frozen BKR.out 0
    have hf1 := blk_frozen BKR.out 1
    go_wp2_with fail
    refine bodyPost_ret (results_ct rfl _ _ gr 42 #[.slice none 0 0, .slice none 0 0] (0, 0) _ rfl (put2 BKR.out) Try.underlying42 rfl (by kernel_rfl)) rfl ?_
    exact ⟨_, _, rfl, Kd.S_nil _ _ _ _ _, Kd.S_nil _ _ _ _ _, below2 HB.out GR.out _ _⟩
  obtain rfl : t1 = true := Decidable.not_not.1 c1_
  rw [if_pos rfl] at h
  clear c1_
  by_cases c2 : a2 < 0
  · rw [if_pos c2] at h
    have c2b := decide_eq_true c2
    obtain ⟨rfl, rfl, rfl⟩ : [] = r1 ∧ [] = r2 ∧ 4 = r3 := by simpa using h
    have hr0 : w4.cell? ⟨gr, 0, none⟩ = some (.slice none 0 0) := (blk_cell BKR.out 0).trans rfl
    have hr1 : w4.cell? ⟨gr, 1, none⟩ = some (.slice none 0 0) := (blk_cell BKR.out 1).trans rfl
    have hf0 := blk_frozen BKR.out 0
    have hf1 := blk_frozen BKR.out 1
    go_wp2_with fail
    refine bodyPost_ret (results_ct rfl _ _ gr 42 #[.slice none 0 0, .slice none 0 0] (0, 0) _ rfl (put2 BKR.out) Try.underlying42 rfl (by kernel_rfl)) rfl ?_
    exact ⟨_, _, rfl, Kd.S_nil _ _ _ _ _, Kd.S_nil _ _ _ _ _, below2 HB.out GR.out _ _⟩
  rw [if_neg c2] at h
  have c2b := decide_eq_false c2
  by_cases c3 : a2 ≥ 64
  · rw [if_pos c3] at h
    have c3b := decide_eq_true c3
    obtain ⟨rfl, rfl, rfl⟩ : [] = r1 ∧ [] = r2 ∧ 4 = r3 := by simpa using h
    have hr0 : w4.cell? ⟨gr, 0, none⟩ = some (.slice none 0 0) := (blk_cell BKR.out 0).trans rfl
    have hr1 : w4.cell? ⟨gr, 1, none⟩ = some (.slice none 0 0) := (blk_cell BKR.out 1).trans rfl
    have hf0 := blk_frozen BKR.out 0
    have hf1 := blk_frozen BKR.out 1
    go_wp2_with fail
    refine bodyPost_ret (results_ct rfl _ _ gr 42 #[.slice none 0 0, .slice none 0 0] (0, 0) _ rfl (put2 BKR.out) Try.underlying42 rfl (by kernel_rfl)) rfl ?_
    exact ⟨_, _, rfl, Kd.S_nil _ _ _ _ _, Kd.S_nil _ _ _ _ _, below2 HB.out GR.out _ _⟩
  rw [if_neg c3] at h
  have c3b := decide_eq_false c3
  have c4 : okS l0_0 (toWs l0_1) = true ∧ 0 ≤ a1 ∧ a1 < (l0_0.length : Int) := by
    by_cases c4 : okS l0_0 (toWs l0_1) = true ∧ 0 ≤ a1 ∧ a1 < (l0_0.length : Int)
    · exact c4
    · rw [if_neg c4] at h; exact absurd h (by simp)
  rw [if_pos c4] at h
  obtain ⟨rfl, rfl, rfl⟩ : rotted l0_0 a1 a2 a3 = r1 ∧ l0_1 = r2 ∧ 0 = r3 := by simpa using h
  obtain ⟨c4, hs0, hs1⟩ := c4
  obtain ⟨ho1, ho2, ho3, ho4, ho5, _⟩ := toWs_ok c4
  obtain ⟨row, hrow⟩ : ∃ row, row = rd_L2 l0_0 a1 := ⟨_, rfl⟩
  have hrl : row.length = 64 := by
    have hlt2 : a1.toNat < l0_0.length := by omega
    rw [hrow, rd_L2, List.getD_eq_getElem?_getD, List.getElem?_eq_getElem hlt2]
    exact ho4 _ (List.getElem_mem hlt2)
  have HRL := Aside0.mk hrl
  have HROW := Aside0.mk (show row = l0_0.getD a1.toNat [] from hrow)
  clear hrl hrow
  have hz0 : w4.cell? ⟨gs, 0, none⟩ = some (.slice A0_0 l0_0.length c0_0) := (blk_cell BKS.out 0).trans rfl
  have hz1 : w4.cell? ⟨gs, 1, none⟩ = some (.slice A0_1 l0_1.length c0_1) := (blk_cell BKS.out 1).trans rfl
  clear h
  go_wp2_with fail
  refine (rown_any A0_0 c0_0 l0_0 A0_1 c0_1 l0_1 _ (Kd.C_below HR0.out HB.out) (Kd.C_below HR1.out HB.out) ho2 ho3 (fun x hx => by rw [ho4 x hx]; omega) (fun x hx => by rw [(ho5 x hx).2.2]; omega)).mono ?_
  rintro e w5 ⟨v0, v1, rfl, ⟨p, hp0, hp1⟩, hb⟩
  obtain ⟨a0, d0, e0⟩ := Kd.S_slice hp0
  subst e0
  obtain ⟨a1', d1, e1⟩ := Kd.S_slice hp1
  subst e1
  clear hz0 hz1 ho4 ho5 BKS
  have HP0 := Aside0.mk (Kd.S_lower hp0 HB.out.size)
  have HP1 := Aside0.mk (Kd.S_lower hp1 HB.out.size)
  replace BKR := Aside0.mk (blk_below BKR.out hb)
  replace HB := Aside0.mk (below_step HB.out hb)
  clear hp0 hp1 hb
  obtain ⟨g0, e0, eo, _, _, cg0, hcg0⟩ := Kd.S_form HP0.out (by omega)
  injection eo with ea _ ec
  subst ea ec
  clear hcg0
  go_wp2_with fail
  obtain ⟨gt, hgt⟩ : ∃ gt, gt = w5.heap.size := ⟨_, rfl⟩
  obtain ⟨wt, hwt⟩ : ∃ wt, wt = w5.alloc (.cells #[.slice (some ⟨g0, 0, none⟩) l0_0.length d0, .slice a1' l0_1.length d1] 42) := ⟨_, rfl⟩
  have BKT := Aside0.mk (show wt.heap[gt]? = some (.cells #[.slice (some ⟨g0, 0, none⟩) l0_0.length d0, .slice a1' l0_1.length d1] 42 (0, 0)) from by rw [hwt, hgt]; exact blk_new _ _)
  have NT := Aside0.mk (show gr ≠ gt from by have := blk_lt BKR.out; omega)
  replace BKR := Aside0.mk (show wt.heap[gr]? = some (.cells #[.slice none 0 0, .slice none 0 0] 42 (0, 0)) from by rw [hwt]; exact blk_alloc BKR.out _)
  replace HP0 := Aside0.mk (show Kd.S kB 50 wt w.heap.size p (.slice (some ⟨g0, 0, none⟩) l0_0.length d0) l0_0 from by rw [hwt]; exact Kd.S_alloc HP0.out _)
  replace HP1 := Aside0.mk (show Kd.S kP 55 wt w.heap.size (fun k => ¬ p k) (.slice a1' l0_1.length d1) l0_1 from by rw [hwt]; exact Kd.S_alloc HP1.out _)
  replace HB := Aside0.mk (show Below w.heap.size w wt from by rw [hwt]; exact below_alloc HB.out _)
  rw [← hwt, ← hgt]
  clear hgt hwt
  replace HP0 := Aside0.mk (Kd.S_drew HP0.out)
  replace HP1 := Aside0.mk (Kd.S_drew HP1.out)
  replace BKT := Aside0.mk (blk_drew BKT.out)
  replace BKR := Aside0.mk (blk_drew BKR.out)
  replace HB := Aside0.mk (below_drew1 HB.out)
  obtain ⟨oki, ce, hcl, hM, hcc, hoki, hback⟩ := Kd.S_borrow HP0.out ([] : List Int) a1 hs0 (by omega)
  obtain ⟨v2, rfl, hR2⟩ := hM
  rw [← HROW.out] at hR2
  obtain ⟨gi, c2', e2, hgib, hgil, cgi, hcgi⟩ := Kd.R_form hR2 (by rw [HRL.out]; decide)
  rw [HRL.out] at e2
  subst e2
  have he0 : wt.drew.cell? ⟨g0, a1.toNat, none⟩ = some (.slice (some ⟨gi, 0, none⟩) 64 c2') := by have h1 := hcc 0 _ rfl; rw [add_at, Nat.zero_add] at h1; rwa [show a1.toNat * (kB).sz + 0 = a1.toNat from by show a1.toNat * 1 + 0 = _; omega] at h1
  have hlc2 := (Kd.R_reads' hR2).2.1
  obtain ⟨cb, hcbl, hMb, hcbc, hfrb⟩ := Kd.R_elem hR2 (0 : Int) a2 (by omega) (by omega)
  have hMb' : cb = [Value.int .u8 (row.getD a2.toNat 0)] := hMb
  subst hMb'
  obtain ⟨y, hy⟩ : ∃ y, y = row.getD a2.toNat 0 := ⟨_, rfl⟩
  rw [← hy] at hcbc
  have HY := Aside0.mk hy
  clear hy hMb hcbl
  have hcw : wt.drew.cell? ⟨gi, a2.toNat, none⟩ = some (.int .u8 y) := by have := hcbc 0 _ rfl; rwa [show a2.toNat * (Kd.int .u8).sz + 0 = a2.toNat from by show a2.toNat * 1 + 0 = _; omega] at this
  have hfw : wt.drew.frozen? ⟨gi, a2.toNat, none⟩ = false := by have := hfrb 0; rwa [show a2.toNat * (Kd.int .u8).sz + 0 = a2.toNat from by show a2.toNat * 1 + 0 = _; omega] at this
  have HCBC := Aside0.mk hcbc
  have hgio := hR2.1 gi rfl
  have hgip := (hoki gi hgio).1
  have HR2 := Aside0.mk hR2
  have HBACK := Aside0.mk @hback
  clear hcl hcc hfrb hcbc hback hR2 hoki
  have hq2 := eq_true (show 0 ≤ a2 by omega)
  have hq3 := eq_true (show a2 < 64 by omega)
  have hq4 := eq_true hs0
  have hq5 := eq_true hs1
  refine start_ (n := 18) (S := fun w' => w'.cell? ⟨gt, 0, none⟩ = some (.slice (some ⟨g0, 0, none⟩) l0_0.length d0) ∧ w'.cell? ⟨g0, a1.toNat, none⟩ = some (.slice (some ⟨gi, 0, none⟩) 64 c2') ∧ w'.cell? ⟨gi, a2.toNat, none⟩ = some (.int .u8 y)) (ds := [17]) #[false, false, false, false, false, false, false, false, false, false, false, false, false, false, false, false, false, false] (by kernel_rfl) rfl rfl ⟨(blk_cell BKT.out 0).trans rfl, he0, hcw⟩ (fun hHeld => ?_)
  refine pure_ (i := 0) (N := some 32) (v := ?_) (a' := ?_) #[true, false, false, false, false, false, false, false, false, false, false, false, false, false, false, false, false, false] rfl rfl (by kernel_rfl) (fun _ _ _ h => h) (Or.inl ⟨by rfl, ?_⟩) ?_ ?_
  rotate_left
  · intro w'
    go_simp
    with_reducible rfl
  rotate_left
  · simp only [Act.put, List.setIfInBounds_toArray, List.set_cons_zero, List.set_cons_succ, i64_w, i32_w]
    rfl
  refine pure_ (i := 2) (N := some 34) (v := ?_) (a' := ?_) #[true, false, true, false, false, false, false, false, false, false, false, false, false, false, false, false, false, false] rfl rfl (by kernel_rfl) (fun _ _ _ h => h) (Or.inl ⟨by rfl, ?_⟩) ?_ ?_
  rotate_left
  · intro w'
    go_simp
    with_reducible rfl
  rotate_left
  · simp only [Act.put, List.setIfInBounds_toArray, List.set_cons_zero, List.set_cons_succ, i64_w, i32_w]
    rfl
  refine pure_ (i := 5) (N := some 37) (v := ?_) (a' := ?_) #[true, false, true, false, false, true, false, false, false, false, false, false, false, false, false, false, false, false] rfl rfl (by kernel_rfl) (fun _ _ _ h => h) (Or.inl ⟨by rfl, ?_⟩) ?_ ?_
  rotate_left
  · intro w'
    go_simp
    with_reducible rfl
  rotate_left
  · simp only [Act.put, List.setIfInBounds_toArray, List.set_cons_zero, List.set_cons_succ, i64_w, i32_w]
    rfl
  refine pure_ (i := 6) (N := some 38) (v := ?_) (a' := ?_) #[true, false, true, false, false, true, true, false, false, false, false, false, false, false, false, false, false, false] rfl rfl (by kernel_rfl) (fun _ _ _ h => h) (Or.inl ⟨by rfl, ?_⟩) ?_ ?_
  rotate_left
  · intro w'
    go_simp
    with_reducible rfl
  rotate_left
  · simp only [Act.put, List.setIfInBounds_toArray, List.set_cons_zero, List.set_cons_succ, i64_w, i32_w]
    rfl
  refine pure_ (i := 8) (N := some 40) (v := ?_) (a' := ?_) #[true, false, true, false, false, true, true, false, true, false, false, false, false, false, false, false, false, false] rfl rfl (by kernel_rfl) (fun _ _ _ h => h) (Or.inl ⟨by rfl, ?_⟩) ?_ ?_
  rotate_left
  · intro w'
    go_simp
    with_reducible rfl
  rotate_left
  · simp only [Act.put, List.setIfInBounds_toArray, List.set_cons_zero, List.set_cons_succ, i64_w, i32_w]
    rfl
  refine pure_ (i := 11) (N := some 43) (v := ?_) (a' := ?_) #[true, false, true, false, false, true, true, false, true, false, false, true, false, false, false, false, false, false] rfl rfl (by kernel_rfl) (fun _ _ _ h => h) (Or.inl ⟨by rfl, ?_⟩) ?_ ?_
  rotate_left
  · intro w'
    go_simp
    with_reducible rfl
  rotate_left
  · simp only [Act.put, List.setIfInBounds_toArray, List.set_cons_zero, List.set_cons_succ, i64_w, i32_w]
    rfl
  refine pure_ (i := 14) (N := some 46) (v := ?_) (a' := ?_) #[true, false, true, false, false, true, true, false, true, false, false, true, false, false, true, false, false, false] rfl rfl (by kernel_rfl) (fun _ _ _ h => h) (Or.inl ⟨by rfl, ?_⟩) ?_ ?_
  rotate_left
  · intro w'
    go_simp
    with_reducible rfl
  rotate_left
  · simp only [Act.put, List.setIfInBounds_toArray, List.set_cons_zero, List.set_cons_succ, i64_w, i32_w]
    rfl
  refine take_ (i := 1) (N := some 33) (v := ?_) (a' := ?_) #[true, true, true, false, false, true, true, false, true, false, false, true, false, false, true, false, false, false] rfl rfl (by kernel_rfl) (fun _ _ _ h => h) (Or.inl ⟨by rfl, ?_⟩) hHeld ?_ ?_
  rotate_left
  · rintro w' ⟨s0, s1, s2⟩
    go_simp
    with_reducible rfl
  rotate_left
  · simp only [Act.put, List.setIfInBounds_toArray, List.set_cons_zero, List.set_cons_succ, i64_w, i32_w]
    rfl
  refine pure_ (i := 3) (N := some 35) (v := ?_) (a' := ?_) #[true, true, true, true, false, true, true, false, true, false, false, true, false, false, true, false, false, false] rfl rfl (by kernel_rfl) (fun _ _ _ h => h) (Or.inl ⟨by rfl, ?_⟩) ?_ ?_
  rotate_left
  · intro w'
    go_simp
    with_reducible rfl
  rotate_left
  · simp only [Act.put, List.setIfInBounds_toArray, List.set_cons_zero, List.set_cons_succ, i64_w, i32_w]
    rfl
  refine take_ (i := 4) (N := some 36) (v := ?_) (a' := ?_) #[true, true, true, true, true, true, true, false, true, false, false, true, false, false, true, false, false, false] rfl rfl (by kernel_rfl) (fun _ _ _ h => h) (Or.inl ⟨by rfl, ?_⟩) hHeld ?_ ?_
  rotate_left
  · rintro w' ⟨s0, s1, s2⟩
    go_simp
    with_reducible rfl
  rotate_left
  · simp only [Act.put, List.setIfInBounds_toArray, List.set_cons_zero, List.set_cons_succ, i64_w, i32_w]
    rfl
  refine take_ (i := 7) (N := some 39) (v := ?_) (a' := ?_) #[true, true, true, true, true, true, true, true, true, false, false, true, false, false, true, false, false, false] rfl rfl (by kernel_rfl) (fun _ _ _ h => h) (Or.inl ⟨by rfl, ?_⟩) hHeld ?_ ?_
  rotate_left
  · rintro w' ⟨s0, s1, s2⟩
    go_simp
    with_reducible rfl
  rotate_left
  · simp only [Act.put, List.setIfInBounds_toArray, List.set_cons_zero, List.set_cons_succ, i64_w, i32_w]
    rfl
  refine pure_ (i := 9) (N := some 41) (v := ?_) (a' := ?_) #[true, true, true, true, true, true, true, true, true, true, false, true, false, false, true, false, false, false] rfl rfl (by kernel_rfl) (fun _ _ _ h => h) (Or.inl ⟨by rfl, ?_⟩) ?_ ?_
  rotate_left
  · intro w'
    go_simp
    with_reducible rfl
  rotate_left
  · simp only [Act.put, List.setIfInBounds_toArray, List.set_cons_zero, List.set_cons_succ, i64_w, i32_w]
    rfl
  refine take_ (i := 10) (N := some 42) (v := ?_) (a' := ?_) #[true, true, true, true, true, true, true, true, true, true, true, true, false, false, true, false, false, false] rfl rfl (by kernel_rfl) (fun _ _ _ h => h) (Or.inl ⟨by rfl, ?_⟩) hHeld ?_ ?_
  rotate_left
  · rintro w' ⟨s0, s1, s2⟩
    go_simp
    with_reducible rfl
  rotate_left
  · simp only [Act.put, List.setIfInBounds_toArray, List.set_cons_zero, List.set_cons_succ, i64_w, i32_w]
    rfl
  refine pure_ (i := 12) (N := some 44) (v := ?_) (a' := ?_) #[true, true, true, true, true, true, true, true, true, true, true, true, true, false, true, false, false, false] rfl rfl (by kernel_rfl) (fun _ _ _ h => h) (Or.inl ⟨by rfl, ?_⟩) ?_ ?_
  rotate_left
  · intro w'
    go_simp
    with_reducible rfl
  rotate_left
  · simp only [Act.put, List.setIfInBounds_toArray, List.set_cons_zero, List.set_cons_succ, i64_w, i32_w]
    rfl
  refine take_ (i := 13) (N := some 45) (v := ?_) (a' := ?_) #[true, true, true, true, true, true, true, true, true, true, true, true, true, true, true, false, false, false] rfl rfl (by kernel_rfl) (fun _ _ _ h => h) (Or.inl ⟨by rfl, ?_⟩) hHeld ?_ ?_
  rotate_left
  · rintro w' ⟨s0, s1, s2⟩
    go_simp
    with_reducible rfl
  rotate_left
  · simp only [Act.put, List.setIfInBounds_toArray, List.set_cons_zero, List.set_cons_succ, i64_w, i32_w]
    rfl
  refine pure_ (i := 15) (N := some 47) (v := ?_) (a' := ?_) #[true, true, true, true, true, true, true, true, true, true, true, true, true, true, true, true, false, false] rfl rfl (by kernel_rfl) (fun _ _ _ h => h) (Or.inl ⟨by rfl, ?_⟩) ?_ ?_
  rotate_left
  · intro w'
    go_simp
    with_reducible rfl
  rotate_left
  · simp only [Act.put, List.setIfInBounds_toArray, List.set_cons_zero, List.set_cons_succ, i64_w, i32_w]
    rfl
  refine pure_ (i := 16) (N := some 48) (v := ?_) (a' := ?_) #[true, true, true, true, true, true, true, true, true, true, true, true, true, true, true, true, true, false] rfl rfl (by kernel_rfl) (fun _ _ _ h => h) (Or.inl ⟨by rfl, ?_⟩) ?_ ?_
  rotate_left
  · intro w'
    go_simp
    with_reducible rfl
  rotate_left
  · simp only [Act.put, List.setIfInBounds_toArray, List.set_cons_zero, List.set_cons_succ, i64_w, i32_w]
    rfl
  refine last_ (i := 17) (N := none) #[true, true, true, true, true, true, true, true, true, true, true, true, true, true, true, true, true, true] rfl rfl (by kernel_rfl) (by decide) (fun K hK => ?_)
  refine skip_ (w1 := ?_) (by rfl) rfl ?_ ?_
  rotate_left
  · go_simp
    rfl
  refine hK.out _ _ ?_
  clear hK K
  refine done_ (by kernel_rfl) ?_
  obtain ⟨u, hu2⟩ : ∃ u, u = Go.bits .xor .u8 y a3 := ⟨_, rfl⟩
  rw [← hu2]
  obtain ⟨w7, hw7⟩ : ∃ w7, w7 = (wt.setCell ⟨gi, a2.toNat, none⟩ (.int .u8 u)).drew := ⟨_, rfl⟩
  have hd7 : wt.drew.setCell ⟨gi, a2.toNat, none⟩ (.int .u8 u) = w7 := by rw [hw7]; rfl
  obtain ⟨hs7, hg7⟩ := Kd.R_seg HR2.out a2 (by omega) (by omega) (c := [.int .u8 y]) rfl HCBC.out (seg := [.int .u8 u]) (j := 0) (by show 0 + 1 ≤ 1; decide) (x' := u) (okp := fun _ => False) rfl (fun _ h => h.elim)
  rw [show a2.toNat * (Kd.int .u8).sz + 0 = a2.toNat from by show a2.toNat * 1 + 0 = _; omega] at hs7 hg7
  have hsT : row.set a2.toNat u = turned (rd_L2 l0_0 a1) a2 a3 := by rw [hu2, HY.out, HROW.out]; rfl
  rw [hsT] at hs7
  have HP7 := HBACK.out hg7 (fun k hk => by cases hk; exact hgio) (⟨_, rfl, hs7⟩ : kB.M _ w.heap.size oki _ _)
  have HQ7 := Kd.S_grown HP1.out hg7 (fun k hk he => by cases he; exact hk hgip)
  have hn1 : gr ≠ gi := blk_ne BKR.out hcgi (by decide)
  have hn2 : gt ≠ gi := blk_ne BKT.out hcgi (by decide)
  have BKR7 := blk_far BKR.out (p := ⟨gi, a2.toNat, none⟩) hn1 (.int .u8 u)
  have BKT7 := blk_far BKT.out (p := ⟨gi, a2.toNat, none⟩) hn2 (.int .u8 u)
  have HB7 := HB.out.setCell (p := ⟨gi, a2.toNat, none⟩) hgib (.int .u8 u)
  replace HP7 := Aside0.mk (show Kd.S kB 50 w7 w.heap.size p (.slice (some ⟨g0, 0, none⟩) l0_0.length d0) (rotted l0_0 a1 a2 a3) from by rw [← hd7]; exact HP7)
  replace HQ7 := Aside0.mk (show Kd.S kP 55 w7 w.heap.size (fun k => ¬ p k) (.slice a1' l0_1.length d1) l0_1 from by rw [← hd7]; exact HQ7)
  rw [hd7] at BKR7 BKT7 HB7
  rw [← hw7]
  have hz0 : w7.cell? ⟨gt, 0, none⟩ = some (.slice (some ⟨g0, 0, none⟩) l0_0.length d0) := (blk_cell BKT7 0).trans rfl
  have hz1 : w7.cell? ⟨gt, 1, none⟩ = some (.slice a1' l0_1.length d1) := (blk_cell BKT7 1).trans rfl
  have hr0 : w7.cell? ⟨gr, 0, none⟩ = some (.slice none 0 0) := (blk_cell BKR7 0).trans rfl
  have hr1 : w7.cell? ⟨gr, 1, none⟩ = some (.slice none 0 0) := (blk_cell BKR7 1).trans rfl
  have hf0 := blk_frozen BKR7 0
  have hf1 := blk_frozen BKR7 1
  clear hd7 hw7 hs7 hg7 he0 hcw hfw hn1 hn2 hHeld
  go_wp2_with fail
  refine bodyPost_ret (results_ct rfl _ _ gr 42 #[.slice (some ⟨g0, 0, none⟩) l0_0.length d0, .slice a1' l0_1.length d1] (0, 0) _ rfl (put2 BKR7) Try.underlying42 rfl (by kernel_rfl)) rfl ?_
  exact ⟨_, _, rfl, Kd.S_mono (S_set2 HP7.out BKR7 (by decide) _ _) (fun _ _ => trivial), Kd.S_mono (S_set2 HQ7.out BKR7 (by decide) _ _) (fun _ _ => trivial), below2 HB7 GR.out _ _⟩
end Go.Proofs.Ytiiphlfgdkjjiaa.Q
