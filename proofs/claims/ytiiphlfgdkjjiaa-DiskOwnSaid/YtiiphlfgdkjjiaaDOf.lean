/- transeptlaw04.Of: a state for the program, what the sectors lead to apart from what the writes lead to; conditions: the state is no longer than a machine holds. -/
import Derived.Test.YtiiphlfgdkjjiaaDPlain
namespace Go.Proofs.Ytiiphlfgdkjjiaa.Q
open Go.RowKit Go.Proofs.YtiiphlfgdkjjiaaW.PrintWords Go.Proofs.YtiiphlfgdkjjiaaW.PrintLast Go.Proofs.YtiiphlfgdkjjiaaW.PrintMore
set_option linter.unusedVariables false
set_option linter.unusedSimpArgs false

theorem toWs_take (l1 : List Wp) (j : Nat) : (toWs l1).take j = toWs (l1.take j) := by simp [toWs, List.map_take]
theorem toWs_at2 {l1 : List Wp} {j : Nat} (h : j < (toWs l1).length) : (toWs l1)[j] = ⟨(l1[j]'(by rw [toWs_length] at h; exact h)).f0, (l1[j]'(by rw [toWs_length] at h; exact h)).f1⟩ := by simp [toWs, toW]
set_option maxHeartbeats 4000000 in
set_option maxRecDepth 100000 in
theorem of_any (A0 : Option Addr) (c0 : Nat) (l0 : List (List Int)) (A1 : Option Addr) (c1 : Nat) (l1 : List Wp) (w : World) (hr0 : Kd.C kB w A0 l0.length l0) (hc0 : l0.length ≤ c0) (hr1 : Kd.C kP w A1 l1.length l1) (hf0 : FitD l0) (hf1 : FitW l1) :
    Calls Try.prog 21 #[.agg #[.slice A0 l0.length c0, .slice A1 l1.length c1]] w fun e w' => ∃ v0 v1 : Value, e = .returned (.agg #[v0, v1]) ∧ (∃ p : Nat → Prop, Kd.S kB 50 w' w.heap.size p v0 l0 ∧ Kd.S kW 61 w' w.heap.size (fun k => ¬ p k) v1 (toWs l1)) ∧ Below w.heap.size w w' := by
  have HR0 := Aside0.mk hr0
  have HC0 := Aside0.mk hc0
  have HR1 := Aside0.mk hr1
  have HF0 := Aside0.mk hf0
  have HX1 := Aside0.mk hf1.2
  have hmb : l1.length < 4398046511104 := hf1.1
  have HCL := Aside0.mk (copyLists (k := l0.length + 1) hf0 (Nat.le_refl _))
  clear hr0 hc0 hr1 hf0 hf1
  obtain ⟨i, hi⟩ : ∃ i, i = l0.length := ⟨_, rfl⟩
  obtain ⟨m, hm⟩ : ∃ m, m = l1.length := ⟨_, rfl⟩
  have HN := Aside0.mk hi
  have HM := Aside0.mk hm
  rw [← hm] at hmb ⊢
  rw [← hi]
  clear hi hm
  have hu := Try.underlying42
  have huw := Try.underlying55
  have hu2 := Try.underlying28
  have huw2 := Try.underlying61
  go_enter Try.func21, Try.ntmps21
  go_wp2_with (first
    | ((with_reducible refine gate_dst (N := 1) rfl ?_); refine box_event ?hg (N := 1) ?hd (cs := #[.slice A0 i c0, .slice A1 m c1]) (t := 42) ?hr ?_; (case hd => rfl); (case hg => rfl); (case hr => first | (go_simp; done) | (go_simp; rfl)); intro gs hgs w1 hbox hb; have HB := Aside0.mk hb; have BKS := Aside0.mk hbox; clear hb hbox hgs)
    | ((with_reducible refine gate_dst (N := 2) rfl ?_); refine box_event ?hg (N := 2) ?hd (cs := #[.slice none 0 0, .slice none 0 0]) (t := 28) ?hr ?_; (case hd => rfl); (case hg => rfl); (case hr => first | (go_simp; done) | (go_simp; rfl)); intro gr hgr w2 hbox hb; have GR := Aside0.mk (by have := HB.out.size; omega : w.heap.size ≤ gr); have NSR := Aside0.mk (by have := blk_lt BKS.out; omega : gs ≠ gr); replace BKS := Aside0.mk (blk_below BKS.out hb); replace HB := Aside0.mk (below_step HB.out hb); have BKR := Aside0.mk hbox; clear hb hbox hgr; have hz0 := (blk_cell BKS.out 0).trans rfl))
  rw [HN.out]
  refine (transeptplain_CopyLists.calls (l0.length + 1) A0 c0 l0 l0 _ (Kd.C_below HR0.out HB.out) HC0.out HCL.out).mono ?_
  rintro e w3 ⟨v0, rfl, hs, hb⟩
  clear hz0
  obtain ⟨Au, cu, eu⟩ := Kd.S_slice hs
  subst eu
  rw [← HN.out] at hs ⊢
  replace BKS := Aside0.mk (blk_below BKS.out hb)
  replace BKR := Aside0.mk (blk_below BKR.out hb)
  obtain ⟨N, hNN⟩ : ∃ N, N = w3.heap.size := ⟨_, rfl⟩
  have HP0 := Aside0.mk (show Kd.S kB 50 w3 w.heap.size (fun k => k < N) (.slice Au i cu) l0 from Kd.S_lower (Kd.S_mono (Kd.S_bound hs) (fun k hk => by rw [hNN]; exact hk.2.2.1 : ∀ k, _ → k < N)) HB.out.size)
  replace HB := Aside0.mk (below_step HB.out hb)
  clear hb hs
  go_wp2_with fail
  obtain ⟨gt, hgt⟩ : ∃ gt, gt = w3.heap.size := ⟨_, rfl⟩
  obtain ⟨wt, hwt⟩ : ∃ wt, wt = w3.alloc (.cells #[.slice Au i cu, .slice none 0 0] 28) := ⟨_, rfl⟩
  have hbt : Below w3.heap.size w3 wt := by rw [hwt]; exact below_alloc (Below.refl _ _) _
  have BKT := Aside0.mk (show wt.heap[gt]? = some (.cells #[.slice Au i cu, .slice none 0 0] 28 (0, 0)) from by rw [hwt, hgt]; exact blk_new _ _)
  have GT := Aside0.mk (show w.heap.size ≤ gt from by have := HB.out.size; omega)
  have NRT := Aside0.mk (show gr ≠ gt from by have := blk_lt BKR.out; omega)
  have NST := Aside0.mk (show gs ≠ gt from by have := blk_lt BKS.out; omega)
  replace BKR := Aside0.mk (blk_below BKR.out hbt)
  replace BKS := Aside0.mk (blk_below BKS.out hbt)
  replace HP0 := Aside0.mk (Kd.S_below HP0.out hbt)
  replace HB := Aside0.mk (below_step HB.out hbt)
  have HLE := Aside0.mk (show N ≤ wt.heap.size from by rw [hNN]; exact hbt.size)
  rw [← hwt, ← hgt]
  clear hwt hgt hbt hNN
  go_loopw [4] (fun v wr => ∃ j : Nat, j ≤ m ∧ v = .int .i64 j ∧ ∃ Av cv, Hid (Kd.S kB 50 wr w.heap.size (fun k => k < N) (.slice Au i cu) l0) ∧ Hid (Kd.S kW 61 wr w.heap.size (fun k => ¬ k < N) (.slice Av j cv) ((toWs l1).take j)) ∧ Hid (wr.heap[gt]? = some (.cells #[.slice Au i cu, .slice Av j cv] 28 (0, 0))) ∧ Hid (wr.heap[gr]? = some (.cells #[.slice none 0 0, .slice none 0 0] 28 (0, 0))) ∧ Hid (wr.heap[gs]? = some (.cells #[.slice A0 i c0, .slice A1 m c1] 42 (0, 0))) ∧ Hid (Below w.heap.size w wr) ∧ N ≤ wr.heap.size) (fun v _ => m - (intOf v).toNat)
  case atStart => exact ⟨0, by omega, rfl, none, 0, HP0.out, Kd.S_nil _ _ _ _ _, BKT.out, BKR.out, BKS.out, HB.out, HLE.out⟩
  case round =>
    clear HP0 BKT BKR BKS HB HLE
    obtain ⟨j, hj, rfl, Av, cv, HP0, HS, BKT, BKR, BKS, HB, hle0⟩ := hrel
    have hz1 : wr.cell? ⟨gs, 1, none⟩ = some (.slice A1 m c1) := (blk_cell BKS 1).trans rfl
    by_cases hlt : j < m
    · have hlen : j < l1.length := by rw [← HM.out]; exact hlt
      obtain ⟨ad, Ae, ce, eA, hE0, hE, hEl, hEC⟩ := at_T55 HR1.out (j : Int) (by omega) (by omega)
      subst eA
      rw [Int.toNat_natCast] at hE0 hE
      rw [show rd_T55 l1 (j : Int) = l1[j] from by rw [rd_T55, Int.toNat_natCast, List.getD_eq_getElem?_getD, List.getElem?_eq_getElem hlen]; rfl] at hE0 hE hEl hEC
      have HE0 := Aside0.mk hE0
      have HE := Aside0.mk hE
      have HEC := Aside0.mk hEC
      have HEL := Aside0.mk hEl
      have hxk : l1[j].f1.length < 140737488355328 := HX1.out _ (List.getElem_mem hlen)
      clear hE0 hE hEl hEC
      go_wp2_with fail
      replace BKT := Aside0.mk (blk_drew BKT)
      replace BKR := Aside0.mk (blk_drew BKR)
      replace BKS := Aside0.mk (blk_drew BKS)
      replace HS := Aside0.mk (Kd.S_drew HS)
      replace HP0 := Aside0.mk (Kd.S_drew HP0)
      replace HB := Aside0.mk (below_drew1 HB)
      have HLEN := Aside0.mk hlen
      have HL0 := Aside0.mk (show N ≤ wr.drew.heap.size from hle0)
      clear hz1 hle0
      refine start_ (n := 20) (S := fun w' => w'.cell? ⟨gt, 1, none⟩ = some (.slice Av j cv) ∧ w'.cell? ⟨gs, 1, none⟩ = some (.slice (some ad) m c1) ∧ w'.cell? (ad.add (j * 2)) = some (.int .i64 l1[j].f0) ∧ w'.cell? ⟨(ad.add (j * 2)).block, (ad.add (j * 2)).off + 1, none⟩ = some (.slice Ae l1[j].f1.length ce)) (ds := [19]) #[false, false, false, false, false, false, false, false, false, false, false, false, false, false, false, false, false, false, false, false] (by kernel_rfl) rfl rfl ⟨(blk_cell BKT.out 1).trans rfl, (blk_cell BKS.out 1).trans rfl, (HB.out.cell (World.block_lt_of_cell? _ _ HE0.out)).trans HE0.out, (HB.out.cell (World.block_lt_of_cell? _ _ HE.out)).trans HE.out⟩ (fun hHeld => ?_)
      refine pure_ (i := 0) (N := some 16) (v := ?_) (a' := ?_) #[true, false, false, false, false, false, false, false, false, false, false, false, false, false, false, false, false, false, false, false] rfl rfl (by kernel_rfl) (fun _ _ _ h => h) (Or.inl ⟨by rfl, ?_⟩) ?_ ?_
      rotate_left
      · intro w'
        go_simp
        with_reducible rfl
      rotate_left
      · simp only [Act.put, List.setIfInBounds_toArray, List.set_cons_zero, List.set_cons_succ, i64_w, i32_w]
        rfl
      refine pure_ (i := 2) (N := some 18) (v := ?_) (a' := ?_) #[true, false, true, false, false, false, false, false, false, false, false, false, false, false, false, false, false, false, false, false] rfl rfl (by kernel_rfl) (fun _ _ _ h => h) (Or.inl ⟨by rfl, ?_⟩) ?_ ?_
      rotate_left
      · intro w'
        go_simp
        with_reducible rfl
      rotate_left
      · simp only [Act.put, List.setIfInBounds_toArray, List.set_cons_zero, List.set_cons_succ, i64_w, i32_w]
        rfl
      refine pure_ (i := 4) (N := some 20) (v := ?_) (a' := ?_) #[true, false, true, false, true, false, false, false, false, false, false, false, false, false, false, false, false, false, false, false] rfl rfl (by kernel_rfl) (fun _ _ _ h => h) (Or.inl ⟨by rfl, ?_⟩) ?_ ?_
      rotate_left
      · intro w'
        go_simp
        with_reducible rfl
      rotate_left
      · simp only [Act.put, List.setIfInBounds_toArray, List.set_cons_zero, List.set_cons_succ, i64_w, i32_w]
        rfl
      refine pure_ (i := 8) (N := some 24) (v := ?_) (a' := ?_) #[true, false, true, false, true, false, false, false, true, false, false, false, false, false, false, false, false, false, false, false] rfl rfl (by kernel_rfl) (fun _ _ _ h => h) (Or.inl ⟨by rfl, ?_⟩) ?_ ?_
      rotate_left
      · intro w'
        go_simp
        with_reducible rfl
      rotate_left
      · simp only [Act.put, List.setIfInBounds_toArray, List.set_cons_zero, List.set_cons_succ, i64_w, i32_w]
        rfl
      refine pure_ (i := 10) (N := some 26) (v := ?_) (a' := ?_) #[true, false, true, false, true, false, false, false, true, false, true, false, false, false, false, false, false, false, false, false] rfl rfl (by kernel_rfl) (fun _ _ _ h => h) (Or.inl ⟨by rfl, ?_⟩) ?_ ?_
      rotate_left
      · intro w'
        go_simp
        with_reducible rfl
      rotate_left
      · simp only [Act.put, List.setIfInBounds_toArray, List.set_cons_zero, List.set_cons_succ, i64_w, i32_w]
        rfl
      refine take_ (i := 1) (N := some 17) (v := ?_) (a' := ?_) #[true, true, true, false, true, false, false, false, true, false, true, false, false, false, false, false, false, false, false, false] rfl rfl (by kernel_rfl) (fun _ _ _ h => h) (Or.inl ⟨by rfl, ?_⟩) hHeld ?_ ?_
      rotate_left
      · rintro w' ⟨s0, s1, s2, s3⟩
        go_simp
        with_reducible rfl
      rotate_left
      · simp only [Act.put, List.setIfInBounds_toArray, List.set_cons_zero, List.set_cons_succ, i64_w, i32_w]
        rfl
      refine take_ (i := 3) (N := some 19) (v := ?_) (a' := ?_) #[true, true, true, true, true, false, false, false, true, false, true, false, false, false, false, false, false, false, false, false] rfl rfl (by kernel_rfl) (fun _ _ _ h => h) (Or.inl ⟨by rfl, ?_⟩) hHeld ?_ ?_
      rotate_left
      · rintro w' ⟨s0, s1, s2, s3⟩
        go_simp
        with_reducible rfl
      rotate_left
      · simp only [Act.put, List.setIfInBounds_toArray, List.set_cons_zero, List.set_cons_succ, i64_w, i32_w]
        rfl
      refine pure_ (i := 5) (N := some 21) (v := ?_) (a' := ?_) #[true, true, true, true, true, true, false, false, true, false, true, false, false, false, false, false, false, false, false, false] rfl rfl (by kernel_rfl) (fun _ _ _ h => h) (Or.inl ⟨by rfl, ?_⟩) ?_ ?_
      rotate_left
      · intro w'
        go_simp
        with_reducible rfl
      rotate_left
      · simp only [Act.put, List.setIfInBounds_toArray, List.set_cons_zero, List.set_cons_succ, i64_w, i32_w]
        rfl
      refine pure_ (i := 6) (N := some 22) (v := ?_) (a' := ?_) #[true, true, true, true, true, true, true, false, true, false, true, false, false, false, false, false, false, false, false, false] rfl rfl (by kernel_rfl) (fun _ _ _ h => h) (Or.inl ⟨by rfl, ?_⟩) ?_ ?_
      rotate_left
      · intro w'
        go_simp
        with_reducible rfl
      rotate_left
      · simp only [Act.put, List.setIfInBounds_toArray, List.set_cons_zero, List.set_cons_succ, i64_w, i32_w]
        rfl
      refine take_ (i := 7) (N := some 23) (v := ?_) (a' := ?_) #[true, true, true, true, true, true, true, true, true, false, true, false, false, false, false, false, false, false, false, false] rfl rfl (by kernel_rfl) (fun _ _ _ h => h) (Or.inl ⟨by rfl, ?_⟩) hHeld ?_ ?_
      rotate_left
      · rintro w' ⟨s0, s1, s2, s3⟩
        go_simp
        with_reducible rfl
      rotate_left
      · simp only [Act.put, List.setIfInBounds_toArray, List.set_cons_zero, List.set_cons_succ, i64_w, i32_w]
        rfl
      refine take_ (i := 9) (N := some 25) (v := ?_) (a' := ?_) #[true, true, true, true, true, true, true, true, true, true, true, false, false, false, false, false, false, false, false, false] rfl rfl (by kernel_rfl) (fun _ _ _ h => h) (Or.inl ⟨by rfl, ?_⟩) hHeld ?_ ?_
      rotate_left
      · rintro w' ⟨s0, s1, s2, s3⟩
        go_simp
        with_reducible rfl
      rotate_left
      · simp only [Act.put, List.setIfInBounds_toArray, List.set_cons_zero, List.set_cons_succ, i64_w, i32_w]
        rfl
      refine pure_ (i := 11) (N := some 27) (v := ?_) (a' := ?_) #[true, true, true, true, true, true, true, true, true, true, true, true, false, false, false, false, false, false, false, false] rfl rfl (by kernel_rfl) (fun _ _ _ h => h) (Or.inl ⟨by rfl, ?_⟩) ?_ ?_
      rotate_left
      · intro w'
        go_simp
        with_reducible rfl
      rotate_left
      · simp only [Act.put, List.setIfInBounds_toArray, List.set_cons_zero, List.set_cons_succ, i64_w, i32_w]
        rfl
      refine pure_ (i := 12) (N := some 28) (v := ?_) (a' := ?_) #[true, true, true, true, true, true, true, true, true, true, true, true, true, false, false, false, false, false, false, false] rfl rfl (by kernel_rfl) (fun _ _ _ h => h) (Or.inl ⟨by rfl, ?_⟩) ?_ ?_
      rotate_left
      · intro w'
        go_simp
        with_reducible rfl
      rotate_left
      · simp only [Act.put, List.setIfInBounds_toArray, List.set_cons_zero, List.set_cons_succ, i64_w, i32_w]
        rfl
      refine take_ (i := 13) (N := some 29) (v := ?_) (a' := ?_) #[true, true, true, true, true, true, true, true, true, true, true, true, true, true, false, false, false, false, false, false] rfl rfl (by kernel_rfl) (fun _ _ _ h => h) (Or.inl ⟨by rfl, ?_⟩) hHeld ?_ ?_
      rotate_left
      · rintro w' ⟨s0, s1, s2, s3⟩
        go_simp
        with_reducible rfl
      rotate_left
      · simp only [Act.put, List.setIfInBounds_toArray, List.set_cons_zero, List.set_cons_succ, i64_w, i32_w]
        rfl
      refine one_ (i := 14) (N := some 30) #[true, true, true, true, true, true, true, true, true, true, true, true, true, true, true, false, false, false, false, false] rfl rfl (by kernel_rfl) (by decide) (fun K hK => ?_)
      refine goes_ Try.func29 (by kernel_rfl) rfl #[.slice Ae l1[j].f1.length ce] (by rfl) rfl rfl (by (try simp only [List.map_toArray, List.map_cons, List.map_nil]); rfl) ?_
      refine (transeptplain_CopyBytes.calls Ae ce l1[j].f1 l1[j].f1 _ (Kd.C_below HEC.out HB.out) HEL.out (copyBytes hxk)).mono ?_
      rintro e w5 ⟨v5, rfl, ho, hb⟩
      refine ⟨_, rfl, ?_⟩
      obtain ⟨Ao, co, eo⟩ := Kd.R_slice ho
      subst eo
      have HO := Aside0.mk ho
      have hle := hb.size
      have HS5 := Aside0.mk (Kd.S_mono (Kd.S_old HS.out hb) (fun k hk => ⟨hk.1, fun e_ => by have h1 := Kd.R_base HO.out k e_.symm; have h2 := hk.2; omega⟩ : ∀ k, ¬ k < N ∧ k < wr.drew.heap.size → ¬ k < N ∧ ¬ some k = (Value.slice Ao l1[j].f1.length co).ownBlock))
      have HK := Aside0.mk (fun k hk => ⟨by have h1 := Kd.R_base HO.out k hk.symm; have := HL0.out; omega, fun e_ => by have h1 := Kd.R_base HO.out k hk.symm; have h2 := Kd.S_lt HS.out k e_.symm; omega⟩ : ∀ k, some k = (Value.slice Ao l1[j].f1.length co).ownBlock → ¬ k < N ∧ some k ≠ (Value.slice Av j cv).ownBlock)
      have hbs := HB.out.size
      have hfr := (fun k hk => by have := HL0.out; omega : ∀ k, w5.heap.size ≤ k → ¬ k < N)
      replace HP0 := Aside0.mk (Kd.S_below HP0.out hb)
      replace BKT := Aside0.mk (blk_below BKT.out hb)
      replace BKR := Aside0.mk (blk_below BKR.out hb)
      replace BKS := Aside0.mk (blk_below BKS.out hb)
      replace HB := Aside0.mk (below_step HB.out hb)
      replace HO := Aside0.mk (Kd.R_lower HO.out hbs)
      clear ho hb
      refine hK.out _ _ ⟨(blk_cell BKT.out 1).trans rfl, (blk_cell BKS.out 1).trans rfl, (HB.out.cell (World.block_lt_of_cell? _ _ HE0.out)).trans HE0.out, (HB.out.cell (World.block_lt_of_cell? _ _ HE.out)).trans HE.out⟩ (fun hHeld => ?_)
      clear hK K
      refine norm_ (a' := ?_) ?_ ?_
      rotate_left
      · show Act.put _ (some 30) _ = _
        simp only [Act.put, List.setIfInBounds_toArray, List.set_cons_zero, List.set_cons_succ, i64_w, i32_w]
        rfl
      refine pure_ (i := 15) (N := some 31) (v := ?_) (a' := ?_) #[true, true, true, true, true, true, true, true, true, true, true, true, true, true, true, true, false, false, false, false] rfl rfl (by kernel_rfl) (fun _ _ _ h => h) (Or.inl ⟨by rfl, ?_⟩) ?_ ?_
      rotate_left
      · intro w'
        go_simp
        with_reducible rfl
      rotate_left
      · simp only [Act.put, List.setIfInBounds_toArray, List.set_cons_zero, List.set_cons_succ, i64_w, i32_w]
        rfl
      refine one_ (i := 16) (N := some 32) #[true, true, true, true, true, true, true, true, true, true, true, true, true, true, true, true, true, false, false, false] rfl rfl (by kernel_rfl) (by decide) (fun K hK => ?_)
      refine value_ (w1 := ?_) (v := ?_) (by rfl) rfl ?_ ?_
      rotate_left 2
      · go_simp
        constructor
        · rfl
        · rfl
      refine hK.out _ _ ⟨(blk_cell (blk_alloc BKT.out _) 1).trans rfl, (blk_cell (blk_alloc BKS.out _) 1).trans rfl, ((below_alloc HB.out _).cell (World.block_lt_of_cell? _ _ HE0.out)).trans HE0.out, ((below_alloc HB.out _).cell (World.block_lt_of_cell? _ _ HE.out)).trans HE.out⟩ (fun hHeld => ?_)
      clear hK K
      refine norm_ (a' := ?_) ?_ ?_
      rotate_left
      · show Act.put _ (some 32) _ = _
        simp only [Act.put, List.setIfInBounds_toArray, List.set_cons_zero, List.set_cons_succ, i64_w, i32_w]
        rfl
      refine one_ (i := 17) (N := some 33) #[true, true, true, true, true, true, true, true, true, true, true, true, true, true, true, true, true, true, false, false] rfl rfl (by kernel_rfl) (by decide) (fun K hK => ?_)
      refine Kd.S_append_step kW (w0 := w) w.heap.size (by rfl) (.tmp 17) (.tmp 32) 26 61 (.agg #[(.int .i64 0), (.slice none 0 0)]) 32 rfl Try.underlying26 info61 rfl (by show 0 < 2; decide) (by omega) (.slice Av j cv) ((toWs l1).take j) (toW l1[j]) [.int .i64 l1[j].f0, .slice Ao l1[j].f1.length co] (fun k => ¬ k < N) (fun k_ => some k_ = (.slice Ao l1[j].f1.length co : Value).ownBlock) rfl rfl (k61_mkM _ _ _ (toW l1[j]) (Kd.R_mono (Kd.R_tight rfl HO.out) (fun _ h_ => h_))) HK.out hfr HS5.out HB.out HB.out.size (by rw [List.length_take, toWs_length]; have := HM.out; omega) ?_
      intro v6 w6 hs6 hb6 hg6 _
      rw [show toW l1[j] = (toWs l1)[j]'(by rw [toWs_length]; exact HLEN.out) from by rw [toWs_at2]; rfl, ← List.take_succ_eq_append_getElem (by rw [toWs_length]; exact HLEN.out)] at hs6
      replace HP0 := Aside0.mk (Kd.S_over' HP0.out (Kd.S_typed HS5.out) (by decide) hg6)
      replace BKT := Aside0.mk (blk_grown BKT.out hg6 (Kd.S_ne HS5.out BKT.out (by decide)))
      replace BKR := Aside0.mk (blk_grown BKR.out hg6 (Kd.S_ne HS5.out BKR.out (by decide)))
      replace BKS := Aside0.mk (blk_grown BKS.out hg6 (Kd.S_ne HS5.out BKS.out (by decide)))
      have hsz6 := hg6.size
      obtain ⟨A6, c6, e6⟩ := Kd.S_slice hs6
      rw [show ((toWs l1).take (j + 1)).length = j + 1 from by rw [List.length_take, toWs_length]; have := HM.out; omega] at e6
      subst e6
      have HS6 := Aside0.mk hs6
      replace HB := Aside0.mk hb6
      clear hs6 hb6 hg6
      refine hK.out _ _ ⟨(blk_cell BKT.out 1).trans rfl, (blk_cell BKS.out 1).trans rfl, (HB.out.cell (World.block_lt_of_cell? _ _ HE0.out)).trans HE0.out, (HB.out.cell (World.block_lt_of_cell? _ _ HE.out)).trans HE.out⟩ (fun hHeld => ?_)
      clear hK K
      refine norm_ (a' := ?_) ?_ ?_
      rotate_left
      · show Act.put _ (some 33) _ = _
        simp only [Act.put, List.setIfInBounds_toArray, List.set_cons_zero, List.set_cons_succ, i64_w, i32_w]
        rfl
      refine pure_ (i := 18) (N := some 34) (v := ?_) (a' := ?_) #[true, true, true, true, true, true, true, true, true, true, true, true, true, true, true, true, true, true, true, false] rfl rfl (by kernel_rfl) (fun _ _ _ h => h) (Or.inl ⟨by rfl, ?_⟩) ?_ ?_
      rotate_left
      · intro w'
        go_simp
        with_reducible rfl
      rotate_left
      · simp only [Act.put, List.setIfInBounds_toArray, List.set_cons_zero, List.set_cons_succ, i64_w, i32_w]
        rfl
      refine last_ (i := 19) (N := none) #[true, true, true, true, true, true, true, true, true, true, true, true, true, true, true, true, true, true, true, true] rfl rfl (by kernel_rfl) (by decide) (fun K hK => ?_)
      have hs7 : w6.cell? ⟨gt, 1, none⟩ = some (.slice Av j cv) := (blk_cell BKT.out 1).trans rfl
      have hf7 := blk_frozen BKT.out 1
      refine skip_ (w1 := ?_) (by rfl) rfl ?_ ?_
      rotate_left
      · go_simp
        rfl
      refine hK.out _ _ ?_
      clear hK K
      refine done_ (by kernel_rfl) ?_
      have HS7 := Lib.hid (Kd.S_set HS6.out BKT.out (by decide) 1 (.slice A6 (j + 1) c6))
      have HP7 := Lib.hid (Kd.S_set HP0.out BKT.out (by decide) 1 (.slice A6 (j + 1) c6))
      have BKT7 := Lib.hid (blk_put (cs' := #[.slice Au i cu, .slice A6 (j + 1) c6]) BKT.out 1 (.slice A6 (j + 1) c6) rfl)
      have BKR7 := Lib.hid (blk_far BKR.out (p := ⟨gt, 1, none⟩) NRT.out (.slice A6 (j + 1) c6))
      have BKS7 := Lib.hid (blk_far BKS.out (p := ⟨gt, 1, none⟩) NST.out (.slice A6 (j + 1) c6))
      have HB7 := Lib.hid (HB.out.setCell (p := ⟨gt, 1, none⟩) GT.out (.slice A6 (j + 1) c6))
      have hle7 : N ≤ (w6.setCell ⟨gt, 1, none⟩ (.slice A6 (j + 1) c6)).heap.size := by
        rw [show (w6.setCell ⟨gt, 1, none⟩ (.slice A6 (j + 1) c6)).heap.size = w6.heap.size from by simp [World.setCell]]
        have := HL0.out
        omega
      clear HS6 BKT BKR BKS HB HS HS5 HK HO HE HE0 HEC HEL HLEN HL0 HP0 hs7 hf7 hHeld hle hbs hfr hsz6
      go_wp2_with fail
      go_roundw
      case rel => exact ⟨j + 1, by omega, by go_num, A6, c6, HP7, HS7, BKT7, BKR7, BKS7, HB7, hle7⟩
      case measure => simp [intOf]; omega
    · obtain rfl : j = m := by omega
      have hS1 : Kd.S kW 61 wr w.heap.size (fun k => ¬ k < N) (.slice Av j cv) (toWs l1) := by
        have h_ : Kd.S kW 61 wr w.heap.size (fun k => ¬ k < N) (.slice Av j cv) ((toWs l1).take j) := HS
        rw [List.take_of_length_le (by rw [toWs_length, ← HM.out]; exact Nat.le_refl _)] at h_
        exact h_
      have HS1 := Aside0.mk hS1
      clear hS1
      have hy0 : wr.cell? ⟨gt, 0, none⟩ = some (.slice Au i cu) := (blk_cell BKT 0).trans rfl
      have hy1 : wr.cell? ⟨gt, 1, none⟩ = some (.slice Av j cv) := (blk_cell BKT 1).trans rfl
      have hr0 : wr.cell? ⟨gr, 0, none⟩ = some (.slice none 0 0) := (blk_cell BKR 0).trans rfl
      have hr1 : wr.cell? ⟨gr, 1, none⟩ = some (.slice none 0 0) := (blk_cell BKR 1).trans rfl
      have hg0 := blk_frozen BKR 0
      have hg1 := blk_frozen BKR 1
      replace BKR := Aside0.mk BKR
      replace HB := Aside0.mk HB
      replace HP0 := Aside0.mk HP0
      go_wp2_with fail
      refine bodyPost_ret (results_cell_row rfl _ _ gr 28 #[.slice Au i cu, .slice Av j cv] (0, 0) _ rfl (put2 BKR.out) Try.underlying28 rfl (by kernel_rfl)) rfl ?_
      exact ⟨_, _, rfl, ⟨fun k => k < N, S_set2 HP0.out BKR.out (by decide) _ _, S_set2 HS1.out BKR.out (by decide) _ _⟩, below2 HB.out GR.out _ _⟩
end Go.Proofs.Ytiiphlfgdkjjiaa.Q
