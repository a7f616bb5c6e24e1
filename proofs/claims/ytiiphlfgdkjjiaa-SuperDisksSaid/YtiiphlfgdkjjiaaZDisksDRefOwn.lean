/- The page's Own: the same state in memory of its own, what the sectors lead to apart from what the writes lead to; no condition but that the state isn't greater than a state may be. -/
import Derived.Test.YtiiphlfgdkjjiaaZDisksDPut
import Derived.Test.YtiiphlfgdkjjiaaZDisksQ22
namespace Go.Proofs.Ytiiphlfgdkjjiaa.Q
open Go.RowKit Go.Proofs.YtiiphlfgdkjjiaaW.PrintWords Go.Proofs.YtiiphlfgdkjjiaaW.PrintLast Go.Proofs.YtiiphlfgdkjjiaaW.PrintMore
set_option linter.unusedVariables false
set_option linter.unusedSimpArgs false

abbrev Wr := S61
abbrev Wp := S55
def toW (x : Wp) : Wr := ⟨x.f0, x.f1⟩
def toWs (xs : List Wp) : List Wr := xs.map toW
theorem toWs_length (xs : List Wp) : (toWs xs).length = xs.length := by simp [toWs]
theorem copied_some {l : List Int} (h : l.length < 140737488355328) : transeptref03_Copied.f l = some l := by
  unfold transeptref03_Copied.f
  rw [if_pos (by simpa using h)]
  rfl
abbrev kP : Kd S55 := k55
set_option maxHeartbeats 4000000 in
set_option maxRecDepth 100000 in
theorem rown_any (A0 : Option Addr) (c0 : Nat) (l0 : List (List Int)) (A1 : Option Addr) (c1 : Nat) (l1 : List S55) (w : World) (hr0 : Kd.C kB w A0 l0.length l0) (hr1 : Kd.C kP w A1 l1.length l1)
    (hl0 : l0.length ≤ 1024) (hl1 : l1.length ≤ 4096) (hx0 : ∀ x ∈ l0, x.length < 140737488355328) (hx1 : ∀ x ∈ l1, x.f1.length < 140737488355328) :
    Calls Try.prog 55 #[.agg #[.slice A0 l0.length c0, .slice A1 l1.length c1]] w fun e w' => ∃ v0 v1 : Value, e = .returned (.agg #[v0, v1]) ∧ (∃ p : Nat → Prop, Kd.S kB 50 w' w.heap.size p v0 l0 ∧ Kd.S kP 55 w' w.heap.size (fun k => ¬ p k) v1 l1) ∧ Below w.heap.size w w' := by
  have HR0 := Aside0.mk hr0
  have HR1 := Aside0.mk hr1
  have HX0 := Aside0.mk hx0
  have HX1 := Aside0.mk hx1
  clear hr0 hr1 hx0 hx1
  obtain ⟨n, hn⟩ : ∃ n, n = l0.length := ⟨_, rfl⟩
  obtain ⟨m, hm⟩ : ∃ m, m = l1.length := ⟨_, rfl⟩
  have HN := Aside0.mk hn
  have HM := Aside0.mk hm
  have hnb : n ≤ 1024 := by omega
  have hmb : m ≤ 4096 := by omega
  rw [← hn, ← hm]
  clear hn hm hl0 hl1
  have hu := Try.underlying42
  have huw := Try.underlying55
  go_enter Try.func55, Try.ntmps55
  go_wp2_with (first
    | ((with_reducible refine gate_dst (N := 1) rfl ?_); refine box_event ?hg (N := 1) ?hd (cs := #[.slice A0 n c0, .slice A1 m c1]) (t := 42) ?hr ?_; (case hd => rfl); (case hg => rfl); (case hr => first | (go_simp; done) | (go_simp; rfl)); intro gs hgs w1 hbox hb; have HB := Aside0.mk hb; have BKS := Aside0.mk hbox; clear hb hbox hgs)
    | ((with_reducible refine gate_dst (N := 2) rfl ?_); refine box_event ?hg (N := 2) ?hd (cs := #[.slice none 0 0, .slice none 0 0]) (t := 42) ?hr ?_; (case hd => rfl); (case hg => rfl); (case hr => first | (go_simp; done) | (go_simp; rfl)); intro gr hgr w2 hbox hb; have GR := Aside0.mk (by have := HB.out.size; omega : w.heap.size ≤ gr); have NSR := Aside0.mk (by have := blk_lt BKS.out; omega : gs ≠ gr); replace BKS := Aside0.mk (blk_below BKS.out hb); replace HB := Aside0.mk (below_step HB.out hb); have BKR := Aside0.mk hbox; clear hb hbox hgr)
    | ((with_reducible refine gate_dst (N := 3) rfl ?_); refine box_event ?hg (N := 3) ?hd (cs := #[.slice none 0 0, .slice none 0 0]) (t := 42) ?hr ?_; (case hd => rfl); (case hg => rfl); (case hr => first | (go_simp; done) | (go_simp; rfl)); intro gt hgt w3 hbox hb; have GT := Aside0.mk (by have := HB.out.size; omega : w.heap.size ≤ gt); have NST := Aside0.mk (by have := blk_lt BKS.out; omega : gs ≠ gt); have NRT := Aside0.mk (by have := blk_lt BKR.out; omega : gr ≠ gt); replace BKS := Aside0.mk (blk_below BKS.out hb); replace BKR := Aside0.mk (blk_below BKR.out hb); replace HB := Aside0.mk (below_step HB.out hb); have BKT := Aside0.mk hbox; clear hb hbox hgt))
  go_loopw [4] (fun v wr => ∃ i : Nat, i ≤ n ∧ v = .int .i64 i ∧ ∃ Au cu, Hid (Kd.S kB 50 wr w.heap.size (fun _ => True) (.slice Au i cu) (l0.take i)) ∧ Hid (wr.heap[gt]? = some (.cells #[.slice Au i cu, .slice none 0 0] 42 (0, 0))) ∧ Hid (wr.heap[gr]? = some (.cells #[.slice none 0 0, .slice none 0 0] 42 (0, 0))) ∧ Hid (wr.heap[gs]? = some (.cells #[.slice A0 n c0, .slice A1 m c1] 42 (0, 0))) ∧ Hid (Below w.heap.size w wr)) (fun v _ => n - (intOf v).toNat)
  case atStart => exact ⟨0, by omega, rfl, none, 0, Kd.S_nil _ _ _ _ _, BKT.out, BKR.out, BKS.out, HB.out⟩
  case round =>
    clear BKT BKR BKS HB
    obtain ⟨i, hi, rfl, Au, cu, HS, BKT, BKR, BKS, HB⟩ := hrel
    have hz0 : wr.cell? ⟨gs, 0, none⟩ = some (.slice A0 n c0) := (blk_cell BKS 0).trans rfl
    by_cases hlt : i < n
    · have hlen : i < l0.length := by rw [← HN.out]; exact hlt
      obtain ⟨ad, Ae, ce, eA, hE, hEl, hEC⟩ := at_L4 HR0.out (i : Int) (by omega) (by omega)
      subst eA
      rw [Int.toNat_natCast] at hE
      rw [show rd_L4 l0 (i : Int) = l0[i] from by rw [rd_L4, Int.toNat_natCast, List.getD_eq_getElem?_getD, List.getElem?_eq_getElem hlen]; rfl] at hE hEl hEC
      have hE2 : wr.cell? (ad.add i) = some (.slice Ae l0[i].length ce) := (HB.cell (World.block_lt_of_cell? _ _ hE)).trans hE
      have HE := Aside0.mk hE
      have HEC := Aside0.mk hEC
      have HEL := Aside0.mk hEl
      have hxk : l0[i].length < 140737488355328 := HX0.out _ (List.getElem_mem hlen)
      clear hE hEl hEC
      go_wp2_with fail
      replace BKT := Aside0.mk (blk_drew BKT)
      replace BKR := Aside0.mk (blk_drew BKR)
      replace BKS := Aside0.mk (blk_drew BKS)
      replace HS := Aside0.mk (Kd.S_drew HS)
      replace HB := Aside0.mk (below_drew1 HB)
      have HLEN := Aside0.mk hlen
      clear hz0 hE2
      refine start_ (n := 12) (S := fun w' => w'.cell? ⟨gt, 0, none⟩ = some (.slice Au i cu) ∧ w'.cell? ⟨gs, 0, none⟩ = some (.slice (some ad) n c0) ∧ w'.cell? (ad.add i) = some (.slice Ae l0[i].length ce)) (ds := [11]) #[false, false, false, false, false, false, false, false, false, false, false, false] (by kernel_rfl) rfl rfl ⟨(blk_cell BKT.out 0).trans rfl, (blk_cell BKS.out 0).trans rfl, (HB.out.cell (World.block_lt_of_cell? _ _ HE.out)).trans HE.out⟩ (fun hHeld => ?_)
      refine pure_ (i := 0) (N := some 13) (v := ?_) (a' := ?_) #[true, false, false, false, false, false, false, false, false, false, false, false] rfl rfl (by kernel_rfl) (fun _ _ _ h => h) (Or.inl ⟨by rfl, ?_⟩) ?_ ?_
      rotate_left
      · intro w'
        go_simp
        with_reducible rfl
      rotate_left
      · simp only [Act.put, List.setIfInBounds_toArray, List.set_cons_zero, List.set_cons_succ, i64_w, i32_w]
        rfl
      refine pure_ (i := 2) (N := some 15) (v := ?_) (a' := ?_) #[true, false, true, false, false, false, false, false, false, false, false, false] rfl rfl (by kernel_rfl) (fun _ _ _ h => h) (Or.inl ⟨by rfl, ?_⟩) ?_ ?_
      rotate_left
      · intro w'
        go_simp
        with_reducible rfl
      rotate_left
      · simp only [Act.put, List.setIfInBounds_toArray, List.set_cons_zero, List.set_cons_succ, i64_w, i32_w]
        rfl
      refine pure_ (i := 4) (N := some 17) (v := ?_) (a' := ?_) #[true, false, true, false, true, false, false, false, false, false, false, false] rfl rfl (by kernel_rfl) (fun _ _ _ h => h) (Or.inl ⟨by rfl, ?_⟩) ?_ ?_
      rotate_left
      · intro w'
        go_simp
        with_reducible rfl
      rotate_left
      · simp only [Act.put, List.setIfInBounds_toArray, List.set_cons_zero, List.set_cons_succ, i64_w, i32_w]
        rfl
      refine take_ (i := 1) (N := some 14) (v := ?_) (a' := ?_) #[true, true, true, false, true, false, false, false, false, false, false, false] rfl rfl (by kernel_rfl) (fun _ _ _ h => h) (Or.inl ⟨by rfl, ?_⟩) hHeld ?_ ?_
      rotate_left
      · rintro w' ⟨s0, s1, s2⟩
        go_simp
        with_reducible rfl
      rotate_left
      · simp only [Act.put, List.setIfInBounds_toArray, List.set_cons_zero, List.set_cons_succ, i64_w, i32_w]
        rfl
      refine take_ (i := 3) (N := some 16) (v := ?_) (a' := ?_) #[true, true, true, true, true, false, false, false, false, false, false, false] rfl rfl (by kernel_rfl) (fun _ _ _ h => h) (Or.inl ⟨by rfl, ?_⟩) hHeld ?_ ?_
      rotate_left
      · rintro w' ⟨s0, s1, s2⟩
        go_simp
        with_reducible rfl
      rotate_left
      · simp only [Act.put, List.setIfInBounds_toArray, List.set_cons_zero, List.set_cons_succ, i64_w, i32_w]
        rfl
      refine pure_ (i := 5) (N := some 18) (v := ?_) (a' := ?_) #[true, true, true, true, true, true, false, false, false, false, false, false] rfl rfl (by kernel_rfl) (fun _ _ _ h => h) (Or.inl ⟨by rfl, ?_⟩) ?_ ?_
      rotate_left
      · intro w'
        go_simp
        with_reducible rfl
      rotate_left
      · simp only [Act.put, List.setIfInBounds_toArray, List.set_cons_zero, List.set_cons_succ, i64_w, i32_w]
        rfl
      refine take_ (i := 6) (N := some 19) (v := ?_) (a' := ?_) #[true, true, true, true, true, true, true, false, false, false, false, false] rfl rfl (by kernel_rfl) (fun _ _ _ h => h) (Or.inl ⟨by rfl, ?_⟩) hHeld ?_ ?_
      rotate_left
      · rintro w' ⟨s0, s1, s2⟩
        go_simp
        with_reducible rfl
      rotate_left
      · simp only [Act.put, List.setIfInBounds_toArray, List.set_cons_zero, List.set_cons_succ, i64_w, i32_w]
        rfl
      refine one_ (i := 7) (N := some 20) #[true, true, true, true, true, true, true, true, false, false, false, false] rfl rfl (by kernel_rfl) (by decide) (fun K hK => ?_)
      refine goes_ Try.func67 (by kernel_rfl) rfl #[.slice Ae l0[i].length ce] (by rfl) rfl rfl (by (try simp only [List.map_toArray, List.map_cons, List.map_nil]); rfl) ?_
      refine (transeptref03_Copied.calls Ae ce l0[i] l0[i] _ (Kd.C_below HEC.out HB.out) HEL.out (copied_some hxk)).mono ?_
      rintro e w5 ⟨v5, rfl, ho, hb⟩
      refine ⟨_, rfl, ?_⟩
      obtain ⟨Ao, co, eo⟩ := Kd.R_slice ho
      subst eo
      have HO := Aside0.mk ho
      have hle := hb.size
      have HS5 := Aside0.mk (Kd.S_mono (Kd.S_old HS.out hb) (fun k hk => ⟨trivial, fun e_ => by have h1 := Kd.R_base HO.out k e_.symm; have h2 := hk.2; omega⟩ : ∀ k, True ∧ k < wr.drew.heap.size → True ∧ ¬ some k = (Value.slice Ao l0[i].length co).ownBlock))
      have HK := Aside0.mk (fun k hk => ⟨trivial, fun e_ => by have h1 := Kd.R_base HO.out k hk.symm; have h2 := Kd.S_lt HS.out k e_.symm; omega⟩ : ∀ k, some k = (Value.slice Ao l0[i].length co).ownBlock → True ∧ some k ≠ (Value.slice Au i cu).ownBlock)
      have hbs := HB.out.size
      replace BKT := Aside0.mk (blk_below BKT.out hb)
      replace BKR := Aside0.mk (blk_below BKR.out hb)
      replace BKS := Aside0.mk (blk_below BKS.out hb)
      replace HB := Aside0.mk (below_step HB.out hb)
      replace HO := Aside0.mk (Kd.R_lower HO.out hbs)
      clear ho hb
      refine hK.out _ _ ⟨(blk_cell BKT.out 0).trans rfl, (blk_cell BKS.out 0).trans rfl, (HB.out.cell (World.block_lt_of_cell? _ _ HE.out)).trans HE.out⟩ (fun hHeld => ?_)
      clear hK K
      refine norm_ (a' := ?_) ?_ ?_
      rotate_left
      · show Act.put _ (some 20) _ = _
        simp only [Act.put, List.setIfInBounds_toArray, List.set_cons_zero, List.set_cons_succ, i64_w, i32_w]
        rfl
      refine one_ (i := 8) (N := some 21) #[true, true, true, true, true, true, true, true, true, false, false, false] rfl rfl (by kernel_rfl) (by decide) (fun K hK => ?_)
      refine value_ (w1 := ?_) (v := ?_) (by rfl) rfl ?_ ?_
      rotate_left 2
      · go_simp
        constructor
        · rfl
        · rfl
      refine hK.out _ _ ⟨(blk_cell (blk_alloc BKT.out _) 0).trans rfl, (blk_cell (blk_alloc BKS.out _) 0).trans rfl, ((below_alloc HB.out _).cell (World.block_lt_of_cell? _ _ HE.out)).trans HE.out⟩ (fun hHeld => ?_)
      clear hK K
      refine norm_ (a' := ?_) ?_ ?_
      rotate_left
      · show Act.put _ (some 21) _ = _
        simp only [Act.put, List.setIfInBounds_toArray, List.set_cons_zero, List.set_cons_succ, i64_w, i32_w]
        rfl
      refine one_ (i := 9) (N := some 22) #[true, true, true, true, true, true, true, true, true, true, false, false] rfl rfl (by kernel_rfl) (by decide) (fun K hK => ?_)
      refine Kd.S_append_step kB (w0 := w) w.heap.size (by rfl) (.tmp 14) (.tmp 21) 25 50 (.slice none 0 0) 24 rfl Try.underlying25 info50 rfl (by show 0 < 1; decide) (by omega) (.slice Au i cu) (l0.take i) l0[i] [.slice Ao l0[i].length co] (fun _ => True) (fun k_ => some k_ = (.slice Ao l0[i].length co : Value).ownBlock) rfl rfl ⟨_, rfl, Kd.R_mono (Kd.R_tight rfl HO.out) (fun _ h_ => h_)⟩ HK.out (fun _ _ => trivial) HS5.out HB.out HB.out.size (by rw [List.length_take]; omega) ?_
      intro v6 w6 hs6 hb6 hg6 _
      rw [← List.take_succ_eq_append_getElem HLEN.out] at hs6
      replace BKT := Aside0.mk (blk_grown BKT.out hg6 (Kd.S_ne HS5.out BKT.out (by decide)))
      replace BKR := Aside0.mk (blk_grown BKR.out hg6 (Kd.S_ne HS5.out BKR.out (by decide)))
      replace BKS := Aside0.mk (blk_grown BKS.out hg6 (Kd.S_ne HS5.out BKS.out (by decide)))
      obtain ⟨A6, c6, e6⟩ := Kd.S_slice hs6
      rw [show (l0.take (i + 1)).length = i + 1 from by rw [List.length_take]; omega] at e6
      subst e6
      have HS6 := Aside0.mk hs6
      replace HB := Aside0.mk hb6
      clear hs6 hb6 hg6
      refine hK.out _ _ ⟨(blk_cell BKT.out 0).trans rfl, (blk_cell BKS.out 0).trans rfl, (HB.out.cell (World.block_lt_of_cell? _ _ HE.out)).trans HE.out⟩ (fun hHeld => ?_)
      clear hK K
      refine norm_ (a' := ?_) ?_ ?_
      rotate_left
      · show Act.put _ (some 22) _ = _
        simp only [Act.put, List.setIfInBounds_toArray, List.set_cons_zero, List.set_cons_succ, i64_w, i32_w]
        rfl
      refine pure_ (i := 10) (N := some 23) (v := ?_) (a' := ?_) #[true, true, true, true, true, true, true, true, true, true, true, false] rfl rfl (by kernel_rfl) (fun _ _ _ h => h) (Or.inl ⟨by rfl, ?_⟩) ?_ ?_
      rotate_left
      · intro w'
        go_simp
        with_reducible rfl
      rotate_left
      · simp only [Act.put, List.setIfInBounds_toArray, List.set_cons_zero, List.set_cons_succ, i64_w, i32_w]
        rfl
      refine last_ (i := 11) (N := none) #[true, true, true, true, true, true, true, true, true, true, true, true] rfl rfl (by kernel_rfl) (by decide) (fun K hK => ?_)
      have hs7 : w6.cell? ⟨gt, 0, none⟩ = some (.slice Au i cu) := (blk_cell BKT.out 0).trans rfl
      have hf7 := blk_frozen BKT.out 0
      refine skip_ (w1 := ?_) (by rfl) rfl ?_ ?_
      rotate_left
      · go_simp
        rfl
      refine hK.out _ _ ?_
      clear hK K
      refine done_ (by kernel_rfl) ?_
      have HS7 := Lib.hid (Kd.S_set HS6.out BKT.out (by decide) 0 (.slice A6 (i + 1) c6))
      have BKT7 := Lib.hid (blk_put (cs' := #[.slice A6 (i + 1) c6, .slice none 0 0]) BKT.out 0 (.slice A6 (i + 1) c6) rfl)
      have BKR7 := Lib.hid (blk_far BKR.out (p := ⟨gt, 0, none⟩) NRT.out (.slice A6 (i + 1) c6))
      have BKS7 := Lib.hid (blk_far BKS.out (p := ⟨gt, 0, none⟩) NST.out (.slice A6 (i + 1) c6))
      have HB7 := Lib.hid (HB.out.setCell (p := ⟨gt, 0, none⟩) GT.out (.slice A6 (i + 1) c6))
      clear HS6 BKT BKR BKS HB HS HS5 HK HO HE HEC HEL HLEN hs7 hf7 hHeld hle hbs
      go_wp2_with fail
      go_roundw
      case rel => exact ⟨i + 1, by omega, by go_num, A6, c6, HS7, BKT7, BKR7, BKS7, HB7⟩
      case measure => simp [intOf]; omega
    · obtain rfl : i = n := by omega
      have hz1 : wr.cell? ⟨gs, 1, none⟩ = some (.slice A1 m c1) := (blk_cell BKS 1).trans rfl
      obtain ⟨N, hNN⟩ : ∃ N, N = wr.heap.size := ⟨_, rfl⟩
      have hS0 : Kd.S kB 50 wr w.heap.size (fun k => k < N) (.slice Au i cu) l0 := by
        have h_ := Kd.S_mono (Kd.S_bound HS) (fun k hk => by rw [hNN]; exact hk.2.2.1 : ∀ k, _ → k < N)
        rw [List.take_of_length_le (by rw [← HN.out]; exact Nat.le_refl _)] at h_
        exact h_
      have HP0 := Aside0.mk hS0
      have HLE := Aside0.mk (Nat.le_of_eq hNN)
      clear hS0 hNN HS hlt hi
      replace BKT := Aside0.mk BKT
      replace BKR := Aside0.mk BKR
      replace BKS := Aside0.mk BKS
      replace HB := Aside0.mk HB
      go_wp2_with fail
      go_loopw [5] (fun v wr => ∃ j : Nat, j ≤ m ∧ v = .int .i64 j ∧ ∃ Av cv, Hid (Kd.S kB 50 wr w.heap.size (fun k => k < N) (.slice Au i cu) l0) ∧ Hid (Kd.S kP 55 wr w.heap.size (fun k => ¬ k < N) (.slice Av j cv) (l1.take j)) ∧ Hid (wr.heap[gt]? = some (.cells #[.slice Au i cu, .slice Av j cv] 42 (0, 0))) ∧ Hid (wr.heap[gr]? = some (.cells #[.slice none 0 0, .slice none 0 0] 42 (0, 0))) ∧ Hid (wr.heap[gs]? = some (.cells #[.slice A0 i c0, .slice A1 m c1] 42 (0, 0))) ∧ Hid (Below w.heap.size w wr) ∧ N ≤ wr.heap.size) (fun v _ => m - (intOf v).toNat)
      case atStart => exact ⟨0, by omega, rfl, none, 0, HP0.out, Kd.S_nil _ _ _ _ _, BKT.out, BKR.out, BKS.out, HB.out, HLE.out⟩
      case round =>
        clear HP0 BKT BKR BKS HB HLE hz1
        obtain ⟨j, hj, rfl, Av, cv, HP0, HS, BKT, BKR, BKS, HB, hle0⟩ := hrel
        have hz1 : wr.cell? ⟨gs, 1, none⟩ = some (.slice A1 m c1) := (blk_cell BKS 1).trans rfl
        by_cases hlt : j < m
        · have hlen : j < l1.length := by rw [← HM.out]; exact hlt
          obtain ⟨ad, Ae, ce, eA, hE0, hE, hEl, hEC⟩ := at_T55 HR1.out (j : Int) (by omega) (by omega)
          subst eA
          rw [Int.toNat_natCast] at hE0 hE
          rw [show rd_T55 l1 (j : Int) = l1[j] from by rw [rd_T55, Int.toNat_natCast, List.getD_eq_getElem?_getD, List.getElem?_eq_getElem hlen]; rfl] at hE0 hE hEl hEC
          have HE0 := Aside0.mk hE0
          have HE := Aside0.mk hE
          have HEC := Aside0.mk hEC
          have HEL := Aside0.mk hEl
          have hxk : l1[j].f1.length < 140737488355328 := HX1.out _ (List.getElem_mem hlen)
          clear hE0 hE hEl hEC
          go_wp2_with fail
          replace BKT := Aside0.mk (blk_drew BKT)
          replace BKR := Aside0.mk (blk_drew BKR)
          replace BKS := Aside0.mk (blk_drew BKS)
          replace HS := Aside0.mk (Kd.S_drew HS)
          replace HP0 := Aside0.mk (Kd.S_drew HP0)
          replace HB := Aside0.mk (below_drew1 HB)
          have HLEN := Aside0.mk hlen
          have HL0 := Aside0.mk (show N ≤ wr.drew.heap.size from hle0)
          clear hz1 hle0
          refine start_ (n := 20) (S := fun w' => w'.cell? ⟨gt, 1, none⟩ = some (.slice Av j cv) ∧ w'.cell? ⟨gs, 1, none⟩ = some (.slice (some ad) m c1) ∧ w'.cell? (ad.add (j * 2)) = some (.int .i64 l1[j].f0) ∧ w'.cell? ⟨(ad.add (j * 2)).block, (ad.add (j * 2)).off + 1, none⟩ = some (.slice Ae l1[j].f1.length ce)) (ds := [19]) #[false, false, false, false, false, false, false, false, false, false, false, false, false, false, false, false, false, false, false, false] (by kernel_rfl) rfl rfl ⟨(blk_cell BKT.out 1).trans rfl, (blk_cell BKS.out 1).trans rfl, (HB.out.cell (World.block_lt_of_cell? _ _ HE0.out)).trans HE0.out, (HB.out.cell (World.block_lt_of_cell? _ _ HE.out)).trans HE.out⟩ (fun hHeld => ?_)
          refine pure_ (i := 0) (N := some 31) (v := ?_) (a' := ?_) #[true, false, false, false, false, false, false, false, false, false, false, false, false, false, false, false, false, false, false, false] rfl rfl (by kernel_rfl) (fun _ _ _ h => h) (Or.inl ⟨by rfl, ?_⟩) ?_ ?_
          rotate_left
          · intro w'
            go_simp
            with_reducible rfl
          rotate_left
          · simp only [Act.put, List.setIfInBounds_toArray, List.set_cons_zero, List.set_cons_succ, i64_w, i32_w]
            rfl
          refine pure_ (i := 2) (N := some 33) (v := ?_) (a' := ?_) #[true, false, true, false, false, false, false, false, false, false, false, false, false, false, false, false, false, false, false, false] rfl rfl (by kernel_rfl) (fun _ _ _ h => h) (Or.inl ⟨by rfl, ?_⟩) ?_ ?_
          rotate_left
          · intro w'
            go_simp
            with_reducible rfl
          rotate_left
          · simp only [Act.put, List.setIfInBounds_toArray, List.set_cons_zero, List.set_cons_succ, i64_w, i32_w]
            rfl
          refine pure_ (i := 4) (N := some 35) (v := ?_) (a' := ?_) #[true, false, true, false, true, false, false, false, false, false, false, false, false, false, false, false, false, false, false, false] rfl rfl (by kernel_rfl) (fun _ _ _ h => h) (Or.inl ⟨by rfl, ?_⟩) ?_ ?_
          rotate_left
          · intro w'
            go_simp
            with_reducible rfl
          rotate_left
          · simp only [Act.put, List.setIfInBounds_toArray, List.set_cons_zero, List.set_cons_succ, i64_w, i32_w]
            rfl
          refine pure_ (i := 8) (N := some 39) (v := ?_) (a' := ?_) #[true, false, true, false, true, false, false, false, true, false, false, false, false, false, false, false, false, false, false, false] rfl rfl (by kernel_rfl) (fun _ _ _ h => h) (Or.inl ⟨by rfl, ?_⟩) ?_ ?_
          rotate_left
          · intro w'
            go_simp
            with_reducible rfl
          rotate_left
          · simp only [Act.put, List.setIfInBounds_toArray, List.set_cons_zero, List.set_cons_succ, i64_w, i32_w]
            rfl
          refine pure_ (i := 10) (N := some 41) (v := ?_) (a' := ?_) #[true, false, true, false, true, false, false, false, true, false, true, false, false, false, false, false, false, false, false, false] rfl rfl (by kernel_rfl) (fun _ _ _ h => h) (Or.inl ⟨by rfl, ?_⟩) ?_ ?_
          rotate_left
          · intro w'
            go_simp
            with_reducible rfl
          rotate_left
          · simp only [Act.put, List.setIfInBounds_toArray, List.set_cons_zero, List.set_cons_succ, i64_w, i32_w]
            rfl
          refine take_ (i := 1) (N := some 32) (v := ?_) (a' := ?_) #[true, true, true, false, true, false, false, false, true, false, true, false, false, false, false, false, false, false, false, false] rfl rfl (by kernel_rfl) (fun _ _ _ h => h) (Or.inl ⟨by rfl, ?_⟩) hHeld ?_ ?_
          rotate_left
          · rintro w' ⟨s0, s1, s2, s3⟩
            go_simp
            with_reducible rfl
          rotate_left
          · simp only [Act.put, List.setIfInBounds_toArray, List.set_cons_zero, List.set_cons_succ, i64_w, i32_w]
            rfl
          refine take_ (i := 3) (N := some 34) (v := ?_) (a' := ?_) #[true, true, true, true, true, false, false, false, true, false, true, false, false, false, false, false, false, false, false, false] rfl rfl (by kernel_rfl) (fun _ _ _ h => h) (Or.inl ⟨by rfl, ?_⟩) hHeld ?_ ?_
          rotate_left
          · rintro w' ⟨s0, s1, s2, s3⟩
            go_simp
            with_reducible rfl
          rotate_left
          · simp only [Act.put, List.setIfInBounds_toArray, List.set_cons_zero, List.set_cons_succ, i64_w, i32_w]
            rfl
          refine pure_ (i := 5) (N := some 36) (v := ?_) (a' := ?_) #[true, true, true, true, true, true, false, false, true, false, true, false, false, false, false, false, false, false, false, false] rfl rfl (by kernel_rfl) (fun _ _ _ h => h) (Or.inl ⟨by rfl, ?_⟩) ?_ ?_
          rotate_left
          · intro w'
            go_simp
            with_reducible rfl
          rotate_left
          · simp only [Act.put, List.setIfInBounds_toArray, List.set_cons_zero, List.set_cons_succ, i64_w, i32_w]
            rfl
          refine pure_ (i := 6) (N := some 37) (v := ?_) (a' := ?_) #[true, true, true, true, true, true, true, false, true, false, true, false, false, false, false, false, false, false, false, false] rfl rfl (by kernel_rfl) (fun _ _ _ h => h) (Or.inl ⟨by rfl, ?_⟩) ?_ ?_
          rotate_left
          · intro w'
            go_simp
            with_reducible rfl
          rotate_left
          · simp only [Act.put, List.setIfInBounds_toArray, List.set_cons_zero, List.set_cons_succ, i64_w, i32_w]
            rfl
          refine take_ (i := 7) (N := some 38) (v := ?_) (a' := ?_) #[true, true, true, true, true, true, true, true, true, false, true, false, false, false, false, false, false, false, false, false] rfl rfl (by kernel_rfl) (fun _ _ _ h => h) (Or.inl ⟨by rfl, ?_⟩) hHeld ?_ ?_
          rotate_left
          · rintro w' ⟨s0, s1, s2, s3⟩
            go_simp
            with_reducible rfl
          rotate_left
          · simp only [Act.put, List.setIfInBounds_toArray, List.set_cons_zero, List.set_cons_succ, i64_w, i32_w]
            rfl
          refine take_ (i := 9) (N := some 40) (v := ?_) (a' := ?_) #[true, true, true, true, true, true, true, true, true, true, true, false, false, false, false, false, false, false, false, false] rfl rfl (by kernel_rfl) (fun _ _ _ h => h) (Or.inl ⟨by rfl, ?_⟩) hHeld ?_ ?_
          rotate_left
          · rintro w' ⟨s0, s1, s2, s3⟩
            go_simp
            with_reducible rfl
          rotate_left
          · simp only [Act.put, List.setIfInBounds_toArray, List.set_cons_zero, List.set_cons_succ, i64_w, i32_w]
            rfl
          refine pure_ (i := 11) (N := some 42) (v := ?_) (a' := ?_) #[true, true, true, true, true, true, true, true, true, true, true, true, false, false, false, false, false, false, false, false] rfl rfl (by kernel_rfl) (fun _ _ _ h => h) (Or.inl ⟨by rfl, ?_⟩) ?_ ?_
          rotate_left
          · intro w'
            go_simp
            with_reducible rfl
          rotate_left
          · simp only [Act.put, List.setIfInBounds_toArray, List.set_cons_zero, List.set_cons_succ, i64_w, i32_w]
            rfl
          refine pure_ (i := 12) (N := some 43) (v := ?_) (a' := ?_) #[true, true, true, true, true, true, true, true, true, true, true, true, true, false, false, false, false, false, false, false] rfl rfl (by kernel_rfl) (fun _ _ _ h => h) (Or.inl ⟨by rfl, ?_⟩) ?_ ?_
          rotate_left
          · intro w'
            go_simp
            with_reducible rfl
          rotate_left
          · simp only [Act.put, List.setIfInBounds_toArray, List.set_cons_zero, List.set_cons_succ, i64_w, i32_w]
            rfl
          refine take_ (i := 13) (N := some 44) (v := ?_) (a' := ?_) #[true, true, true, true, true, true, true, true, true, true, true, true, true, true, false, false, false, false, false, false] rfl rfl (by kernel_rfl) (fun _ _ _ h => h) (Or.inl ⟨by rfl, ?_⟩) hHeld ?_ ?_
          rotate_left
          · rintro w' ⟨s0, s1, s2, s3⟩
            go_simp
            with_reducible rfl
          rotate_left
          · simp only [Act.put, List.setIfInBounds_toArray, List.set_cons_zero, List.set_cons_succ, i64_w, i32_w]
            rfl
          refine one_ (i := 14) (N := some 45) #[true, true, true, true, true, true, true, true, true, true, true, true, true, true, true, false, false, false, false, false] rfl rfl (by kernel_rfl) (by decide) (fun K hK => ?_)
          refine goes_ Try.func67 (by kernel_rfl) rfl #[.slice Ae l1[j].f1.length ce] (by rfl) rfl rfl (by (try simp only [List.map_toArray, List.map_cons, List.map_nil]); rfl) ?_
          refine (transeptref03_Copied.calls Ae ce l1[j].f1 l1[j].f1 _ (Kd.C_below HEC.out HB.out) HEL.out (copied_some hxk)).mono ?_
          rintro e w5 ⟨v5, rfl, ho, hb⟩
          refine ⟨_, rfl, ?_⟩
          obtain ⟨Ao, co, eo⟩ := Kd.R_slice ho
          subst eo
          have HO := Aside0.mk ho
          have hle := hb.size
          have HS5 := Aside0.mk (Kd.S_mono (Kd.S_old HS.out hb) (fun k hk => ⟨hk.1, fun e_ => by have h1 := Kd.R_base HO.out k e_.symm; have h2 := hk.2; omega⟩ : ∀ k, ¬ k < N ∧ k < wr.drew.heap.size → ¬ k < N ∧ ¬ some k = (Value.slice Ao l1[j].f1.length co).ownBlock))
          have HK := Aside0.mk (fun k hk => ⟨by have h1 := Kd.R_base HO.out k hk.symm; have := HL0.out; omega, fun e_ => by have h1 := Kd.R_base HO.out k hk.symm; have h2 := Kd.S_lt HS.out k e_.symm; omega⟩ : ∀ k, some k = (Value.slice Ao l1[j].f1.length co).ownBlock → ¬ k < N ∧ some k ≠ (Value.slice Av j cv).ownBlock)
          have hbs := HB.out.size
          have hfr := (fun k hk => by have := HL0.out; omega : ∀ k, w5.heap.size ≤ k → ¬ k < N)
          replace HP0 := Aside0.mk (Kd.S_below HP0.out hb)
          replace BKT := Aside0.mk (blk_below BKT.out hb)
          replace BKR := Aside0.mk (blk_below BKR.out hb)
          replace BKS := Aside0.mk (blk_below BKS.out hb)
          replace HB := Aside0.mk (below_step HB.out hb)
          replace HO := Aside0.mk (Kd.R_lower HO.out hbs)
          clear ho hb
          refine hK.out _ _ ⟨(blk_cell BKT.out 1).trans rfl, (blk_cell BKS.out 1).trans rfl, (HB.out.cell (World.block_lt_of_cell? _ _ HE0.out)).trans HE0.out, (HB.out.cell (World.block_lt_of_cell? _ _ HE.out)).trans HE.out⟩ (fun hHeld => ?_)
          clear hK K
          refine norm_ (a' := ?_) ?_ ?_
          rotate_left
          · show Act.put _ (some 45) _ = _
            simp only [Act.put, List.setIfInBounds_toArray, List.set_cons_zero, List.set_cons_succ, i64_w, i32_w]
            rfl
          refine pure_ (i := 15) (N := some 46) (v := ?_) (a' := ?_) #[true, true, true, true, true, true, true, true, true, true, true, true, true, true, true, true, false, false, false, false] rfl rfl (by kernel_rfl) (fun _ _ _ h => h) (Or.inl ⟨by rfl, ?_⟩) ?_ ?_
          rotate_left
          · intro w'
            go_simp
            with_reducible rfl
          rotate_left
          · simp only [Act.put, List.setIfInBounds_toArray, List.set_cons_zero, List.set_cons_succ, i64_w, i32_w]
            rfl
          refine one_ (i := 16) (N := some 47) #[true, true, true, true, true, true, true, true, true, true, true, true, true, true, true, true, true, false, false, false] rfl rfl (by kernel_rfl) (by decide) (fun K hK => ?_)
          refine value_ (w1 := ?_) (v := ?_) (by rfl) rfl ?_ ?_
          rotate_left 2
          · go_simp
            constructor
            · rfl
            · rfl
          refine hK.out _ _ ⟨(blk_cell (blk_alloc BKT.out _) 1).trans rfl, (blk_cell (blk_alloc BKS.out _) 1).trans rfl, ((below_alloc HB.out _).cell (World.block_lt_of_cell? _ _ HE0.out)).trans HE0.out, ((below_alloc HB.out _).cell (World.block_lt_of_cell? _ _ HE.out)).trans HE.out⟩ (fun hHeld => ?_)
          clear hK K
          refine norm_ (a' := ?_) ?_ ?_
          rotate_left
          · show Act.put _ (some 47) _ = _
            simp only [Act.put, List.setIfInBounds_toArray, List.set_cons_zero, List.set_cons_succ, i64_w, i32_w]
            rfl
          refine one_ (i := 17) (N := some 48) #[true, true, true, true, true, true, true, true, true, true, true, true, true, true, true, true, true, true, false, false] rfl rfl (by kernel_rfl) (by decide) (fun K hK => ?_)
          refine Kd.S_append_step kP (w0 := w) w.heap.size (by rfl) (.tmp 32) (.tmp 47) 40 55 (.agg #[(.int .i64 0), (.slice none 0 0)]) 32 rfl Try.underlying40 info55 rfl (by show 0 < 2; decide) (by omega) (.slice Av j cv) (l1.take j) l1[j] [.int .i64 l1[j].f0, .slice Ao l1[j].f1.length co] (fun k => ¬ k < N) (fun k_ => some k_ = (.slice Ao l1[j].f1.length co : Value).ownBlock) rfl rfl (k55_mkM _ _ _ l1[j] (Kd.R_mono (Kd.R_tight rfl HO.out) (fun _ h_ => h_))) HK.out hfr HS5.out HB.out HB.out.size (by rw [List.length_take]; omega) ?_
          intro v6 w6 hs6 hb6 hg6 _
          rw [← List.take_succ_eq_append_getElem HLEN.out] at hs6
          replace HP0 := Aside0.mk (Kd.S_over' HP0.out (Kd.S_typed HS5.out) (by decide) hg6)
          replace BKT := Aside0.mk (blk_grown BKT.out hg6 (Kd.S_ne HS5.out BKT.out (by decide)))
          replace BKR := Aside0.mk (blk_grown BKR.out hg6 (Kd.S_ne HS5.out BKR.out (by decide)))
          replace BKS := Aside0.mk (blk_grown BKS.out hg6 (Kd.S_ne HS5.out BKS.out (by decide)))
          have hsz6 := hg6.size
          obtain ⟨A6, c6, e6⟩ := Kd.S_slice hs6
          rw [show (l1.take (j + 1)).length = j + 1 from by rw [List.length_take]; omega] at e6
          subst e6
          have HS6 := Aside0.mk hs6
          replace HB := Aside0.mk hb6
          clear hs6 hb6 hg6
          refine hK.out _ _ ⟨(blk_cell BKT.out 1).trans rfl, (blk_cell BKS.out 1).trans rfl, (HB.out.cell (World.block_lt_of_cell? _ _ HE0.out)).trans HE0.out, (HB.out.cell (World.block_lt_of_cell? _ _ HE.out)).trans HE.out⟩ (fun hHeld => ?_)
          clear hK K
          refine norm_ (a' := ?_) ?_ ?_
          rotate_left
          · show Act.put _ (some 48) _ = _
            simp only [Act.put, List.setIfInBounds_toArray, List.set_cons_zero, List.set_cons_succ, i64_w, i32_w]
            rfl
          refine pure_ (i := 18) (N := some 49) (v := ?_) (a' := ?_) #[true, true, true, true, true, true, true, true, true, true, true, true, true, true, true, true, true, true, true, false] rfl rfl (by kernel_rfl) (fun _ _ _ h => h) (Or.inl ⟨by rfl, ?_⟩) ?_ ?_
          rotate_left
          · intro w'
            go_simp
            with_reducible rfl
          rotate_left
          · simp only [Act.put, List.setIfInBounds_toArray, List.set_cons_zero, List.set_cons_succ, i64_w, i32_w]
            rfl
          refine last_ (i := 19) (N := none) #[true, true, true, true, true, true, true, true, true, true, true, true, true, true, true, true, true, true, true, true] rfl rfl (by kernel_rfl) (by decide) (fun K hK => ?_)
          have hs7 : w6.cell? ⟨gt, 1, none⟩ = some (.slice Av j cv) := (blk_cell BKT.out 1).trans rfl
          have hf7 := blk_frozen BKT.out 1
          refine skip_ (w1 := ?_) (by rfl) rfl ?_ ?_
          rotate_left
          · go_simp
            rfl
          refine hK.out _ _ ?_
          clear hK K
          refine done_ (by kernel_rfl) ?_
          have HS7 := Lib.hid (Kd.S_set HS6.out BKT.out (by decide) 1 (.slice A6 (j + 1) c6))
          have HP7 := Lib.hid (Kd.S_set HP0.out BKT.out (by decide) 1 (.slice A6 (j + 1) c6))
          have BKT7 := Lib.hid (blk_put (cs' := #[.slice Au i cu, .slice A6 (j + 1) c6]) BKT.out 1 (.slice A6 (j + 1) c6) rfl)
          have BKR7 := Lib.hid (blk_far BKR.out (p := ⟨gt, 1, none⟩) NRT.out (.slice A6 (j + 1) c6))
          have BKS7 := Lib.hid (blk_far BKS.out (p := ⟨gt, 1, none⟩) NST.out (.slice A6 (j + 1) c6))
          have HB7 := Lib.hid (HB.out.setCell (p := ⟨gt, 1, none⟩) GT.out (.slice A6 (j + 1) c6))
          have hle7 : N ≤ (w6.setCell ⟨gt, 1, none⟩ (.slice A6 (j + 1) c6)).heap.size := by
            rw [show (w6.setCell ⟨gt, 1, none⟩ (.slice A6 (j + 1) c6)).heap.size = w6.heap.size from by simp [World.setCell]]
            have := HL0.out
            omega
          clear HS6 BKT BKR BKS HB HS HS5 HK HO HE HE0 HEC HEL HLEN HL0 HP0 hs7 hf7 hHeld hle hbs hfr hsz6
          go_wp2_with fail
          go_roundw
          case rel => exact ⟨j + 1, by omega, by go_num, A6, c6, HP7, HS7, BKT7, BKR7, BKS7, HB7, hle7⟩
          case measure => simp [intOf]; omega
        · obtain rfl : j = m := by omega
          have hS1 : Kd.S kP 55 wr w.heap.size (fun k => ¬ k < N) (.slice Av j cv) l1 := by
            have h_ : Kd.S kP 55 wr w.heap.size (fun k => ¬ k < N) (.slice Av j cv) (l1.take j) := HS
            rw [List.take_of_length_le (by rw [← HM.out]; exact Nat.le_refl _)] at h_
            exact h_
          have HS1 := Aside0.mk hS1
          clear hS1
          have hy0 : wr.cell? ⟨gt, 0, none⟩ = some (.slice Au i cu) := (blk_cell BKT 0).trans rfl
          have hy1 : wr.cell? ⟨gt, 1, none⟩ = some (.slice Av j cv) := (blk_cell BKT 1).trans rfl
          have hr0 : wr.cell? ⟨gr, 0, none⟩ = some (.slice none 0 0) := (blk_cell BKR 0).trans rfl
          have hr1 : wr.cell? ⟨gr, 1, none⟩ = some (.slice none 0 0) := (blk_cell BKR 1).trans rfl
          have hg0 := blk_frozen BKR 0
          have hg1 := blk_frozen BKR 1
          replace BKR := Aside0.mk BKR
          replace HB := Aside0.mk HB
          replace HP0 := Aside0.mk HP0
          go_wp2_with fail
          refine bodyPost_ret (results_cell_row rfl _ _ gr 42 #[.slice Au i cu, .slice Av j cv] (0, 0) _ rfl (put2 BKR.out) Try.underlying42 rfl (by kernel_rfl)) rfl ?_
          exact ⟨_, _, rfl, ⟨fun k => k < N, S_set2 HP0.out BKR.out (by decide) _ _, S_set2 HS1.out BKR.out (by decide) _ _⟩, below2 HB.out GR.out _ _⟩
end Go.Proofs.Ytiiphlfgdkjjiaa.Q
