/- disk's clone answers the same state, all in memory of its own, what the sectors lead to apart from what the writes lead to; no condition but that the state isn't greater than a state may be. -/
import Derived.LoopTactic
import Derived.Outline
import Derived.Test.YtiiphlfgdkjjiaaZDisksSAlive
namespace Go.Proofs.Ytiiphlfgdkjjiaa.Q
open Go.RowKit Go.Proofs.YtiiphlfgdkjjiaaW.PrintWords Go.Proofs.YtiiphlfgdkjjiaaW.PrintLast Go.Proofs.YtiiphlfgdkjjiaaW.PrintMore
set_option linter.unusedVariables false
set_option linter.unusedSimpArgs false

abbrev kB : Kd (List Int) := Kd.slice 5 (Kd.int .u8)
abbrev kW : Kd S61 := k61

set_option maxHeartbeats 1000000 in
set_option maxRecDepth 100000 in
/-- slices.Clone of the sectors: not copied themselves. -/
theorem lclone_any (w0 : World) (A0 : Option Addr) (c0 : Nat) (l0 : List (List Int)) (w : World) (hr0 : Kd.C (Kd.fixed kB w0) w A0 l0.length l0) (hl : l0.length * 24 ≤ 140737488355328) :
    Calls Try.prog 72 #[.slice A0 l0.length c0] w fun e w' => ∃ v0_ : Value, e = .returned (v0_) ∧ Kd.R (Kd.fixed kB w0) 50 w' w.heap.size (fun _ => True) v0_ l0 ∧ Below w.heap.size w w' := by
  have HR := Lib.hid hr0
  clear hr0
  have he := fun (w : World) (a : Option Addr) (n c n' c' : Nat) => Lib.run_eql_slice_nil (P := Try.prog) w 25 50 a n c n' c' Try.underlying25
  cases A0 with
  | none =>
    have h0 : l0.length = 0 := by
      rcases Nat.eq_zero_or_pos l0.length with h | h
      · exact h
      · obtain ⟨ad, hA, _⟩ := HR.out.2.2 h
        cases hA
    have hnil : l0 = [] := List.length_eq_zero_iff.1 h0
    subst hnil
    go_enter Try.func72, Try.ntmps72
    go_wp2
    go_ret
    exact ⟨_, rfl, Kd.R_nil _ _ _ _ _, Below.refl _ _⟩
  | some ad =>
    go_enter Try.func72, Try.ntmps72
    go_wp2_with (first | ((with_reducible refine gate_dst (N := 5) rfl ?_); refine Kd.R_lit (Kd.fixed kB w0) (w0 := w) w.heap.size 50 ?hg (N := 5) ?hd (xs := ([] : List (List Int))) (inner := []) (ok := fun _ => True) (okp := fun _ => True) ?hr (Reps.none _ _) (fun _ hk => hk) trivial (Below.refl _ _) (Nat.le_refl _) (by simp) ?_; (case hd => rfl); (case hg => rfl); (case hr => first | (go_simp; done) | (go_simp; rfl)); intro v1 w1 ho hb _ _; have HO := Lib.hid ho; have HB := Lib.hid hb; clear ho hb; obtain ⟨Ao, co, eo⟩ := Kd.R_slice HO.out; subst eo) | (at_builtin; refine Kd.R_append_rows (Kd.fixed kB w0) (Rr := kB.K w0) (w0 := w) w.heap.size rfl (.tmp 5) (.tmp 6) 25 50 (.slice none 0 0) 24 rfl Try.underlying25 info50 rfl (by show 0 < 1; decide) (by omega) _ ([] : List (List Int)) l0 _ _ _ (fun _ => True) (fun _ => False) rfl rfl HO.out (ReadsRow.imp_ HR.out HB.out (fun _ _ h => h)) (fun _ _ h => h) (fun _ h => h.elim) (fun _ _ => trivial) HB.out HB.out.size (by simp only [List.length_nil]; omega) ?_; intro v2 w2 ho2 hb2 _ _; have HO2 := Lib.hid ho2; have HB2 := Lib.hid hb2; clear ho2 hb2))
    go_ret
    exact ⟨_, rfl, HO2.out, HB2.out⟩

set_option maxHeartbeats 1000000 in
set_option maxRecDepth 100000 in
/-- slices.Clone of the writes: their octets not copied. -/
theorem wclone_any (w0 : World) (A0 : Option Addr) (c0 : Nat) (l0 : List S61) (w : World) (hr0 : Kd.C (Kd.fixed kW w0) w A0 l0.length l0) (hl : l0.length * 32 ≤ 140737488355328) :
    Calls Try.prog 73 #[.slice A0 l0.length c0] w fun e w' => ∃ v0_ : Value, e = .returned (v0_) ∧ Kd.R (Kd.fixed kW w0) 61 w' w.heap.size (fun _ => True) v0_ l0 ∧ Below w.heap.size w w' := by
  have HR := Lib.hid hr0
  clear hr0
  have he := fun (w : World) (a : Option Addr) (n c n' c' : Nat) => Lib.run_eql_slice_nil (P := Try.prog) w 26 61 a n c n' c' Try.underlying26
  cases A0 with
  | none =>
    have h0 : l0.length = 0 := by
      rcases Nat.eq_zero_or_pos l0.length with h | h
      · exact h
      · obtain ⟨ad, hA, _⟩ := HR.out.2.2 h
        cases hA
    have hnil : l0 = [] := List.length_eq_zero_iff.1 h0
    subst hnil
    go_enter Try.func73, Try.ntmps73
    go_wp2
    go_ret
    exact ⟨_, rfl, Kd.R_nil _ _ _ _ _, Below.refl _ _⟩
  | some ad =>
    go_enter Try.func73, Try.ntmps73
    go_wp2_with (first | ((with_reducible refine gate_dst (N := 5) rfl ?_); refine Kd.R_lit (Kd.fixed kW w0) (w0 := w) w.heap.size 61 ?hg (N := 5) ?hd (xs := ([] : List S61)) (inner := []) (ok := fun _ => True) (okp := fun _ => True) ?hr (Reps.none _ _) (fun _ hk => hk) trivial (Below.refl _ _) (Nat.le_refl _) (by simp) ?_; (case hd => rfl); (case hg => rfl); (case hr => first | (go_simp; done) | (go_simp; rfl)); intro v1 w1 ho hb _ _; have HO := Lib.hid ho; have HB := Lib.hid hb; clear ho hb; obtain ⟨Ao, co, eo⟩ := Kd.R_slice HO.out; subst eo) | (at_builtin; refine Kd.R_append_rows (Kd.fixed kW w0) (Rr := kW.K w0) (w0 := w) w.heap.size rfl (.tmp 5) (.tmp 6) 26 61 (.agg #[(.int .i64 0), (.slice none 0 0)]) 32 rfl Try.underlying26 info61 rfl (by show 0 < 2; decide) (by omega) _ ([] : List S61) l0 _ _ _ (fun _ => True) (fun _ => False) rfl rfl HO.out (ReadsRow.imp_ HR.out HB.out (fun _ _ h => h)) (fun _ _ h => h) (fun _ h => h.elim) (fun _ _ => trivial) HB.out HB.out.size (by simp only [List.length_nil]; omega) ?_; intro v2 w2 ho2 hb2 _ _; have HO2 := Lib.hid ho2; have HB2 := Lib.hid hb2; clear ho2 hb2))
    go_ret
    exact ⟨_, rfl, HO2.out, HB2.out⟩

theorem E_fixed {α : Type} {d : Kd α} {w : World} {e t : Nat} (h : e ≠ t) : ∀ q, q ∈ e :: (Kd.fixed d w).E → q ≠ t := by
  intro q hq
  have h2 : q ∈ [e] := hq
  rw [List.mem_singleton.1 h2]
  exact h

set_option maxHeartbeats 4000000 in
set_option maxRecDepth 100000 in
theorem dclone_any (A0 : Option Addr) (c0 : Nat) (l0 : List (List Int)) (A1 : Option Addr) (c1 : Nat) (l1 : List S61) (w : World) (hr0 : Kd.C kB w A0 l0.length l0) (hr1 : Kd.C kW w A1 l1.length l1)
    (hl0 : l0.length ≤ 1024) (hl1 : l1.length ≤ 4096) (hx0 : ∀ x ∈ l0, x.length < 140737488355328) (hx1 : ∀ x ∈ l1, x.f1.length < 140737488355328) :
    Calls Try.prog 51 #[.agg #[.slice A0 l0.length c0, .slice A1 l1.length c1]] w fun e w' => ∃ v0 v1 : Value, e = .returned (.agg #[v0, v1]) ∧ (∃ p : Nat → Prop, Kd.S kB 50 w' w.heap.size p v0 l0 ∧ Kd.S kW 61 w' w.heap.size (fun k => ¬ p k) v1 l1) ∧ Below w.heap.size w w' := by
  have HR0 := Aside0.mk hr0
  have HR1 := Aside0.mk hr1
  have HF0 := Aside0.mk (show Kd.C (Kd.fixed kB w) w A0 l0.length l0 from hr0)
  have HF1 := Aside0.mk (show Kd.C (Kd.fixed kW w) w A1 l1.length l1 from hr1)
  have HX0 := Aside0.mk hx0
  have HX1 := Aside0.mk hx1
  have HL0 := Aside0.mk (by omega : l0.length * 24 ≤ 140737488355328)
  have HL1 := Aside0.mk (by omega : l1.length * 32 ≤ 140737488355328)
  clear hr0 hr1 hx0 hx1
  obtain ⟨n, hn⟩ : ∃ n, n = l0.length := ⟨_, rfl⟩
  obtain ⟨m, hm⟩ : ∃ m, m = l1.length := ⟨_, rfl⟩
  have HN := Aside0.mk hn
  have HM := Aside0.mk hm
  have hnb : n ≤ 1024 := by omega
  have hmb : m ≤ 4096 := by omega
  rw [← hn, ← hm]
  clear hn hm hl0 hl1
  have hu := Try.underlying28
  have huw := Try.underlying61
  go_enter Try.func51, Try.ntmps51
  go_wp2_with (first
    | ((with_reducible refine gate_dst (N := 1) rfl ?_); refine box_event ?hg (N := 1) ?hd (cs := #[.slice A0 n c0, .slice A1 m c1]) (t := 28) ?hr ?_; (case hd => rfl); (case hg => rfl); (case hr => first | (go_simp; done) | (go_simp; rfl)); intro gs hgs w1 hbox hb; have HB := Aside0.mk hb; have BKS := Aside0.mk hbox; clear hb hbox hgs)
    | ((with_reducible refine gate_dst (N := 2) rfl ?_); refine box_event ?hg (N := 2) ?hd (cs := #[.slice none 0 0, .slice none 0 0]) (t := 28) ?hr ?_; (case hd => rfl); (case hg => rfl); (case hr => first | (go_simp; done) | (go_simp; rfl)); intro gr hgr w2 hbox hb; have GR := Aside0.mk (by have := HB.out.size; omega : w.heap.size ≤ gr); replace BKS := Aside0.mk (blk_below BKS.out hb); replace HB := Aside0.mk (below_step HB.out hb); have BKR := Aside0.mk hbox; clear hb hbox hgr))
  replace BKS := Aside0.mk (blk_drew BKS.out)
  replace BKR := Aside0.mk (blk_drew BKR.out)
  replace HB := Aside0.mk (below_drew1 HB.out)
  refine start_ (n := 9) (S := fun w' => w'.cell? ⟨gs, 0, none⟩ = some (.slice A0 n c0) ∧ w'.cell? ⟨gs, 1, none⟩ = some (.slice A1 m c1)) (ds := [8]) #[false, false, false, false, false, false, false, false, false] (by kernel_rfl) rfl rfl ⟨(blk_cell BKS.out 0).trans rfl, (blk_cell BKS.out 1).trans rfl⟩ (fun hHeld => ?_)
  refine pure_ (i := 0) (N := some 8) (v := ?_) (a' := ?_) #[true, false, false, false, false, false, false, false, false] rfl rfl (by kernel_rfl) (fun _ _ _ h => h) (Or.inl ⟨by rfl, ?_⟩) ?_ ?_
  rotate_left
  · intro w'
    go_simp
    with_reducible rfl
  rotate_left
  · simp only [Act.put, List.setIfInBounds_toArray, List.set_cons_zero, List.set_cons_succ, i64_w, i32_w]
    rfl
  refine pure_ (i := 3) (N := some 11) (v := ?_) (a' := ?_) #[true, false, false, true, false, false, false, false, false] rfl rfl (by kernel_rfl) (fun _ _ _ h => h) (Or.inl ⟨by rfl, ?_⟩) ?_ ?_
  rotate_left
  · intro w'
    go_simp
    with_reducible rfl
  rotate_left
  · simp only [Act.put, List.setIfInBounds_toArray, List.set_cons_zero, List.set_cons_succ, i64_w, i32_w]
    rfl
  refine take_ (i := 1) (N := some 9) (v := ?_) (a' := ?_) #[true, true, false, true, false, false, false, false, false] rfl rfl (by kernel_rfl) (fun _ _ _ h => h) (Or.inl ⟨by rfl, ?_⟩) hHeld ?_ ?_
  rotate_left
  · rintro w' ⟨s0, s1⟩
    go_simp
    with_reducible rfl
  rotate_left
  · simp only [Act.put, List.setIfInBounds_toArray, List.set_cons_zero, List.set_cons_succ, i64_w, i32_w]
    rfl
  refine take_ (i := 4) (N := some 12) (v := ?_) (a' := ?_) #[true, true, false, true, true, false, false, false, false] rfl rfl (by kernel_rfl) (fun _ _ _ h => h) (Or.inl ⟨by rfl, ?_⟩) hHeld ?_ ?_
  rotate_left
  · rintro w' ⟨s0, s1⟩
    go_simp
    with_reducible rfl
  rotate_left
  · simp only [Act.put, List.setIfInBounds_toArray, List.set_cons_zero, List.set_cons_succ, i64_w, i32_w]
    rfl
  refine join_ (σ := Option Addr × Nat × Option Addr × Nat × Nat) 1 #[true, true, true, true, true, true, true, true, false] (fun s => [(10, .slice s.1 n s.2.1), (13, .slice s.2.2.1 m s.2.2.2.1), (3, .pointer (some ⟨s.2.2.2.2, 0, none⟩)), (14, .agg #[.slice s.1 n s.2.1, .slice s.2.2.1 m s.2.2.2.1])]) (fun s w' => Kd.R (Kd.fixed kB w) 50 w' w.heap.size (fun _ => True) (.slice s.1 n s.2.1) l0 ∧ Kd.R (Kd.fixed kW w) 61 w' w.heap.size (fun _ => True) (.slice s.2.2.1 m s.2.2.2.1) l1 ∧ w'.heap[s.2.2.2.2]? = some (.cells #[.slice none 0 0, .slice none 0 0] 28 (0, 0)) ∧ w'.heap[gr]? = some (.cells #[.slice none 0 0, .slice none 0 0] 28 (0, 0)) ∧ Below w.heap.size w w' ∧ w.heap.size ≤ s.2.2.2.2 ∧ gr ≠ s.2.2.2.2) ?_ ?_
  rotate_left
  · intro hCont
    refine two_ (i := 2) (j := 7) (Ni := some 10) (Nj := some 3) #[true, true, true, true, true, false, false, false, false] #[true, true, false, true, true, false, false, true, false] rfl rfl rfl rfl (by kernel_rfl) (by decide) (by decide) (fun K hK => ?_) (fun K hK => ?_)
    · skip
      refine goes_ Try.func72 (by kernel_rfl) rfl #[.slice A0 n c0] (by rfl) rfl rfl (by (try simp only [List.map_toArray, List.map_cons, List.map_nil]); rfl) ?_
      rw [HN.out]
      refine (lclone_any w A0 c0 l0 _ (Kd.C_below HF0.out HB.out) HL0.out).mono ?_
      rintro e w3 ⟨v10, rfl, hv, hb⟩
      refine ⟨_, rfl, ?_⟩
      obtain ⟨A10, c10, eo⟩ := Kd.R_slice hv
      subst eo
      rw [← HN.out] at hv ⊢
      have HV0 := Aside0.mk (Kd.R_lower hv HB.out.size)
      replace BKS := Aside0.mk (blk_below BKS.out hb)
      replace BKR := Aside0.mk (blk_below BKR.out hb)
      replace HB := Aside0.mk (below_step HB.out hb)
      clear hb hv
      refine hK.out _ _ ⟨(blk_cell BKS.out 0).trans rfl, (blk_cell BKS.out 1).trans rfl⟩ (fun hHeld => ?_)
      clear hK K
      refine norm_ (a' := ?_) ?_ ?_
      rotate_left
      · show Act.put _ (some 10) _ = _
        simp only [Act.put, List.setIfInBounds_toArray, List.set_cons_zero, List.set_cons_succ, i64_w, i32_w]
        rfl
      refine two_ (i := 5) (j := 7) (Ni := some 13) (Nj := some 3) #[true, true, true, true, true, true, false, false, false] #[true, true, true, true, true, false, false, true, false] rfl rfl rfl rfl (by kernel_rfl) (by decide) (by decide) (fun K hK => ?_) (fun K hK => ?_)
      · skip
        refine goes_ Try.func73 (by kernel_rfl) rfl #[.slice A1 m c1] (by rfl) rfl rfl (by (try simp only [List.map_toArray, List.map_cons, List.map_nil]); rfl) ?_
        rw [HM.out]
        refine (wclone_any w A1 c1 l1 _ (Kd.C_below HF1.out HB.out) HL1.out).mono ?_
        rintro e w3 ⟨v13, rfl, hv, hb⟩
        refine ⟨_, rfl, ?_⟩
        obtain ⟨A13, c13, eo⟩ := Kd.R_slice hv
        subst eo
        rw [← HM.out] at hv ⊢
        have HV1 := Aside0.mk (Kd.R_lower hv HB.out.size)
        replace BKS := Aside0.mk (blk_below BKS.out hb)
        replace BKR := Aside0.mk (blk_below BKR.out hb)
        replace HV0 := Aside0.mk (Kd.R_below HV0.out hb)
        replace HB := Aside0.mk (below_step HB.out hb)
        clear hb hv
        refine hK.out _ _ ⟨(blk_cell BKS.out 0).trans rfl, (blk_cell BKS.out 1).trans rfl⟩ (fun hHeld => ?_)
        clear hK K
        refine norm_ (a' := ?_) ?_ ?_
        rotate_left
        · show Act.put _ (some 13) _ = _
          simp only [Act.put, List.setIfInBounds_toArray, List.set_cons_zero, List.set_cons_succ, i64_w, i32_w]
          rfl
        refine pure_ (i := 6) (N := some 14) (v := ?_) (a' := ?_) #[true, true, true, true, true, true, true, false, false] rfl rfl (by kernel_rfl) (fun _ _ _ h => h) (Or.inl ⟨by rfl, ?_⟩) ?_ ?_
        rotate_left
        · intro w'
          go_simp
          with_reducible rfl
        rotate_left
        · simp only [Act.put, List.setIfInBounds_toArray, List.set_cons_zero, List.set_cons_succ, i64_w, i32_w]
          rfl
        refine one_ (i := 7) (N := some 3) #[true, true, true, true, true, true, true, true, false] rfl rfl (by kernel_rfl) (by decide) (fun K hK => ?_)
        refine box_step (by rfl) (N := 3) rfl (cs := #[.slice none 0 0, .slice none 0 0]) (t := 28) ?hr ?_
        (case hr => first | (go_simp; done) | (go_simp; rfl))
        intro gt hgt w3 hbox hb
        have BKT := Aside0.mk hbox
        have GT := Aside0.mk (by have := HB.out.size; omega : w.heap.size ≤ gt)
        have NT := Aside0.mk (by have := blk_lt BKR.out; omega : gr ≠ gt)
        replace BKS := Aside0.mk (blk_below BKS.out hb)
        replace BKR := Aside0.mk (blk_below BKR.out hb)
        replace HV0 := Aside0.mk (Kd.R_below HV0.out hb)
        replace HV1 := Aside0.mk (Kd.R_below HV1.out hb)
        replace HB := Aside0.mk (below_step HB.out hb)
        clear hb hbox hgt
        refine hK.out _ _ ⟨(blk_cell BKS.out 0).trans rfl, (blk_cell BKS.out 1).trans rfl⟩ (fun hHeld => ?_)
        clear hK K
        refine norm_ (a' := ?_) ?_ ?_
        rotate_left
        · show Act.put _ (some 3) _ = _
          simp only [Act.put, List.setIfInBounds_toArray, List.set_cons_zero, List.set_cons_succ, i64_w, i32_w]
          rfl
        exact norm_ (by simp only [putAll, Act.put, List.setIfInBounds_toArray, List.set_cons_zero, List.set_cons_succ]) (hCont (A10, c10, A13, c13, gt) _ ⟨HV0.out, HV1.out, BKT.out, BKR.out, HB.out, GT.out, NT.out⟩)
      · skip
        refine box_step (by rfl) (N := 3) rfl (cs := #[.slice none 0 0, .slice none 0 0]) (t := 28) ?hr ?_
        (case hr => first | (go_simp; done) | (go_simp; rfl))
        intro gt hgt w3 hbox hb
        have BKT := Aside0.mk hbox
        have GT := Aside0.mk (by have := HB.out.size; omega : w.heap.size ≤ gt)
        have NT := Aside0.mk (by have := blk_lt BKR.out; omega : gr ≠ gt)
        replace BKS := Aside0.mk (blk_below BKS.out hb)
        replace BKR := Aside0.mk (blk_below BKR.out hb)
        replace HV0 := Aside0.mk (Kd.R_below HV0.out hb)
        replace HB := Aside0.mk (below_step HB.out hb)
        clear hb hbox hgt
        refine hK.out _ _ ⟨(blk_cell BKS.out 0).trans rfl, (blk_cell BKS.out 1).trans rfl⟩ (fun hHeld => ?_)
        clear hK K
        refine norm_ (a' := ?_) ?_ ?_
        rotate_left
        · show Act.put _ (some 3) _ = _
          simp only [Act.put, List.setIfInBounds_toArray, List.set_cons_zero, List.set_cons_succ, i64_w, i32_w]
          rfl
        refine one_ (i := 5) (N := some 13) #[true, true, true, true, true, true, false, true, false] rfl rfl (by kernel_rfl) (by decide) (fun K hK => ?_)
        refine goes_ Try.func73 (by kernel_rfl) rfl #[.slice A1 m c1] (by rfl) rfl rfl (by (try simp only [List.map_toArray, List.map_cons, List.map_nil]); rfl) ?_
        rw [HM.out]
        refine (wclone_any w A1 c1 l1 _ (Kd.C_below HF1.out HB.out) HL1.out).mono ?_
        rintro e w3 ⟨v13, rfl, hv, hb⟩
        refine ⟨_, rfl, ?_⟩
        obtain ⟨A13, c13, eo⟩ := Kd.R_slice hv
        subst eo
        rw [← HM.out] at hv ⊢
        have HV1 := Aside0.mk (Kd.R_lower hv HB.out.size)
        replace BKS := Aside0.mk (blk_below BKS.out hb)
        replace BKR := Aside0.mk (blk_below BKR.out hb)
        replace BKT := Aside0.mk (blk_below BKT.out hb)
        replace HV0 := Aside0.mk (Kd.R_below HV0.out hb)
        replace HB := Aside0.mk (below_step HB.out hb)
        clear hb hv
        refine hK.out _ _ ⟨(blk_cell BKS.out 0).trans rfl, (blk_cell BKS.out 1).trans rfl⟩ (fun hHeld => ?_)
        clear hK K
        refine norm_ (a' := ?_) ?_ ?_
        rotate_left
        · show Act.put _ (some 13) _ = _
          simp only [Act.put, List.setIfInBounds_toArray, List.set_cons_zero, List.set_cons_succ, i64_w, i32_w]
          rfl
        refine pure_ (i := 6) (N := some 14) (v := ?_) (a' := ?_) #[true, true, true, true, true, true, true, true, false] rfl rfl (by kernel_rfl) (fun _ _ _ h => h) (Or.inl ⟨by rfl, ?_⟩) ?_ ?_
        rotate_left
        · intro w'
          go_simp
          with_reducible rfl
        rotate_left
        · simp only [Act.put, List.setIfInBounds_toArray, List.set_cons_zero, List.set_cons_succ, i64_w, i32_w]
          rfl
        exact norm_ (by simp only [putAll, Act.put, List.setIfInBounds_toArray, List.set_cons_zero, List.set_cons_succ]) (hCont (A10, c10, A13, c13, gt) _ ⟨HV0.out, HV1.out, BKT.out, BKR.out, HB.out, GT.out, NT.out⟩)
    · skip
      refine box_step (by rfl) (N := 3) rfl (cs := #[.slice none 0 0, .slice none 0 0]) (t := 28) ?hr ?_
      (case hr => first | (go_simp; done) | (go_simp; rfl))
      intro gt hgt w3 hbox hb
      have BKT := Aside0.mk hbox
      have GT := Aside0.mk (by have := HB.out.size; omega : w.heap.size ≤ gt)
      have NT := Aside0.mk (by have := blk_lt BKR.out; omega : gr ≠ gt)
      replace BKS := Aside0.mk (blk_below BKS.out hb)
      replace BKR := Aside0.mk (blk_below BKR.out hb)
      replace HB := Aside0.mk (below_step HB.out hb)
      clear hb hbox hgt
      refine hK.out _ _ ⟨(blk_cell BKS.out 0).trans rfl, (blk_cell BKS.out 1).trans rfl⟩ (fun hHeld => ?_)
      clear hK K
      refine norm_ (a' := ?_) ?_ ?_
      rotate_left
      · show Act.put _ (some 3) _ = _
        simp only [Act.put, List.setIfInBounds_toArray, List.set_cons_zero, List.set_cons_succ, i64_w, i32_w]
        rfl
      refine one_ (i := 2) (N := some 10) #[true, true, true, true, true, false, false, true, false] rfl rfl (by kernel_rfl) (by decide) (fun K hK => ?_)
      refine goes_ Try.func72 (by kernel_rfl) rfl #[.slice A0 n c0] (by rfl) rfl rfl (by (try simp only [List.map_toArray, List.map_cons, List.map_nil]); rfl) ?_
      rw [HN.out]
      refine (lclone_any w A0 c0 l0 _ (Kd.C_below HF0.out HB.out) HL0.out).mono ?_
      rintro e w3 ⟨v10, rfl, hv, hb⟩
      refine ⟨_, rfl, ?_⟩
      obtain ⟨A10, c10, eo⟩ := Kd.R_slice hv
      subst eo
      rw [← HN.out] at hv ⊢
      have HV0 := Aside0.mk (Kd.R_lower hv HB.out.size)
      replace BKS := Aside0.mk (blk_below BKS.out hb)
      replace BKR := Aside0.mk (blk_below BKR.out hb)
      replace BKT := Aside0.mk (blk_below BKT.out hb)
      replace HB := Aside0.mk (below_step HB.out hb)
      clear hb hv
      refine hK.out _ _ ⟨(blk_cell BKS.out 0).trans rfl, (blk_cell BKS.out 1).trans rfl⟩ (fun hHeld => ?_)
      clear hK K
      refine norm_ (a' := ?_) ?_ ?_
      rotate_left
      · show Act.put _ (some 10) _ = _
        simp only [Act.put, List.setIfInBounds_toArray, List.set_cons_zero, List.set_cons_succ, i64_w, i32_w]
        rfl
      refine one_ (i := 5) (N := some 13) #[true, true, true, true, true, true, false, true, false] rfl rfl (by kernel_rfl) (by decide) (fun K hK => ?_)
      refine goes_ Try.func73 (by kernel_rfl) rfl #[.slice A1 m c1] (by rfl) rfl rfl (by (try simp only [List.map_toArray, List.map_cons, List.map_nil]); rfl) ?_
      rw [HM.out]
      refine (wclone_any w A1 c1 l1 _ (Kd.C_below HF1.out HB.out) HL1.out).mono ?_
      rintro e w3 ⟨v13, rfl, hv, hb⟩
      refine ⟨_, rfl, ?_⟩
      obtain ⟨A13, c13, eo⟩ := Kd.R_slice hv
      subst eo
      rw [← HM.out] at hv ⊢
      have HV1 := Aside0.mk (Kd.R_lower hv HB.out.size)
      replace BKS := Aside0.mk (blk_below BKS.out hb)
      replace BKR := Aside0.mk (blk_below BKR.out hb)
      replace BKT := Aside0.mk (blk_below BKT.out hb)
      replace HV0 := Aside0.mk (Kd.R_below HV0.out hb)
      replace HB := Aside0.mk (below_step HB.out hb)
      clear hb hv
      refine hK.out _ _ ⟨(blk_cell BKS.out 0).trans rfl, (blk_cell BKS.out 1).trans rfl⟩ (fun hHeld => ?_)
      clear hK K
      refine norm_ (a' := ?_) ?_ ?_
      rotate_left
      · show Act.put _ (some 13) _ = _
        simp only [Act.put, List.setIfInBounds_toArray, List.set_cons_zero, List.set_cons_succ, i64_w, i32_w]
        rfl
      refine pure_ (i := 6) (N := some 14) (v := ?_) (a' := ?_) #[true, true, true, true, true, true, true, true, false] rfl rfl (by kernel_rfl) (fun _ _ _ h => h) (Or.inl ⟨by rfl, ?_⟩) ?_ ?_
      rotate_left
      · intro w'
        go_simp
        with_reducible rfl
      rotate_left
      · simp only [Act.put, List.setIfInBounds_toArray, List.set_cons_zero, List.set_cons_succ, i64_w, i32_w]
        rfl
      exact norm_ (by simp only [putAll, Act.put, List.setIfInBounds_toArray, List.set_cons_zero, List.set_cons_succ]) (hCont (A10, c10, A13, c13, gt) _ ⟨HV0.out, HV1.out, BKT.out, BKR.out, HB.out, GT.out, NT.out⟩)
  rintro ⟨A10, c10, A13, c13, gt⟩ w4 ⟨hv0, hv1, hbt, hbr, hbb, hgt, hnt⟩
  dsimp only at hv0 hv1 hbt hbr hbb hgt hnt
  have hz0 : w4.cell? ⟨gt, 0, none⟩ = some (.slice none 0 0) := (blk_cell hbt 0).trans rfl
  have hz1 : w4.cell? ⟨gt, 1, none⟩ = some (.slice none 0 0) := (blk_cell hbt 1).trans rfl
  have hf0 := blk_frozen hbt 0
  have hf1 := blk_frozen hbt 1
  refine norm_ (a' := ?_) ?_ ?_
  rotate_left
  · simp only [putAll, Act.put, List.setIfInBounds_toArray, List.set_cons_zero, List.set_cons_succ]
    rfl
  refine last_ (i := 8) (N := none) #[true, true, true, true, true, true, true, true, true] rfl rfl (by kernel_rfl) (by decide) (fun K hK => ?_)
  refine skip_ (w1 := ?_) (by rfl) rfl ?_ ?_
  rotate_left
  · go_simp
    rfl
  refine hK.out _ _ ?_
  clear hK K
  refine done_ (by kernel_rfl) ?_
  obtain ⟨wt, hwt⟩ : ∃ wt, wt = (w4.setCell ⟨gt, 0, none⟩ (.slice A10 n c10)).setCell ⟨gt, 1, none⟩ (.slice A13 m c13) := ⟨_, rfl⟩
  rw [← hwt]
  have BKT := Aside0.mk (show wt.heap[gt]? = some (.cells #[.slice A10 n c10, .slice A13 m c13] 28 (0, 0)) from by rw [hwt]; exact blk_put (blk_put hbt 0 _ rfl) 1 _ rfl)
  have BKR := Aside0.mk (show wt.heap[gr]? = some (.cells #[.slice none 0 0, .slice none 0 0] 28 (0, 0)) from by rw [hwt]; exact blk_far (blk_far hbr (p := ⟨gt, 0, none⟩) hnt _) (p := ⟨gt, 1, none⟩) hnt _)
  have HV0 : Hid (∃ f, (half f w kB).R 50 wt w.heap.size (fun _ => True) (.slice A10 n c10) (marks l0 0)) := Lib.hid ⟨_, half_start (fun _ => 0) (by rw [hwt]; exact Kd.R_set (Kd.R_set hv0 hbt (E_fixed (by decide)) 0 _) (blk_put hbt 0 _ rfl) (E_fixed (by decide)) 1 _)⟩
  have HV1 := Lib.hid (show (Kd.fixed kW w).R 61 wt w.heap.size (fun _ => True) (.slice A13 m c13) l1 from by rw [hwt]; exact Kd.R_set (Kd.R_set hv1 hbt (E_fixed (by decide)) 0 _) (blk_put hbt 0 _ rfl) (E_fixed (by decide)) 1 _)
  have HB := Aside0.mk (show Below w.heap.size w wt from by rw [hwt]; exact (hbb.setCell (p := ⟨gt, 0, none⟩) hgt _).setCell (p := ⟨gt, 1, none⟩) hgt _)
  have GT := Aside0.mk hgt
  have NT := Aside0.mk hnt
  clear hwt hv0 hv1 hbt hbr hbb hgt hnt hz0 hz1 hf0 hf1
  have hy0 : wt.cell? ⟨gt, 0, none⟩ = some (.slice A10 n c10) := (blk_cell BKT.out 0).trans rfl
  go_wp2_with fail
  go_loopw [18] (fun i wr => ∃ k : Nat, k ≤ n ∧ i = .int .i64 k ∧ Hid (∃ f, (half f w kB).R 50 wr w.heap.size (fun _ => True) (.slice A10 n c10) (marks l0 k)) ∧ Hid ((Kd.fixed kW w).R 61 wr w.heap.size (fun _ => True) (.slice A13 m c13) l1) ∧ Hid (wr.heap[gt]? = some (.cells #[.slice A10 n c10, .slice A13 m c13] 28 (0, 0))) ∧ Hid (wr.heap[gr]? = some (.cells #[.slice none 0 0, .slice none 0 0] 28 (0, 0))) ∧ Hid (Below w.heap.size w wr)) (fun i _ => n - (intOf i).toNat)
  case atStart => exact ⟨0, by omega, rfl, HV0, HV1, Lib.hid BKT.out, Lib.hid BKR.out, Lib.hid HB.out⟩
  case round =>
    clear HV0 HV1 BKT BKR HB hy0
    obtain ⟨k, hk, rfl, HV, HV1, BKT, BKR, HB⟩ := hrel
    by_cases hlt : k < n
    · have hlen : k < l0.length := by rw [← HN.out]; exact hlt
      obtain ⟨f, hR⟩ := HV.out
      obtain ⟨g, co, eo, hgb, hgl, cg, hcg⟩ := Kd.R_form hR (by rw [marks_length]; omega)
      rw [marks_length, ← HN.out] at eo
      injection eo with ea _ ec
      subst ea ec
      obtain ⟨cs, hcl, hK, hcc, hfr⟩ := half_read hR HN.out hlen
      obtain ⟨A1', c1', rfl, hl1, hC1⟩ := hK
      have hc0 : wr.cell? ⟨g, k, none⟩ = some (.slice A1' l0[k].length c1') := by have := hcc 0 _ rfl; rwa [show k * (kB).sz + 0 = k from by show k * 1 + 0 = k; omega] at this
      have hf0 : wr.frozen? ⟨g, k, none⟩ = false := by have := hfr 0; rwa [show k * (kB).sz + 0 = k from by show k * 1 + 0 = k; omega] at this
      have hxk : l0[k].length < 140737488355328 := HX0.out _ (List.getElem_mem hlen)
      have HR2 := Lib.hid hR
      have HK2 := Lib.hid hcc
      have HC2 := Lib.hid hC1
      clear hR hcc hC1 hfr
      go_wp2_with fail
      replace BKT := Aside0.mk (blk_drew BKT.out)
      replace BKR := Aside0.mk (blk_drew BKR.out)
      have HBD := Aside0.mk (below_drew1 HB.out)
      have HBW := Aside0.mk (below_drew (Below.refl wr.heap.size wr))
      refine start_ (n := 7) (S := fun w' => w'.cell? ⟨gt, 0, none⟩ = some (.slice (some ⟨g, 0, none⟩) n c10)) (ds := [6]) #[false, false, false, false, false, false, false] (by kernel_rfl) rfl rfl ((blk_cell BKT.out 0).trans rfl) (fun hHeld => ?_)
      refine pure_ (i := 0) (N := some 23) (v := ?_) (a' := ?_) #[true, false, false, false, false, false, false] rfl rfl (by kernel_rfl) (fun _ _ _ h => h) (Or.inl ⟨by rfl, ?_⟩) ?_ ?_
      rotate_left
      · intro w'
        go_simp
        with_reducible rfl
      rotate_left
      · simp only [Act.put, List.setIfInBounds_toArray, List.set_cons_zero, List.set_cons_succ, i64_w, i32_w]
        rfl
      refine pure_ (i := 2) (N := some 25) (v := ?_) (a' := ?_) #[true, false, true, false, false, false, false] rfl rfl (by kernel_rfl) (fun _ _ _ h => h) (Or.inl ⟨by rfl, ?_⟩) ?_ ?_
      rotate_left
      · intro w'
        go_simp
        with_reducible rfl
      rotate_left
      · simp only [Act.put, List.setIfInBounds_toArray, List.set_cons_zero, List.set_cons_succ, i64_w, i32_w]
        rfl
      refine pure_ (i := 3) (N := some 26) (v := ?_) (a' := ?_) #[true, false, true, true, false, false, false] rfl rfl (by kernel_rfl) (fun _ _ _ h => h) (Or.inl ⟨by rfl, ?_⟩) ?_ ?_
      rotate_left
      · intro w'
        go_simp
        with_reducible rfl
      rotate_left
      · simp only [Act.put, List.setIfInBounds_toArray, List.set_cons_zero, List.set_cons_succ, i64_w, i32_w]
        rfl
      refine take_ (i := 1) (N := some 24) (v := ?_) (a' := ?_) #[true, true, true, true, false, false, false] rfl rfl (by kernel_rfl) (fun _ _ _ h => h) (Or.inl ⟨by rfl, ?_⟩) hHeld ?_ ?_
      rotate_left
      · intro w' s0
        go_simp
        with_reducible rfl
      rotate_left
      · simp only [Act.put, List.setIfInBounds_toArray, List.set_cons_zero, List.set_cons_succ, i64_w, i32_w]
        rfl
      refine one_ (i := 4) (N := some 27) #[true, true, true, true, true, false, false] rfl rfl (by kernel_rfl) (by decide) (fun K hK => ?_)
      refine goes_ Try.func58 (by kernel_rfl) rfl #[.slice A1' l0[k].length c1'] (by rfl) rfl rfl (by (try simp only [List.map_toArray, List.map_cons, List.map_nil]); rfl) ?_
      refine (clone_any A1' c1' l0[k] _ (Kd.C_below HC2.out HBD.out) hxk).mono ?_
      rintro e w2 ⟨v2, rfl, hv2, hb2⟩
      refine ⟨_, rfl, ?_⟩
      replace BKT := Aside0.mk (blk_below BKT.out hb2)
      replace BKR := Aside0.mk (blk_below BKR.out hb2)
      replace HBW := Aside0.mk (HBW.out.trans hb2)
      obtain ⟨A2, c2, eo2⟩ := Kd.R_slice hv2
      subst eo2
      have HV2 := Aside0.mk hv2
      clear hv2 hb2
      refine hK.out _ _ ((blk_cell BKT.out 0).trans rfl) (fun hHeld => ?_)
      clear hK K
      refine norm_ (a' := ?_) ?_ ?_
      rotate_left
      · show Act.put _ (some 27) _ = _
        simp only [Act.put, List.setIfInBounds_toArray, List.set_cons_zero, List.set_cons_succ, i64_w, i32_w]
        rfl
      refine pure_ (i := 5) (N := some 28) (v := ?_) (a' := ?_) #[true, true, true, true, true, true, false] rfl rfl (by kernel_rfl) (fun _ _ _ h => h) (Or.inl ⟨by rfl, ?_⟩) ?_ ?_
      rotate_left
      · intro w'
        go_simp
        with_reducible rfl
      rotate_left
      · simp only [Act.put, List.setIfInBounds_toArray, List.set_cons_zero, List.set_cons_succ, i64_w, i32_w]
        rfl
      refine last_ (i := 6) (N := none) #[true, true, true, true, true, true, true] rfl rfl (by kernel_rfl) (by decide) (fun K hK => ?_)
      have hcw : w2.cell? ⟨g, k, none⟩ = some (.slice A1' l0[k].length c1') := pw_cell_below HBW.out hc0
      have hfw : w2.frozen? ⟨g, k, none⟩ = false := (HBW.out.frozen (p := ⟨g, k, none⟩) (by show g < wr.heap.size; exact hgl)).trans hf0
      refine skip_ (w1 := ?_) (by rfl) rfl ?_ ?_
      rotate_left
      · go_simp
        rfl
      refine hK.out _ _ ?_
      clear hK K
      refine done_ (by kernel_rfl) ?_
      have hcg2 := blk_below hcg HBW.out
      obtain ⟨f', hst, hgr2⟩ := half_step (e := 50) (W2 := w2) HR2.out HN.out hlen HBW.out HB.out.size (c := [.slice A1' l0[k].length c1']) (seg := [.slice A2 l0[k].length c2]) (j := 0) rfl HK2.out (by show 0 + 1 ≤ 1; decide)
        (⟨_, rfl, Kd.R_lower HV2.out (Nat.le_refl _)⟩ : kB.M w2 wr.heap.size (fun _ => True) l0[k] [.slice A2 l0[k].length c2])
      rw [show k * (kB).sz + 0 = k from by show k * 1 + 0 = k; omega] at hst
      have HS := Lib.hid (show (half f' w kB).R 50 (w2.setCell ⟨g, k, none⟩ (.slice A2 l0[k].length c2)) w.heap.size (fun _ => True) (.slice (some ⟨g, 0, none⟩) n c10) (marks l0 (k + 1)) from hst)
      replace HV1 := Lib.hid (Kd.R_set (Kd.R_below HV1.out HBW.out) hcg2 (E_fixed (by decide)) k (.slice A2 l0[k].length c2))
      have hn1 : gt ≠ g := blk_ne BKT.out hcg2 (by decide)
      have hn2 : gr ≠ g := blk_ne BKR.out hcg2 (by decide)
      replace BKT := Lib.hid (blk_far BKT.out (p := ⟨g, k, none⟩) hn1 (.slice A2 l0[k].length c2))
      replace BKR := Lib.hid (blk_far BKR.out (p := ⟨g, k, none⟩) hn2 (.slice A2 l0[k].length c2))
      replace HB := Lib.hid ((HB.out.trans (HBW.out.mono HB.out.size)).setCell (p := ⟨g, k, none⟩) hgb (.slice A2 l0[k].length c2))
      clear hst hgr2 hcg2 hn1 hn2 hcw hfw hHeld HBW HV2 HC2 HK2 HR2 HBD hc0 hf0
      go_wp2_with fail
      go_roundw
      case rel => exact ⟨k + 1, by omega, by go_num, Lib.hid ⟨f', HS.out⟩, HV1, BKT, BKR, HB⟩
      case measure => simp [intOf]; omega
    · obtain rfl : k = n := by omega
      obtain ⟨f, hR⟩ := HV.out
      have hS0 : Kd.S kB 50 wr w.heap.size (fun _ => True) (.slice A10 k c10) l0 := half_done (by rw [← HN.out]; exact hR)
      have hy1 : wr.cell? ⟨gt, 1, none⟩ = some (.slice A13 m c13) := (blk_cell BKT.out 1).trans rfl
      obtain ⟨p, hP0, hP1, hpn⟩ : ∃ p : Nat → Prop, Kd.S kB 50 wr w.heap.size p (.slice A10 k c10) l0 ∧ (∃ f, (half f w kW).R 61 wr w.heap.size (fun k => ¬ p k) (.slice A13 m c13) (marks l1 0)) ∧ ∀ k, wr.heap.size ≤ k → ¬ p k := by
        refine ⟨fun k => ¬ (wr.heap.size ≤ k ∨ some k = (Value.slice A13 m c13).ownBlock), Kd.S_mono (Kd.S_bound hS0) ?_, ⟨_, half_start (fun _ => 0) (Kd.R_mono (Kd.R_tight rfl HV1.out) (fun k hk h => h (.inr hk)))⟩, fun k hk h => h (.inl hk)⟩
        rintro j ⟨_, _, hj, q, hq, cells, hc⟩ (h | h)
        · omega
        · obtain ⟨cells2, hc2⟩ := Kd.R_typed HV1.out j h.symm
          rw [hc] at hc2
          injection hc2 with hc2
          injection hc2 with _ hc2
          have hq' : q ∈ [50, 5] := hq
          rw [hc2] at hq'
          exact absurd hq' (by decide)
      obtain ⟨wm, hwm⟩ : ∃ wm, wm = wr.heap.size := ⟨_, rfl⟩
      rw [← hwm] at hpn
      have HLE := Aside0.mk (Nat.le_of_eq hwm)
      have HP0 := Lib.hid hP0
      have HP1 := Lib.hid hP1
      have HPN := Aside0.mk hpn
      clear HV HV1 hR hS0 hP0 hP1 hpn hlt hk hwm
      go_wp2_with fail
      go_loopw [33] (fun i wq => ∃ j : Nat, j ≤ m ∧ i = .int .i64 j ∧ Hid (Kd.S kB 50 wq w.heap.size p (.slice A10 k c10) l0) ∧ Hid (∃ f, (half f w kW).R 61 wq w.heap.size (fun k => ¬ p k) (.slice A13 m c13) (marks l1 j)) ∧ Hid (wq.heap[gt]? = some (.cells #[.slice A10 k c10, .slice A13 m c13] 28 (0, 0))) ∧ Hid (wq.heap[gr]? = some (.cells #[.slice none 0 0, .slice none 0 0] 28 (0, 0))) ∧ Hid (Below w.heap.size w wq) ∧ wm ≤ wq.heap.size) (fun i _ => m - (intOf i).toNat)
      case atStart => exact ⟨0, by omega, rfl, HP0, HP1, Lib.hid BKT.out, Lib.hid BKR.out, Lib.hid HB.out, HLE.out⟩
      case round =>
        clear HP0 HP1 BKT BKR HB HLE hy1
        obtain ⟨j, hj, rfl, HP0, HV, BKT, BKR, HB, hle⟩ := hrel
        by_cases hlt : j < m
        · have hlen : j < l1.length := by rw [← HM.out]; exact hlt
          obtain ⟨f, hR⟩ := HV.out
          obtain ⟨g, co, eo, hgb, hgl, cg, hcg⟩ := Kd.R_form hR (by rw [marks_length]; omega)
          rw [marks_length, ← HM.out] at eo
          injection eo with ea _ ec
          subst ea ec
          obtain ⟨cs, hcl, hK, hcc, hfr⟩ := half_read hR HM.out hlen
          obtain ⟨A1', c1', rfl, hl1, hC1⟩ := k61_open hK
          have hc0 : wr.cell? ⟨g, j * 2, none⟩ = some (.int .i64 l1[j].f0) := hcc 0 _ rfl
          have hc1 : wr.cell? ⟨g, j * 2 + 1, none⟩ = some (.slice A1' l1[j].f1.length c1') := hcc 1 _ rfl
          have hf1 : wr.frozen? ⟨g, j * 2 + 1, none⟩ = false := hfr 1
          have hxk : l1[j].f1.length < 140737488355328 := HX1.out _ (List.getElem_mem hlen)
          have HR2 := Lib.hid hR
          have HK2 := Lib.hid hcc
          have HC2 := Lib.hid hC1
          clear hR hcc hC1 hfr hK
          go_wp2_with fail
          have HBW := Aside0.mk (below_drew (below_alloc (Below.refl wr.heap.size wr) (.cells #[.int .i64 l1[j].f0, .slice A1' l1[j].f1.length c1'] 61)))
          have HBD := Aside0.mk (HB.out.trans (HBW.out.mono HB.out.size))
          have BKE := Aside0.mk (blk_drew (blk_new wr (.cells #[.int .i64 l1[j].f0, .slice A1' l1[j].f1.length c1'] 61)))
          replace BKT := Aside0.mk (blk_below BKT.out HBW.out)
          replace BKR := Aside0.mk (blk_below BKR.out HBW.out)
          refine start_ (n := 9) (S := fun w' => w'.cell? ⟨gt, 1, none⟩ = some (.slice (some ⟨g, 0, none⟩) m c13) ∧ w'.cell? ⟨wr.heap.size, 1, none⟩ = some (.slice A1' l1[j].f1.length c1')) (ds := [8]) #[false, false, false, false, false, false, false, false, false] (by kernel_rfl) rfl rfl ⟨(blk_cell BKT.out 1).trans rfl, (blk_cell BKE.out 1).trans rfl⟩ (fun hHeld => ?_)
          refine pure_ (i := 0) (N := some 38) (v := ?_) (a' := ?_) #[true, false, false, false, false, false, false, false, false] rfl rfl (by kernel_rfl) (fun _ _ _ h => h) (Or.inl ⟨by rfl, ?_⟩) ?_ ?_
          rotate_left
          · intro w'
            go_simp
            with_reducible rfl
          rotate_left
          · simp only [Act.put, List.setIfInBounds_toArray, List.set_cons_zero, List.set_cons_succ, i64_w, i32_w]
            rfl
          refine pure_ (i := 2) (N := some 40) (v := ?_) (a' := ?_) #[true, false, true, false, false, false, false, false, false] rfl rfl (by kernel_rfl) (fun _ _ _ h => h) (Or.inl ⟨by rfl, ?_⟩) ?_ ?_
          rotate_left
          · intro w'
            go_simp
            with_reducible rfl
          rotate_left
          · simp only [Act.put, List.setIfInBounds_toArray, List.set_cons_zero, List.set_cons_succ, i64_w, i32_w]
            rfl
          refine pure_ (i := 3) (N := some 41) (v := ?_) (a' := ?_) #[true, false, true, true, false, false, false, false, false] rfl rfl (by kernel_rfl) (fun _ _ _ h => h) (Or.inl ⟨by rfl, ?_⟩) ?_ ?_
          rotate_left
          · intro w'
            go_simp
            with_reducible rfl
          rotate_left
          · simp only [Act.put, List.setIfInBounds_toArray, List.set_cons_zero, List.set_cons_succ, i64_w, i32_w]
            rfl
          refine take_ (i := 1) (N := some 39) (v := ?_) (a' := ?_) #[true, true, true, true, false, false, false, false, false] rfl rfl (by kernel_rfl) (fun _ _ _ h => h) (Or.inl ⟨by rfl, ?_⟩) hHeld ?_ ?_
          rotate_left
          · rintro w' ⟨s0, s1⟩
            go_simp
            with_reducible rfl
          rotate_left
          · simp only [Act.put, List.setIfInBounds_toArray, List.set_cons_zero, List.set_cons_succ, i64_w, i32_w]
            rfl
          refine take_ (i := 4) (N := some 42) (v := ?_) (a' := ?_) #[true, true, true, true, true, false, false, false, false] rfl rfl (by kernel_rfl) (fun _ _ _ h => h) (Or.inl ⟨by rfl, ?_⟩) hHeld ?_ ?_
          rotate_left
          · rintro w' ⟨s0, s1⟩
            go_simp
            with_reducible rfl
          rotate_left
          · simp only [Act.put, List.setIfInBounds_toArray, List.set_cons_zero, List.set_cons_succ, i64_w, i32_w]
            rfl
          refine one_ (i := 5) (N := some 43) #[true, true, true, true, true, true, false, false, false] rfl rfl (by kernel_rfl) (by decide) (fun K hK => ?_)
          refine goes_ Try.func58 (by kernel_rfl) rfl #[.slice A1' l1[j].f1.length c1'] (by rfl) rfl rfl (by (try simp only [List.map_toArray, List.map_cons, List.map_nil]); rfl) ?_
          refine (clone_any A1' c1' l1[j].f1 _ (Kd.C_below HC2.out HBD.out) hxk).mono ?_
          rintro e w2 ⟨v2, rfl, hv2, hb2⟩
          refine ⟨_, rfl, ?_⟩
          replace BKT := Aside0.mk (blk_below BKT.out hb2)
          replace BKR := Aside0.mk (blk_below BKR.out hb2)
          replace BKE := Aside0.mk (blk_below BKE.out hb2)
          have hle2 := HBW.out.size
          replace HBW := Aside0.mk (HBW.out.trans (hb2.mono hle2))
          obtain ⟨A2, c2, eo2⟩ := Kd.R_slice hv2
          subst eo2
          have HV2 := Aside0.mk (Kd.R_lower hv2 hle2)
          clear hv2 hb2
          refine hK.out _ _ ⟨(blk_cell BKT.out 1).trans rfl, (blk_cell BKE.out 1).trans rfl⟩ (fun hHeld => ?_)
          clear hK K
          refine norm_ (a' := ?_) ?_ ?_
          rotate_left
          · show Act.put _ (some 43) _ = _
            simp only [Act.put, List.setIfInBounds_toArray, List.set_cons_zero, List.set_cons_succ, i64_w, i32_w]
            rfl
          refine pure_ (i := 6) (N := some 44) (v := ?_) (a' := ?_) #[true, true, true, true, true, true, true, false, false] rfl rfl (by kernel_rfl) (fun _ _ _ h => h) (Or.inl ⟨by rfl, ?_⟩) ?_ ?_
          rotate_left
          · intro w'
            go_simp
            with_reducible rfl
          rotate_left
          · simp only [Act.put, List.setIfInBounds_toArray, List.set_cons_zero, List.set_cons_succ, i64_w, i32_w]
            rfl
          refine pure_ (i := 7) (N := some 45) (v := ?_) (a' := ?_) #[true, true, true, true, true, true, true, true, false] rfl rfl (by kernel_rfl) (fun _ _ _ h => h) (Or.inl ⟨by rfl, ?_⟩) ?_ ?_
          rotate_left
          · intro w'
            go_simp
            with_reducible rfl
          rotate_left
          · simp only [Act.put, List.setIfInBounds_toArray, List.set_cons_zero, List.set_cons_succ, i64_w, i32_w]
            rfl
          refine last_ (i := 8) (N := none) #[true, true, true, true, true, true, true, true, true] rfl rfl (by kernel_rfl) (by decide) (fun K hK => ?_)
          have hcw : w2.cell? ⟨g, j * 2 + 1, none⟩ = some (.slice A1' l1[j].f1.length c1') := pw_cell_below HBW.out hc1
          have hfw : w2.frozen? ⟨g, j * 2 + 1, none⟩ = false := (HBW.out.frozen (p := ⟨g, j * 2 + 1, none⟩) (by show g < wr.heap.size; exact hgl)).trans hf1
          refine skip_ (w1 := ?_) (by rfl) rfl ?_ ?_
          rotate_left
          · go_simp
            rfl
          refine hK.out _ _ ?_
          clear hK K
          refine done_ (by kernel_rfl) ?_
          have hcg2 := blk_below hcg HBW.out
          obtain ⟨f', hst, hgr2⟩ := half_step (e := 61) (W2 := w2) HR2.out HM.out hlen HBW.out HB.out.size (c := [.int .i64 l1[j].f0, .slice A1' l1[j].f1.length c1']) (seg := [.slice A2 l1[j].f1.length c2]) (j := 1) rfl HK2.out (by show 1 + 1 ≤ 2; decide)
            (k61_mkM w2 wr.heap.size (fun k => ¬ p k) l1[j] (Kd.R_mono (Kd.R_bound HV2.out) (fun k hk => HPN.out k (Nat.le_trans hle hk.2.1))))
          have HS := Lib.hid (show (half f' w kW).R 61 (w2.setCell ⟨g, j * 2 + 1, none⟩ (.slice A2 l1[j].f1.length c2)) w.heap.size (fun k => ¬ p k) (.slice (some ⟨g, 0, none⟩) m c13) (marks l1 (j + 1)) from hst)
          replace HP0 := Lib.hid (Kd.S_set (Kd.S_below HP0.out HBW.out) hcg2 (by decide) (j * 2 + 1) (.slice A2 l1[j].f1.length c2))
          have hn1 : gt ≠ g := blk_ne BKT.out hcg2 (by decide)
          have hn2 : gr ≠ g := blk_ne BKR.out hcg2 (by decide)
          replace BKT := Lib.hid (blk_far BKT.out (p := ⟨g, j * 2 + 1, none⟩) hn1 (.slice A2 l1[j].f1.length c2))
          replace BKR := Lib.hid (blk_far BKR.out (p := ⟨g, j * 2 + 1, none⟩) hn2 (.slice A2 l1[j].f1.length c2))
          have hle3 : wm ≤ (w2.setCell ⟨g, j * 2 + 1, none⟩ (.slice A2 l1[j].f1.length c2)).heap.size := by rw [show (w2.setCell ⟨g, j * 2 + 1, none⟩ (.slice A2 l1[j].f1.length c2)).heap.size = w2.heap.size from by simp [World.setCell]]; exact Nat.le_trans hle HBW.out.size
          replace HB := Lib.hid ((HB.out.trans (HBW.out.mono HB.out.size)).setCell (p := ⟨g, j * 2 + 1, none⟩) hgb (.slice A2 l1[j].f1.length c2))
          clear hst hgr2 hcg2 hn1 hn2 hcw hfw hHeld HBW HV2 HC2 HK2 HR2 HBD hc0 hc1 hf1 hle hle2
          go_wp2_with fail
          go_roundw
          case rel => exact ⟨j + 1, by omega, by go_num, HP0, Lib.hid ⟨f', HS.out⟩, BKT, BKR, HB, hle3⟩
          case measure => simp [intOf]; omega
        · obtain rfl : j = m := by omega
          obtain ⟨f, hR⟩ := HV.out
          have hS1 : Kd.S kW 61 wr w.heap.size (fun k => ¬ p k) (.slice A13 j c13) l1 := half_done (by rw [← HM.out]; exact hR)
          have HS1 := Aside0.mk hS1
          clear hR hS1
          have hy0 : wr.cell? ⟨gt, 0, none⟩ = some (.slice A10 k c10) := (blk_cell BKT.out 0).trans rfl
          have hy1 : wr.cell? ⟨gt, 1, none⟩ = some (.slice A13 j c13) := (blk_cell BKT.out 1).trans rfl
          have hr0 : wr.cell? ⟨gr, 0, none⟩ = some (.slice none 0 0) := (blk_cell BKR.out 0).trans rfl
          have hr1 : wr.cell? ⟨gr, 1, none⟩ = some (.slice none 0 0) := (blk_cell BKR.out 1).trans rfl
          have hg0 := blk_frozen BKR.out 0
          have hg1 := blk_frozen BKR.out 1
          go_wp2_with fail
          refine bodyPost_ret (results_cell_row rfl _ _ gr 28 #[.slice A10 k c10, .slice A13 j c13] (0, 0) _ rfl (blk_put (blk_put BKR.out 0 _ rfl) 1 _ rfl) Try.underlying28 rfl (by kernel_rfl)) rfl ?_
          exact ⟨_, _, rfl, ⟨p, Kd.S_set (Kd.S_set HP0.out BKR.out (by decide) 0 _) (blk_put BKR.out 0 _ rfl) (by decide) 1 _, Kd.S_set (Kd.S_set HS1.out BKR.out (by decide) 0 _) (blk_put BKR.out 0 _ rfl) (by decide) 1 _⟩, (HB.out.setCell (p := ⟨gr, 0, none⟩) GR.out _).setCell (p := ⟨gr, 1, none⟩) GR.out _⟩
end Go.Proofs.Ytiiphlfgdkjjiaa.Q
