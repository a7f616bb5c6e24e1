/- (*Log).add, at a receiver of the caller's own: what it answers and what becomes of the receiver; no condition. -/
import Derived.Test.YteplhacanofeoaaRlClone
import Derived.Test.YteplhacanofeoaaFull
import Derived.Test.YteplhacanofeoaaQ4
import Derived.Test.YteplhacanofeoaaQ4
namespace Go.Proofs.Yteplhacanofeoaa.Q
open Go.RowKit Go.Proofs.YteplhacanofeoaaW.PrintWords Go.Proofs.YteplhacanofeoaaW.PrintLast Go.Proofs.YteplhacanofeoaaW.PrintMore
set_option linter.unusedVariables false
set_option linter.unusedSimpArgs false

def log_add.f (b bt : Int) (xs : List S28) (t : Int) (d : List Int) : Option (Int × List S28) :=
  (raftlog_Log_end.f b bt xs).bind fun n => (raftlog_Log_term.f b bt xs n).bind fun p =>
    if t < (if p.1 < 1 then 1 else p.1) then some (151, xs) else if t > 1099511627776 then some (151, xs) else if (d.length : Int) > 4096 then some (5, xs) else if (xs.length : Int) ≥ 4096 then some (51, xs) else if n ≥ 1099511627776 then some (51, xs) else some (0, xs ++ [⟨t, d⟩])

attribute [local go_sem] max2_int min2_int max_two min_two

set_option maxHeartbeats 4000000 in
set_option maxRecDepth 100000 in
theorem log_add.calls (b bt t r : Int) (xs xs' : List S28) (d : List Int) (gb base : Nat) (A' : Option Addr) (c' cc : Nat) (A : Option Addr) (c : Nat) (w : World) (hbase : base ≤ gb)
    (hbk : w.heap[gb]? = some (.cells #[.int .i64 b, .int .i64 bt, .slice A' xs.length c'] 30 (0, 0))) (hS : Kd.S k28 28 w base (fun _ => True) (.slice A' xs.length cc) xs) (hcc : c' = cc ∨ (c' = xs.length ∧ ∃ ad, A' = some ad)) (hsz : base ≤ w.heap.size)
    (hd : Kd.C (Kd.int .u8) w A d.length d) (hc : d.length ≤ c) (h : log_add.f b bt xs t d = some (r, xs')) :
    Calls Try.prog 32 #[.pointer (some ⟨gb, 0, none⟩), .agg #[.int .i64 t, .slice A d.length c]] w fun e w' => e = .returned (.int .i64 r) ∧ KeepBut w w' gb (Value.slice A' xs.length cc).ownBlock ∧ Below base w w' ∧
      (r = 0 → ∃ v' : Value, w'.heap[gb]? = some (.cells #[.int .i64 b, .int .i64 bt, v'] 30 (0, 0)) ∧ Kd.S k28 28 w' base (fun _ => True) v' xs') := by
  have hu30 := Try.underlying30
  have HBK := Aside0.mk hbk
  have HS := Aside0.mk hS
  have HD := Aside0.mk hd
  have HC := Aside0.mk hc
  obtain ⟨_, hle, hC'⟩ := Kd.S_reads' hS
  have hcc' : xs.length ≤ c' := by rcases hcc with h | ⟨h, _⟩ <;> omega
  have HCC := Aside0.mk hcc
  have HR := Aside0.mk hC'
  have HRC := Aside0.mk hcc'
  clear hbk hS hd hc hC' hcc' hcc hle
  unfold log_add.f at h
  replace h := Option.bind_eq_some_iff.mp h
  obtain ⟨n, hn, h⟩ := h
  have HN := Aside0.mk hn
  replace h := Option.bind_eq_some_iff.mp h
  obtain ⟨⟨p, p2⟩, hp, h⟩ := h
  have HP := Aside0.mk hp
  clear hn hp
  have H := Aside0.mk h
  clear h
  have hgl : gb < w.heap.size := by
    have hb := HBK.out
    rcases Nat.lt_or_ge gb w.heap.size with h | h
    · exact h
    · rw [Array.getElem?_eq_none h] at hb; cases hb
  go_enter Try.func32, Try.ntmps32
  go_wp2_with (first | ((with_reducible refine gate_dst (N := 3) rfl ?_); refine box_event ?hg (N := 3) ?hd (cs := #[.int .i64 t, .slice A d.length c]) (t := 28) ?hr ?_; (case hd => rfl); (case hg => rfl); (case hr => first | (go_simp; done) | (go_simp; rfl)); intro ge hge w1 hbox hb; have GE := Aside0.mk hge; have hne : ge ≠ gb := (by omega); clear hge))
  have HB := Aside0.mk (below_drew1 hb)
  have BKE := Aside0.mk (blk_drew hbox)
  have BKG := Aside0.mk (blk_drew (blk_below HBK.out hb))
  clear hb hbox
  refine start_ (n := 13) (S := fun w' => w'.cell? ⟨gb, 0, none⟩ = some (.int .i64 b) ∧ w'.cell? ⟨gb, 1, none⟩ = some (.int .i64 bt) ∧ w'.cell? ⟨gb, 2, none⟩ = some (.slice A' xs.length c')) (ds := []) #[false, false, false, false, false, false, false, false, false, false, false, false, false] (by kernel_rfl) rfl rfl ⟨(blk_cell BKG.out 0).trans rfl, (blk_cell BKG.out 1).trans rfl, (blk_cell BKG.out 2).trans rfl⟩ (fun hHeld => ?_)
  refine pure_ (i := 0) (N := some 8) (v := ?_) (a' := ?_) #[true, false, false, false, false, false, false, false, false, false, false, false, false] rfl rfl (by kernel_rfl) (fun _ _ _ h => h) (Or.inl ⟨by rfl, ?_⟩) ?_ ?_
  rotate_left
  · intro w'
    go_simp
    with_reducible rfl
  rotate_left
  · simp only [Act.put, List.setIfInBounds_toArray, List.set_cons_zero, List.set_cons_succ, i64_w, i32_w]
    rfl
  refine pure_ (i := 1) (N := some 9) (v := ?_) (a' := ?_) #[true, true, false, false, false, false, false, false, false, false, false, false, false] rfl rfl (by kernel_rfl) (fun _ _ _ h => h) (Or.inl ⟨by rfl, ?_⟩) ?_ ?_
  rotate_left
  · intro w'
    go_simp
    with_reducible rfl
  rotate_left
  · simp only [Act.put, List.setIfInBounds_toArray, List.set_cons_zero, List.set_cons_succ, i64_w, i32_w]
    rfl
  refine pure_ (i := 3) (N := some 11) (v := ?_) (a' := ?_) #[true, true, false, true, false, false, false, false, false, false, false, false, false] rfl rfl (by kernel_rfl) (fun _ _ _ h => h) (Or.inl ⟨by rfl, ?_⟩) ?_ ?_
  rotate_left
  · intro w'
    go_simp
    with_reducible rfl
  rotate_left
  · simp only [Act.put, List.setIfInBounds_toArray, List.set_cons_zero, List.set_cons_succ, i64_w, i32_w]
    rfl
  refine pure_ (i := 4) (N := some 12) (v := ?_) (a' := ?_) #[true, true, false, true, true, false, false, false, false, false, false, false, false] rfl rfl (by kernel_rfl) (fun _ _ _ h => h) (Or.inl ⟨by rfl, ?_⟩) ?_ ?_
  rotate_left
  · intro w'
    go_simp
    with_reducible rfl
  rotate_left
  · simp only [Act.put, List.setIfInBounds_toArray, List.set_cons_zero, List.set_cons_succ, i64_w, i32_w]
    rfl
  refine take_ (i := 2) (N := some 10) (v := ?_) (a' := ?_) #[true, true, true, true, true, false, false, false, false, false, false, false, false] rfl rfl (by kernel_rfl) (fun _ _ _ h => h) (Or.inl ⟨by rfl, ?_⟩) hHeld ?_ ?_
  rotate_left
  · rintro w' ⟨s0, s1, s2⟩
    go_simp
    with_reducible rfl
  rotate_left
  · simp only [Act.put, List.setIfInBounds_toArray, List.set_cons_zero, List.set_cons_succ, i64_w, i32_w]
    rfl
  refine take_ (i := 5) (N := some 13) (v := ?_) (a' := ?_) #[true, true, true, true, true, true, false, false, false, false, false, false, false] rfl rfl (by kernel_rfl) (fun _ _ _ h => h) (Or.inl ⟨by rfl, ?_⟩) hHeld ?_ ?_
  rotate_left
  · rintro w' ⟨s0, s1, s2⟩
    go_simp
    with_reducible rfl
  rotate_left
  · simp only [Act.put, List.setIfInBounds_toArray, List.set_cons_zero, List.set_cons_succ, i64_w, i32_w]
    rfl
  refine one_ (i := 6) (N := some 14) #[true, true, true, true, true, true, true, false, false, false, false, false, false] rfl rfl (by kernel_rfl) (by decide) (fun K hK => ?_)
  refine goes_ Try.func38 (by kernel_rfl) rfl #[.agg #[.int .i64 b, .int .i64 bt, .slice A' xs.length c']] (by rfl) rfl rfl (by (try simp only [List.map_toArray, List.map_cons, List.map_nil]); rfl) ?_
  refine (raftlog_Log_end.calls b bt A' c' xs n _ (Kd.C_below HR.out HB.out) HRC.out HN.out).mono ?_
  rintro e w2 ⟨rfl, hb⟩
  refine ⟨_, rfl, ?_⟩
  replace BKE := Aside0.mk (blk_below BKE.out hb)
  replace BKG := Aside0.mk (blk_below BKG.out hb)
  replace HB := Aside0.mk (HB.out.trans (hb.mono HB.out.size))
  clear hb
  refine hK.out _ _ ⟨(blk_cell BKG.out 0).trans rfl, (blk_cell BKG.out 1).trans rfl, (blk_cell BKG.out 2).trans rfl⟩ (fun hHeld => ?_)
  clear hK K
  refine norm_ (a' := ?_) ?_ ?_
  rotate_left
  · show Act.put _ (some 14) _ = _
    simp only [Act.put, List.setIfInBounds_toArray, List.set_cons_zero, List.set_cons_succ, i64_w, i32_w]
    rfl
  refine one_ (i := 7) (N := some 15) #[true, true, true, true, true, true, true, true, false, false, false, false, false] rfl rfl (by kernel_rfl) (by decide) (fun K hK => ?_)
  refine goes_ Try.func37 (by kernel_rfl) rfl #[.agg #[.int .i64 b, .int .i64 bt, .slice A' xs.length c'], .int .i64 n] (by rfl) rfl rfl (by (try simp only [List.map_toArray, List.map_cons, List.map_nil]); rfl) ?_
  refine (raftlog_Log_term.calls b bt A' c' xs n p p2 _ (Kd.C_below HR.out HB.out) HRC.out HP.out).mono ?_
  rintro e w3 ⟨rfl, hb⟩
  refine ⟨_, rfl, ?_⟩
  replace BKE := Aside0.mk (blk_below BKE.out hb)
  replace BKG := Aside0.mk (blk_below BKG.out hb)
  replace HB := Aside0.mk (HB.out.trans (hb.mono HB.out.size))
  clear hb
  refine hK.out _ _ ⟨(blk_cell BKG.out 0).trans rfl, (blk_cell BKG.out 1).trans rfl, (blk_cell BKG.out 2).trans rfl⟩ (fun hHeld => ?_)
  clear hK K
  refine norm_ (a' := ?_) ?_ ?_
  rotate_left
  · show Act.put _ (some 15) _ = _
    simp only [Act.put, List.setIfInBounds_toArray, List.set_cons_zero, List.set_cons_succ, i64_w, i32_w]
    rfl
  refine pure_ (i := 8) (N := some 7) (v := ?_) (a' := ?_) #[true, true, true, true, true, true, true, true, true, false, false, false, false] rfl rfl (by kernel_rfl) (fun _ _ _ h => h) (Or.inl ⟨by rfl, ?_⟩) ?_ ?_
  rotate_left
  · intro w'
    go_simp
    with_reducible rfl
  rotate_left
  · simp only [Act.put, List.setIfInBounds_toArray, List.set_cons_zero, List.set_cons_succ, i64_w, i32_w]
    rfl
  refine pure_ (i := 9) (N := some 16) (v := ?_) (a' := ?_) #[true, true, true, true, true, true, true, true, true, true, false, false, false] rfl rfl (by kernel_rfl) (fun _ _ _ h => h) (Or.inl ⟨by rfl, ?_⟩) ?_ ?_
  rotate_left
  · intro w'
    go_simp
    with_reducible rfl
  rotate_left
  · simp only [Act.put, List.setIfInBounds_toArray, List.set_cons_zero, List.set_cons_succ, i64_w, i32_w]
    rfl
  refine pure_ (i := 10) (N := some 17) (v := ?_) (a' := ?_) #[true, true, true, true, true, true, true, true, true, true, true, false, false] rfl rfl (by kernel_rfl) (fun _ _ _ h => h) (Or.inl ⟨by rfl, ?_⟩) ?_ ?_
  rotate_left
  · intro w'
    go_simp
    with_reducible rfl
  rotate_left
  · simp only [Act.put, List.setIfInBounds_toArray, List.set_cons_zero, List.set_cons_succ, i64_w, i32_w]
    rfl
  refine pure_ (i := 11) (N := some 5) (v := ?_) (a' := ?_) #[true, true, true, true, true, true, true, true, true, true, true, true, false] rfl rfl (by kernel_rfl) (fun _ _ _ h => h) (Or.inl ⟨by rfl, ?_⟩) ?_ ?_
  rotate_left
  · intro w'
    go_simp
    with_reducible rfl
  rotate_left
  · simp only [Act.put, List.setIfInBounds_toArray, List.set_cons_zero, List.set_cons_succ, i64_w, i32_w]
    rfl
  refine pure_ (i := 12) (N := some 6) (v := ?_) (a' := ?_) #[true, true, true, true, true, true, true, true, true, true, true, true, true] rfl rfl (by kernel_rfl) (fun _ _ _ h => h) (Or.inl ⟨by rfl, ?_⟩) ?_ ?_
  rotate_left
  · intro w'
    go_simp
    with_reducible rfl
  rotate_left
  · simp only [Act.put, List.setIfInBounds_toArray, List.set_cons_zero, List.set_cons_succ, i64_w, i32_w]
    rfl
  refine done_ (by kernel_rfl) ?_
  have hz0 : w3.cell? ⟨ge, 0, none⟩ = some (.int .i64 t) := (blk_cell BKE.out 0).trans rfl
  have hz1 : w3.cell? ⟨ge, 1, none⟩ = some (.slice A d.length c) := (blk_cell BKE.out 1).trans rfl
  have hz2 : w3.cell? ⟨gb, 2, none⟩ = some (.slice A' xs.length c') := (blk_cell BKG.out 2).trans rfl
  have h := H.out
  clear H
  obtain ⟨m, hji⟩ : ∃ m, (if p < 1 then (1 : Int) else p) = m := ⟨_, rfl⟩
  rw [hji] at h
  by_cases c1 : t < m
  · rw [if_pos c1] at h
    obtain ⟨rfl, rfl⟩ : 151 = r ∧ xs = xs' := by simpa using h
    have c1b := decide_eq_true c1
    go_wp2
    go_ret
    first | exact ⟨rfl, KeepBut.of_below HB.out _ _, HB.out.mono hsz⟩ | exact ⟨rfl, KeepBut.of_below HB.out _ _, HB.out.mono hsz, fun h_ => absurd h_ (by decide)⟩
  rw [if_neg c1] at h
  have c1b := decide_eq_false c1
  by_cases c2 : t > 1099511627776
  · rw [if_pos c2] at h
    obtain ⟨rfl, rfl⟩ : 151 = r ∧ xs = xs' := by simpa using h
    have c2b := decide_eq_true c2
    go_wp2
    go_ret
    first | exact ⟨rfl, KeepBut.of_below HB.out _ _, HB.out.mono hsz⟩ | exact ⟨rfl, KeepBut.of_below HB.out _ _, HB.out.mono hsz, fun h_ => absurd h_ (by decide)⟩
  rw [if_neg c2] at h
  have c2b := decide_eq_false c2
  by_cases c3 : (d.length : Int) > 4096
  · rw [if_pos c3] at h
    obtain ⟨rfl, rfl⟩ : 5 = r ∧ xs = xs' := by simpa using h
    have c3b := decide_eq_true c3
    go_wp2
    go_ret
    first | exact ⟨rfl, KeepBut.of_below HB.out _ _, HB.out.mono hsz⟩ | exact ⟨rfl, KeepBut.of_below HB.out _ _, HB.out.mono hsz, fun h_ => absurd h_ (by decide)⟩
  rw [if_neg c3] at h
  have c3b := decide_eq_false c3
  by_cases c4 : (xs.length : Int) ≥ 4096
  · rw [if_pos c4] at h
    obtain ⟨rfl, rfl⟩ : 51 = r ∧ xs = xs' := by simpa using h
    have c4b := decide_eq_true c4
    go_wp2
    go_ret
    first | exact ⟨rfl, KeepBut.of_below HB.out _ _, HB.out.mono hsz⟩ | exact ⟨rfl, KeepBut.of_below HB.out _ _, HB.out.mono hsz, fun h_ => absurd h_ (by decide)⟩
  rw [if_neg c4] at h
  have c4b := decide_eq_false c4
  go_wp2_with fail
  refine (raftlog_Log_end.calls b bt A' c' xs n _ (Kd.C_below HR.out HB.out) HRC.out HN.out).mono ?_
  rintro e w4 ⟨rfl, hb⟩
  replace BKE := Aside0.mk (blk_below BKE.out hb)
  replace BKG := Aside0.mk (blk_below BKG.out hb)
  replace HB := Aside0.mk (HB.out.trans (hb.mono HB.out.size))
  clear hb hHeld hz0 hz1 hz2
  have hz0 : w4.cell? ⟨ge, 0, none⟩ = some (.int .i64 t) := (blk_cell BKE.out 0).trans rfl
  by_cases c5 : n ≥ 1099511627776
  · rw [if_pos c5] at h
    obtain ⟨rfl, rfl⟩ : 51 = r ∧ xs = xs' := by simpa using h
    have c5b := decide_eq_true c5
    go_wp2
    go_ret
    first | exact ⟨rfl, KeepBut.of_below HB.out _ _, HB.out.mono hsz⟩ | exact ⟨rfl, KeepBut.of_below HB.out _ _, HB.out.mono hsz, fun h_ => absurd h_ (by decide)⟩
  rw [if_neg c5] at h
  have c5b := decide_eq_false c5
  obtain ⟨rfl, rfl⟩ : 0 = r ∧ xs ++ [⟨t, d⟩] = xs' := by simpa using h
  go_wp2_with fail
  clear hz0
  replace BKE := Aside0.mk (blk_drew BKE.out)
  replace BKG := Aside0.mk (blk_drew BKG.out)
  replace HB := Aside0.mk (below_drew1 HB.out)
  refine start_ (n := 16) (S := fun w' => w'.cell? ⟨gb, 2, none⟩ = some (.slice A' xs.length c') ∧ w'.cell? ⟨ge, 0, none⟩ = some (.int .i64 t) ∧ w'.cell? ⟨ge, 1, none⟩ = some (.slice A d.length c)) (ds := [15]) #[false, false, false, false, false, false, false, false, false, false, false, false, false, false, false, false] (by kernel_rfl) rfl rfl ⟨(blk_cell BKG.out 2).trans rfl, (blk_cell BKE.out 0).trans rfl, (blk_cell BKE.out 1).trans rfl⟩ (fun hHeld => ?_)
  refine pure_ (i := 0) (N := some 48) (v := ?_) (a' := ?_) #[true, false, false, false, false, false, false, false, false, false, false, false, false, false, false, false] rfl rfl (by kernel_rfl) (fun _ _ _ h => h) (Or.inl ⟨by rfl, ?_⟩) ?_ ?_
  rotate_left
  · intro w'
    go_simp
    with_reducible rfl
  rotate_left
  · simp only [Act.put, List.setIfInBounds_toArray, List.set_cons_zero, List.set_cons_succ, i64_w, i32_w]
    rfl
  refine pure_ (i := 1) (N := some 49) (v := ?_) (a' := ?_) #[true, true, false, false, false, false, false, false, false, false, false, false, false, false, false, false] rfl rfl (by kernel_rfl) (fun _ _ _ h => h) (Or.inl ⟨by rfl, ?_⟩) ?_ ?_
  rotate_left
  · intro w'
    go_simp
    with_reducible rfl
  rotate_left
  · simp only [Act.put, List.setIfInBounds_toArray, List.set_cons_zero, List.set_cons_succ, i64_w, i32_w]
    rfl
  refine pure_ (i := 2) (N := some 50) (v := ?_) (a' := ?_) #[true, true, true, false, false, false, false, false, false, false, false, false, false, false, false, false] rfl rfl (by kernel_rfl) (fun _ _ _ h => h) (Or.inl ⟨by rfl, ?_⟩) ?_ ?_
  rotate_left
  · intro w'
    go_simp
    with_reducible rfl
  rotate_left
  · simp only [Act.put, List.setIfInBounds_toArray, List.set_cons_zero, List.set_cons_succ, i64_w, i32_w]
    rfl
  refine pure_ (i := 3) (N := some 51) (v := ?_) (a' := ?_) #[true, true, true, true, false, false, false, false, false, false, false, false, false, false, false, false] rfl rfl (by kernel_rfl) (fun _ _ _ h => h) (Or.inl ⟨by rfl, ?_⟩) ?_ ?_
  rotate_left
  · intro w'
    go_simp
    with_reducible rfl
  rotate_left
  · simp only [Act.put, List.setIfInBounds_toArray, List.set_cons_zero, List.set_cons_succ, i64_w, i32_w]
    rfl
  refine pure_ (i := 5) (N := some 53) (v := ?_) (a' := ?_) #[true, true, true, true, false, true, false, false, false, false, false, false, false, false, false, false] rfl rfl (by kernel_rfl) (fun _ _ _ h => h) (Or.inl ⟨by rfl, ?_⟩) ?_ ?_
  rotate_left
  · intro w'
    go_simp
    with_reducible rfl
  rotate_left
  · simp only [Act.put, List.setIfInBounds_toArray, List.set_cons_zero, List.set_cons_succ, i64_w, i32_w]
    rfl
  refine pure_ (i := 7) (N := some 55) (v := ?_) (a' := ?_) #[true, true, true, true, false, true, false, true, false, false, false, false, false, false, false, false] rfl rfl (by kernel_rfl) (fun _ _ _ h => h) (Or.inl ⟨by rfl, ?_⟩) ?_ ?_
  rotate_left
  · intro w'
    go_simp
    with_reducible rfl
  rotate_left
  · simp only [Act.put, List.setIfInBounds_toArray, List.set_cons_zero, List.set_cons_succ, i64_w, i32_w]
    rfl
  refine take_ (i := 4) (N := some 52) (v := ?_) (a' := ?_) #[true, true, true, true, true, true, false, true, false, false, false, false, false, false, false, false] rfl rfl (by kernel_rfl) (fun _ _ _ h => h) (Or.inl ⟨by rfl, ?_⟩) hHeld ?_ ?_
  rotate_left
  · rintro w' ⟨s0, s1, s2⟩
    go_simp
    with_reducible rfl
  rotate_left
  · simp only [Act.put, List.setIfInBounds_toArray, List.set_cons_zero, List.set_cons_succ, i64_w, i32_w]
    rfl
  refine take_ (i := 6) (N := some 54) (v := ?_) (a' := ?_) #[true, true, true, true, true, true, true, true, false, false, false, false, false, false, false, false] rfl rfl (by kernel_rfl) (fun _ _ _ h => h) (Or.inl ⟨by rfl, ?_⟩) hHeld ?_ ?_
  rotate_left
  · rintro w' ⟨s0, s1, s2⟩
    go_simp
    with_reducible rfl
  rotate_left
  · simp only [Act.put, List.setIfInBounds_toArray, List.set_cons_zero, List.set_cons_succ, i64_w, i32_w]
    rfl
  refine take_ (i := 8) (N := some 56) (v := ?_) (a' := ?_) #[true, true, true, true, true, true, true, true, true, false, false, false, false, false, false, false] rfl rfl (by kernel_rfl) (fun _ _ _ h => h) (Or.inl ⟨by rfl, ?_⟩) hHeld ?_ ?_
  rotate_left
  · rintro w' ⟨s0, s1, s2⟩
    go_simp
    with_reducible rfl
  rotate_left
  · simp only [Act.put, List.setIfInBounds_toArray, List.set_cons_zero, List.set_cons_succ, i64_w, i32_w]
    rfl
  refine one_ (i := 9) (N := some 57) #[true, true, true, true, true, true, true, true, true, true, false, false, false, false, false, false] rfl rfl (by kernel_rfl) (by decide) (fun K hK => ?_)
  refine goes_ Try.func40 (by kernel_rfl) rfl #[.slice A d.length c] (by rfl) rfl rfl (by (try simp only [List.map_toArray, List.map_cons, List.map_nil]); rfl) ?_
  refine (bytes_Clone.calls A c d d _ (Kd.C_below HD.out HB.out) HC.out (if_pos (by omega))).mono ?_
  rintro e w5 ⟨v5, rfl, ho, hb⟩
  refine ⟨_, rfl, ?_⟩
  replace BKE := Aside0.mk (blk_below BKE.out hb)
  replace BKG := Aside0.mk (blk_below BKG.out hb)
  have HO := Aside0.mk (Kd.R_lower ho HB.out.size)
  replace HB := Aside0.mk (HB.out.trans (hb.mono HB.out.size))
  clear hb ho
  obtain ⟨Ao, co, eo⟩ := Kd.R_slice HO.out
  subst eo
  refine hK.out _ _ ⟨(blk_cell BKG.out 2).trans rfl, (blk_cell BKE.out 0).trans rfl, (blk_cell BKE.out 1).trans rfl⟩ (fun hHeld => ?_)
  clear hK K
  refine norm_ (a' := ?_) ?_ ?_
  rotate_left
  · show Act.put _ (some 57) _ = _
    simp only [Act.put, List.setIfInBounds_toArray, List.set_cons_zero, List.set_cons_succ, i64_w, i32_w]
    rfl
  refine pure_ (i := 10) (N := some 58) (v := ?_) (a' := ?_) #[true, true, true, true, true, true, true, true, true, true, true, false, false, false, false, false] rfl rfl (by kernel_rfl) (fun _ _ _ h => h) (Or.inl ⟨by rfl, ?_⟩) ?_ ?_
  rotate_left
  · intro w'
    go_simp
    with_reducible rfl
  rotate_left
  · simp only [Act.put, List.setIfInBounds_toArray, List.set_cons_zero, List.set_cons_succ, i64_w, i32_w]
    rfl
  refine one_ (i := 11) (N := some 59) #[true, true, true, true, true, true, true, true, true, true, true, true, false, false, false, false] rfl rfl (by kernel_rfl) (by decide) (fun K hK => ?_)
  refine value_ (w1 := ?_) (v := ?_) (by rfl) rfl ?_ ?_
  rotate_left 2
  · go_simp
    constructor
    · rfl
    · rfl
  refine hK.out _ _ ⟨(blk_cell (blk_alloc BKG.out _) 2).trans rfl, (blk_cell (blk_alloc BKE.out _) 0).trans rfl, (blk_cell (blk_alloc BKE.out _) 1).trans rfl⟩ (fun hHeld => ?_)
  clear hK K
  refine norm_ (a' := ?_) ?_ ?_
  rotate_left
  · show Act.put _ (some 59) _ = _
    simp only [Act.put, List.setIfInBounds_toArray, List.set_cons_zero, List.set_cons_succ, i64_w, i32_w]
    rfl
  refine one_ (i := 12) (N := some 60) #[true, true, true, true, true, true, true, true, true, true, true, true, true, false, false, false] rfl rfl (by kernel_rfl) (by decide) (fun K hK => ?_)
  refine S_append_any_step k28 (w0 := w) base rfl (by rfl) (.tmp 52) (.tmp 59) 25 28 (.agg #[(.int .i64 0), (.slice none 0 0)]) 32 rfl Try.underlying25 info28 rfl (by show 0 < 2; decide) (by omega) A' c' cc xs (⟨t, d⟩ : S28) [.int .i64 t, .slice Ao d.length co] (fun _ => True) (fun k_ => some k_ = (.slice Ao d.length co : Value).ownBlock) rfl rfl HCC.out ?aP ?aK (fun _ _ => trivial) ?aO ?aB ?aS ?aL ?_
  (case aP => exact k28_mkM _ _ _ (⟨t, d⟩ : S28) (Kd.R_lower (Kd.R_mono (Kd.R_tight rfl HO.out) (fun _ h_ => h_)) hsz))
  (case aK => exact fun k hk => ⟨trivial, fun e_ => by have h1 := Kd.R_base HO.out k hk.symm; have h2 := Kd.S_lt HS.out k e_.symm; omega⟩)
  (case aO => exact Kd.S_mono (Kd.S_old HS.out HB.out) (fun k hk => ⟨trivial, fun e_ => by have h1 := Kd.R_base HO.out k e_.symm; have h2 := hk.2; omega⟩))
  (case aB => exact HB.out.mono hsz)
  (case aS => exact Nat.le_trans hsz HB.out.size)
  (case aL => omega)
  intro v6 w6 hs6 hb6 hg6
  have HK := Aside0.mk ((KeepBut.of_below HB.out gb _).trans (KeepBut.of_grown hg6 gb) (.inl rfl))
  replace BKE := Aside0.mk (blk_grown BKE.out hg6 (fun e_ => by have h1 := Kd.S_lt HS.out ge e_.symm; have h2 := GE.out; omega))
  replace BKG := Aside0.mk (blk_grown BKG.out hg6 (Kd.S_ne HS.out HBK.out (by decide)))
  have HS6 := Aside0.mk hs6
  have HB6 := Aside0.mk hb6
  clear hs6 hb6 hg6
  obtain ⟨A6, c6, eo6⟩ := Kd.S_slice HS6.out
  subst eo6
  refine hK.out _ _ ⟨(blk_cell BKG.out 2).trans rfl, (blk_cell BKE.out 0).trans rfl, (blk_cell BKE.out 1).trans rfl⟩ (fun hHeld => ?_)
  clear hK K
  refine norm_ (a' := ?_) ?_ ?_
  rotate_left
  · show Act.put _ (some 60) _ = _
    simp only [Act.put, List.setIfInBounds_toArray, List.set_cons_zero, List.set_cons_succ, i64_w, i32_w]
    rfl
  refine pure_ (i := 13) (N := some 61) (v := ?_) (a' := ?_) #[true, true, true, true, true, true, true, true, true, true, true, true, true, true, false, false] rfl rfl (by kernel_rfl) (fun _ _ _ h => h) (Or.inl ⟨by rfl, ?_⟩) ?_ ?_
  rotate_left
  · intro w'
    go_simp
    with_reducible rfl
  rotate_left
  · simp only [Act.put, List.setIfInBounds_toArray, List.set_cons_zero, List.set_cons_succ, i64_w, i32_w]
    rfl
  refine pure_ (i := 14) (N := some 62) (v := ?_) (a' := ?_) #[true, true, true, true, true, true, true, true, true, true, true, true, true, true, true, false] rfl rfl (by kernel_rfl) (fun _ _ _ h => h) (Or.inl ⟨by rfl, ?_⟩) ?_ ?_
  rotate_left
  · intro w'
    go_simp
    with_reducible rfl
  rotate_left
  · simp only [Act.put, List.setIfInBounds_toArray, List.set_cons_zero, List.set_cons_succ, i64_w, i32_w]
    rfl
  refine last_ (i := 15) (N := none) #[true, true, true, true, true, true, true, true, true, true, true, true, true, true, true, true] rfl rfl (by kernel_rfl) (by decide) (fun K hK => ?_)
  have hs7 : w6.cell? ⟨gb, 2, none⟩ = some (.slice A' xs.length c') := (blk_cell BKG.out 2).trans rfl
  have hf7 := blk_frozen BKG.out 2
  refine skip_ (w1 := ?_) (by rfl) rfl ?_ ?_
  rotate_left
  · go_simp
    rfl
  refine hK.out _ _ ?_
  clear hK K
  refine done_ (by kernel_rfl) ?_
  go_wp2_with fail
  go_ret
  refine ⟨rfl, HK.out.set_ 2 _, HB6.out.setCell (p := ⟨gb, 2, none⟩) hbase _, ⟨_, blk_put BKG.out 2 _ rfl, ?_⟩⟩
  have h_ := Kd.S_set HS6.out BKG.out (by decide) 2 (.slice A6 (xs.length + 1) c6)
  rw [show (xs ++ [(⟨t, d⟩ : S28)]).length = xs.length + 1 from by simp] at h_
  exact h_
end Go.Proofs.Yteplhacanofeoaa.Q
