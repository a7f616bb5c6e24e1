/- raftlog's clone answers the same entries, all in memory of their own; no condition but that they are no more than 2^47 octets. -/
import Derived.Test.YteplhacanofeoaaCln
import Derived.Test.YteplhacanofeoaaHalf
import Derived.LoopTactic
import Derived.Outline
namespace Go.Proofs.Yteplhacanofeoaa.Q
open Go.RowKit Go.Proofs.YteplhacanofeoaaW.PrintWords Go.Proofs.YteplhacanofeoaaW.PrintLast Go.Proofs.YteplhacanofeoaaW.PrintMore

set_option maxHeartbeats 1000000 in
set_option maxRecDepth 100000 in
/-- slices.Clone: the entries as they were, their octets not copied. -/
theorem eclone_any (A0 : Option Addr) (c0 : Nat) (l0 : List S28) (w : World) (hr0 : Kd.C k28 w A0 l0.length l0) (hl : l0.length * 32 ≤ 140737488355328) :
    Calls Try.prog 39 #[.slice A0 l0.length c0] w fun e w' => ∃ v0_ : Value, e = .returned (v0_) ∧ Kd.R (Kd.fixed k28 w) 28 w' w.heap.size (fun _ => True) v0_ l0 ∧ Below w.heap.size w w' := by
  have HR := Lib.hid hr0
  clear hr0
  have he := fun (w : World) (a : Option Addr) (n c n' c' : Nat) => Lib.run_eql_slice_nil (P := Try.prog) w 25 28 a n c n' c' Try.underlying25
  cases A0 with
  | none =>
    have h0 : l0.length = 0 := by
      rcases Nat.eq_zero_or_pos l0.length with h | h
      · exact h
      · obtain ⟨ad, hA, _⟩ := HR.out.2.2 h
        cases hA
    have hnil : l0 = [] := List.length_eq_zero_iff.1 h0
    subst hnil
    go_enter Try.func39, Try.ntmps39
    go_wp2
    go_ret
    exact ⟨_, rfl, Kd.R_nil _ _ _ _ _, Below.refl _ _⟩
  | some ad =>
    go_enter Try.func39, Try.ntmps39
    go_wp2_with (first | ((with_reducible refine gate_dst (N := 5) rfl ?_); refine Kd.R_lit (Kd.fixed k28 w) (w0 := w) w.heap.size 28 ?hg (N := 5) ?hd (xs := ([] : List S28)) (inner := []) (ok := fun _ => True) (okp := fun _ => True) ?hr (Reps.none _ _) (fun _ hk => hk) trivial (Below.refl _ _) (Nat.le_refl _) (by simp) ?_; (case hd => rfl); (case hg => rfl); (case hr => first | (go_simp; done) | (go_simp; rfl)); intro v1 w1 ho hb _ _; have HO := Lib.hid ho; have HB := Lib.hid hb; clear ho hb; obtain ⟨Ao, co, eo⟩ := Kd.R_slice HO.out; subst eo) | (at_builtin; refine Kd.R_append_rows (Kd.fixed k28 w) (Rr := k28.K w) (w0 := w) w.heap.size rfl (.tmp 5) (.tmp 6) 25 28 (.agg #[(.int .i64 0), (.slice none 0 0)]) 32 rfl Try.underlying25 info28 rfl (by show 0 < 2; decide) (by omega) _ ([] : List S28) l0 _ _ _ (fun _ => True) (fun _ => False) rfl rfl HO.out (ReadsRow.imp_ HR.out HB.out (fun _ _ h => h)) (fun _ _ h => h) (fun _ h => h.elim) (fun _ _ => trivial) HB.out HB.out.size (by simp only [List.length_nil]; omega) ?_; intro v2 w2 ho2 hb2 _ _; have HO2 := Lib.hid ho2; have HB2 := Lib.hid hb2; clear ho2 hb2))
    go_ret
    exact ⟨_, rfl, HO2.out, HB2.out⟩

def raftlog_clone.f (l0 : List S28) : Option (List S28) := if l0.length * 32 ≤ 140737488355328 ∧ (l0.all fun x => decide (x.f1.length < 140737488355328)) = true then some l0 else none

set_option maxHeartbeats 2000000 in
set_option maxRecDepth 100000 in
theorem rclone_any (A0 : Option Addr) (c0 : Nat) (l0 : List S28) (w : World) (hr0 : Kd.C k28 w A0 l0.length l0) (hl : l0.length * 32 ≤ 140737488355328) (hx : (l0.all fun x => decide (x.f1.length < 140737488355328)) = true) :
    Calls Try.prog 31 #[.slice A0 l0.length c0] w fun e w' => ∃ v0_ : Value, e = .returned (v0_) ∧ Kd.S k28 28 w' w.heap.size (fun _ => True) v0_ l0 ∧ Below w.heap.size w w' := by
  have HR := Lib.hid hr0
  have HX := Lib.hid hx
  clear hr0 hx
  obtain ⟨n, hn⟩ : ∃ n, n = l0.length := ⟨_, rfl⟩
  have HN := Lib.hid hn
  rw [← hn] at hl ⊢
  clear hn
  go_enter Try.func31, Try.ntmps31
  go_wp2_with fail
  rw [HN.out]
  refine (eclone_any A0 c0 l0 w HR.out (by have := HN.out; omega)).mono ?_
  rintro e w1 ⟨v, rfl, hv, hb⟩
  obtain ⟨A, c, eo⟩ := Kd.R_slice hv
  subst eo
  rw [← HN.out] at hv ⊢
  have HV : Hid (∃ f, (half f w k28).R 28 w1 w.heap.size (fun _ => True) (.slice A n c) (marks l0 0)) := Lib.hid ⟨_, half_start (fun _ => 0) hv⟩
  have HB := Lib.hid hb
  clear hv hb
  go_wp2_with fail
  go_loopw [10] (fun i wr => ∃ k : Nat, k ≤ n ∧ i = .int .i64 k ∧ Hid (∃ f, (half f w k28).R 28 wr w.heap.size (fun _ => True) (.slice A n c) (marks l0 k)) ∧ Hid (Below w.heap.size w wr)) (fun i _ => n - (intOf i).toNat)
  case atStart => exact ⟨0, by omega, rfl, HV, HB⟩
  case round =>
    clear HV HB
    obtain ⟨k, hk, rfl, HV, HB⟩ := hrel
    by_cases hlt : k < n
    · have hlen : k < l0.length := by rw [← HN.out]; exact hlt
      obtain ⟨f, hR⟩ := HV.out
      obtain ⟨g, co, eo, hgb, hgl, _⟩ := Kd.R_form hR (by rw [marks_length]; omega)
      rw [marks_length, ← HN.out] at eo
      injection eo with ea _ ec
      subst ea ec
      obtain ⟨cs, hcl, hK, hcc, hfr⟩ := half_read hR HN.out hlen
      obtain ⟨A1, c1, rfl, hl1, hC1⟩ := k28_open hK
      have hc0 : wr.cell? ⟨g, k * 2, none⟩ = some (.int .i64 l0[k].f0) := hcc 0 _ rfl
      have hc1 : wr.cell? ⟨g, k * 2 + 1, none⟩ = some (.slice A1 l0[k].f1.length c1) := hcc 1 _ rfl
      have hf1 : wr.frozen? ⟨g, k * 2 + 1, none⟩ = false := hfr 1
      have hxk : l0[k].f1.length < 140737488355328 := by
        have := List.all_eq_true.1 HX.out l0[k] (List.getElem_mem hlen)
        simpa using this
      have HR2 := Lib.hid hR
      have HK2 := Lib.hid hcc
      have HC2 := Lib.hid hC1
      clear hR hcc hC1 hK hfr
      go_wp2_with fail
      have hal : Below wr.heap.size wr (wr.alloc (.cells #[.int .i64 l0[k].f0, .slice A1 l0[k].f1.length c1] 28)) := below_alloc (Below.refl _ _) _
      refine (clone_any A1 c1 l0[k].f1 _ (Kd.C_below (Kd.C_below HC2.out HB.out) hal) hxk).mono ?_
      rintro e w2 ⟨v2, rfl, hv2, hb2⟩
      have hbw : Below wr.heap.size wr w2 := hal.trans (hb2.mono (by simp))
      have hcw := pw_cell_below hbw hc1
      have hfw : w2.frozen? ⟨g, k * 2 + 1, none⟩ = false := (hbw.frozen (p := ⟨g, k * 2 + 1, none⟩) (by show g < wr.heap.size; exact hgl)).trans hf1
      obtain ⟨A2, c2, eo2⟩ := Kd.R_slice hv2
      subst eo2
      obtain ⟨f', hst, hgr⟩ := half_step (e := 28) (W2 := w2) HR2.out HN.out hlen hbw HB.out.size (c := [.int .i64 l0[k].f0, .slice A1 l0[k].f1.length c1]) (seg := [.slice A2 l0[k].f1.length c2]) (j := 1) rfl HK2.out (by show 1 + 1 ≤ 2; decide)
        (k28_mkM w2 wr.heap.size (fun _ => True) l0[k] (Kd.R_lower hv2 (by simp)))
      have hB2 := HB.out.trans (hbw.mono HB.out.size)
      have HS := Lib.hid hst
      have HB2 := Lib.hid (hB2.setCell (p := ⟨g, k * 2 + 1, none⟩) hgb (.slice A2 l0[k].f1.length c2))
      clear hc0 hc1 hf1 hst hgr hB2 hbw hal hv2 hb2 HC2 HK2 HR2
      go_wp2_with fail
      go_roundw
      case rel => exact ⟨k + 1, by omega, by go_num, Lib.hid ⟨f', HS.out⟩, HB2⟩
      case measure => simp [intOf]; omega
    · obtain rfl : k = n := by omega
      obtain ⟨f, hR⟩ := HV.out
      rw [HN.out] at hR
      go_wp2_with fail
      go_ret
      exact ⟨_, rfl, by rw [HN.out]; exact half_done hR, HB.out⟩

theorem raftlog_clone.calls (A0 : Option Addr) (c0 : Nat) (l0 : List (S28)) (r : List (S28)) (w : World) (hr0 : Kd.C k28 w A0 l0.length l0) (_hc0 : l0.length ≤ c0) (h : raftlog_clone.f l0 = some r) :
    Calls Try.prog 31 #[.slice A0 l0.length c0] w fun e w' => ∃ v0_ : Value, e = .returned (v0_) ∧ Kd.S k28 28 w' w.heap.size (fun _ => True) v0_ r ∧ Below w.heap.size w w' := by
  unfold raftlog_clone.f at h
  split at h
  · rename_i hh
    obtain rfl := Option.some.inj h
    exact rclone_any A0 c0 l0 w hr0 hh.1 hh.2
  · exact absurd h (by simp)
end Go.Proofs.Yteplhacanofeoaa.Q
