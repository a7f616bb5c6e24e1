/- Accept: what it answers, all in memory of its own; no condition but that a cut lies inside. -/
import Derived.Test.YteplhacanofeoaaApp
namespace Go.Proofs.Yteplhacanofeoaa.Q
open Go.RowKit Go.Proofs.YteplhacanofeoaaW.PrintWords Go.Proofs.YteplhacanofeoaaW.PrintLast Go.Proofs.YteplhacanofeoaaW.PrintMore
set_option linter.unusedVariables false
set_option linter.unusedSimpArgs false

/-- What becomes of the entries, one behind the other: (what is told, the last number, the entries). -/
def acc_go (b bt : Int) : List S28 → Int → List S28 → Option (Int × Int × List S28)
  | [], p, xs => some (0, p, xs)
  | e :: es, p, xs =>
    (raftlog_Log_term.f b bt xs (wrap64 (p + 1))).bind fun t =>
      if t.2 = true ∧ t.1 = e.f0 then acc_go b bt es (wrap64 (p + 1)) xs
      else if 0 ≤ wrap64 (wrap64 (wrap64 (p + 1) - 1) - b) ∧ wrap64 (wrap64 (wrap64 (p + 1) - 1) - b) ≤ (xs.length : Int) then
        (log_add.f b bt (xs.take (wrap64 (wrap64 (wrap64 (p + 1) - 1) - b)).toNat) e.f0 e.f1).bind fun q => if q.1 = 0 then acc_go b bt es (wrap64 (p + 1)) q.2 else some (q.1, 0, [])
      else none
def acc_rest (b bt : Int) (ys : List S28) (prev pt : Int) (es : List S28) : Option (Int × Int × (List S28) × Int × Int) :=
  (raftlog_Log_term.f b bt ys prev).bind fun t => if t.2 = true then (if t.1 = pt then (acc_go b bt es prev ys).bind fun q => if q.1 = 0 then some (b, bt, q.2.2, q.2.1, 0) else some (0, 0, [], 0, q.1) else some (0, 0, [], 0, 151)) else some (0, 0, [], 0, 152)
def raftlog_Accept.f (k : Nat) (b bt : Int) (xs : List S28) (prev pt : Int) (es : List S28) : Option (Int × Int × (List S28) × Int × Int) :=
  (raftlog_Check.f k b bt xs).bind fun c => if c = 0 then (if prev < 0 then some (0, 0, [], 0, 4) else if prev > 1099511627776 then some (0, 0, [], 0, 4) else
    (raftlog_clone.f xs).bind fun ys => if wrap64 (b - prev) > 0 then (if (es.length : Int) < wrap64 (b - prev) then some (b, bt, ys, wrap64 (prev + (es.length : Int)), 0) else acc_rest b bt ys b bt (es.drop (wrap64 (b - prev)).toNat)) else acc_rest b bt ys prev pt es) else some (0, 0, [], 0, c)
theorem raftlog_Accept.mono : ∀ a0 a1 a2 a3 a4 a5 k, LeO (raftlog_Accept.f k a0 a1 a2 a3 a4 a5) (raftlog_Accept.f (k + 1) a0 a1 a2 a3 a4 a5) := by
  intro a0 a1 a2 a3 a4 a5 k
  unfold raftlog_Accept.f
  exact LeO.bind (raftlog_Check.mono _ _ _ _) (fun _ => LeO.refl _)
theorem cut_hm {P : Program} (t e : TypeId) (kh km : IntKind) {i : TypeInfo} (ht : P.underlying t = some (.slice e)) (hi : P.info? e = some i) (A : Option Addr) (n c : Nat) (j : Int) (h0 : 0 ≤ j) (hm : j ≤ n) (hc : n ≤ c) :
    ∀ W : World, (Instr.slice t (.slice A n c) none (some (.int kh j)) (some (.int km j))).run P W = .ok (.slice A j.toNat j.toNat) W := by
  intro W
  have hel : P.elem t = e := by simp [Program.elem, ht]
  have hu : P.underlying t = some (.slice (P.elem t)) := by rw [hel]; exact ht
  have ha : (A.map fun x => x.add 0) = A := by cases A <;> simp [Addr.add]
  rw [run_slice_hm W t A n c hu kh km j j h0 (Int.le_refl _) (by omega), hel]
  simp [sizeOf, typeInfo, hi, sliced, Result.andThen, ha]
theorem wrap_in {x : Int} (h0 : 0 ≤ x) (h1 : x ≤ 9223372036854775807) : wrap64 x = x := by unfold wrap64; omega
theorem meas {n k : Nat} {x : Int} (h : k < n) (hx : x = ((k + 1 : Nat) : Int)) : n - (intOf (.int .i64 x)).toNat < n - (intOf (.int .i64 (k : Int))).toNat := by
  subst hx
  have h1 : (intOf (.int .i64 ((k + 1 : Nat) : Int))).toNat = k + 1 := Int.toNat_natCast (k + 1)
  have h2 : (intOf (.int .i64 (k : Int))).toNat = k := Int.toNat_natCast k
  rw [h1, h2]
  omega
theorem rd_at {l : List S28} {k : Nat} (h : k < l.length) : rd_T28 l (k : Int) = l[k] := by
  simp [rd_T28, List.getD_eq_getElem?_getD, List.getElem?_eq_getElem h]
theorem S_none {α : Type} {d : Kd α} {e base n c : Nat} {w : World} {ok : Nat → Prop} {xs : List α} (h : Kd.S d e w base ok (.slice none n c) xs) : c = 0 := by
  obtain ⟨inner, ho⟩ := Kd.S_own h
  rcases ho.2 with ⟨he, _⟩ | ⟨g, cap, cur, he, _⟩
  · injection he
  · injection he with he _ _
    cases he

set_option maxHeartbeats 8000000 in
set_option maxRecDepth 100000 in
theorem raftlog_Accept.calls (k : Nat) (b : Int) (bt : Int) (A0 : Option Addr) (c0 : Nat) (l0 : List (S28)) (prev pt : Int) (A3 : Option Addr) (c3 : Nat) (es : List (S28)) (r1 : Int) (r2 : Int) (r3 : List (S28)) (r4 r5 : Int) (w : World) (hr0 : Kd.C k28 w A0 l0.length l0) (hc0 : l0.length ≤ c0) (hr3 : Kd.C k28 w A3 es.length es) (hc3 : es.length ≤ c3) (h : raftlog_Accept.f k b bt l0 prev pt es = some (r1, r2, r3, r4, r5)) :
    Calls Try.prog 23 #[.agg #[.int .i64 b, .int .i64 bt, .slice A0 l0.length c0], .int .i64 prev, .int .i64 pt, .slice A3 es.length c3] w fun e w' => ∃ v2_ : Value, e = .returned (.tuple #[.agg #[.int .i64 r1, .int .i64 r2, v2_], .int .i64 r4, .int .i64 r5]) ∧ Kd.S k28 28 w' w.heap.size (fun _ => True) v2_ r3 ∧ Below w.heap.size w w' := by
  have hu30 := Try.underlying30
  have hu28 := Try.underlying28
  have HR0 := Aside0.mk hr0
  have HC0 := Aside0.mk hc0
  have HR3 := Aside0.mk hr3
  have HC3 := Aside0.mk hc3
  clear hr0 hc0 hr3 hc3
  unfold raftlog_Accept.f at h
  replace h := Option.bind_eq_some_iff.mp h
  obtain ⟨t0, ht0, h⟩ := h
  have HT0 := Aside0.mk ht0
  have H' := Aside0.mk h
  clear ht0 h
  go_enter Try.func23, Try.ntmps23
  go_wp2_with (first
    | ((with_reducible refine gate_dst (N := 4) rfl ?_); refine box_event ?hg (N := 4) ?hd (cs := #[.int .i64 b, .int .i64 bt, .slice A0 l0.length c0]) (t := 30) ?hr ?_; (case hd => rfl); (case hg => rfl); (case hr => first | (go_simp; done) | (go_simp; rfl)); intro gl hgl w1 hbox hb; have HB := Aside0.mk hb; have BKL := Aside0.mk hbox; have GL := Aside0.mk hgl; clear hb hbox hgl)
    | ((with_reducible refine gate_dst (N := 8) rfl ?_); refine box_event ?hg (N := 8) ?hd (cs := #[.int .i64 0, .int .i64 0, .slice none 0 0]) (t := 30) ?hr ?_; (case hd => rfl); (case hg => rfl); (case hr => first | (go_simp; done) | (go_simp; rfl)); intro gr hgr w3 hbox hb; have GR := Aside0.mk (by have := HB.out.size; omega : w.heap.size ≤ gr); have NLR := Aside0.mk (by have := blk_lt BKL.out; omega : gl ≠ gr); replace BKL := Aside0.mk (blk_below BKL.out hb); replace HB := Aside0.mk (below_step HB.out hb); have BKR := Aside0.mk hbox; clear hb hbox hgr; have hz0 := (blk_cell BKL.out 0).trans rfl; have hz1 := (blk_cell BKL.out 1).trans rfl; have hz2 := (blk_cell BKL.out 2).trans rfl))
  refine (raftlog_Check.calls k b bt _ _ l0 t0 _ (Kd.C_below HR0.out HB.out) HC0.out HT0.out).mono ?_
  rintro e w4 ⟨rfl, hb⟩
  clear hz0 hz1 hz2
  replace BKL := Aside0.mk (blk_below BKL.out hb)
  replace BKR := Aside0.mk (blk_below BKR.out hb)
  replace HB := Aside0.mk (below_step HB.out hb)
  clear hb
  have hr0 : w4.cell? ⟨gr, 0, none⟩ = some (.int .i64 0) := (blk_cell BKR.out 0).trans rfl
  have hr1 : w4.cell? ⟨gr, 1, none⟩ = some (.int .i64 0) := (blk_cell BKR.out 1).trans rfl
  have hr2 : w4.cell? ⟨gr, 2, none⟩ = some (.slice none 0 0) := (blk_cell BKR.out 2).trans rfl
  have hf0 := blk_frozen BKR.out 0
  have hf1 := blk_frozen BKR.out 1
  have hf2 := blk_frozen BKR.out 2
  have H := H'.out
  clear H'
  by_cases c1 : t0 = 0
  · rw [if_pos c1] at H
    have c1b : (t0 != 0) = false := by simp [c1]
    clear c1
    by_cases c2 : prev < 0
    · rw [if_pos c2] at H
      have c2b := decide_eq_true c2
      obtain ⟨rfl, rfl, rfl, rfl, rfl⟩ : 0 = r1 ∧ 0 = r2 ∧ [] = r3 ∧ 0 = r4 ∧ 4 = r5 := by simpa using H
      go_wp2_with fail
      refine bodyPost_ret (results_ctt rfl _ _ gr 30 #[.int .i64 0, .int .i64 0, .slice none 0 0] (0, 0) _ rfl (put3 BKR.out) Try.underlying30 rfl (by kernel_rfl)) rfl ?_
      exact ⟨_, rfl, Kd.S_nil _ _ _ _ _, below3 HB.out GR.out _ _ _⟩
    rw [if_neg c2] at H
    have c2b := decide_eq_false c2
    clear c2
    by_cases c3 : prev > 1099511627776
    · rw [if_pos c3] at H
      have c3b := decide_eq_true c3
      obtain ⟨rfl, rfl, rfl, rfl, rfl⟩ : 0 = r1 ∧ 0 = r2 ∧ [] = r3 ∧ 0 = r4 ∧ 4 = r5 := by simpa using H
      go_wp2_with fail
      refine bodyPost_ret (results_ctt rfl _ _ gr 30 #[.int .i64 0, .int .i64 0, .slice none 0 0] (0, 0) _ rfl (put3 BKR.out) Try.underlying30 rfl (by kernel_rfl)) rfl ?_
      exact ⟨_, rfl, Kd.S_nil _ _ _ _ _, below3 HB.out GR.out _ _ _⟩
    rw [if_neg c3] at H
    have c3b := decide_eq_false c3
    clear c3
    replace H := Option.bind_eq_some_iff.mp H
    obtain ⟨ys, hys, H⟩ := H
    have HY := Aside0.mk hys
    have H' := Aside0.mk H
    clear hys H hr0 hr1 hr2 hf0 hf1 hf2
    have hz2 : w4.cell? ⟨gl, 2, none⟩ = some (.slice A0 l0.length c0) := (blk_cell BKL.out 2).trans rfl
    go_wp2_with fail
    refine (raftlog_clone.calls _ _ l0 ys _ (Kd.C_below HR0.out HB.out) HC0.out HY.out).mono ?_
    rintro e w4' ⟨v5, rfl, hs, hb⟩
    obtain ⟨A5, c5, eo⟩ := Kd.S_slice hs
    subst eo
    have hgl : w.heap.size ≤ gl := by rw [GL.out]; exact Nat.le_refl _
    have HGL := Aside0.mk hgl
    replace BKL := Aside0.mk (blk_below BKL.out hb)
    have HS := Aside0.mk (Kd.S_mono (Kd.S_set (Kd.S_lower hs HB.out.size) BKL.out (by decide) 2 (.slice A5 ys.length c5)) (fun _ _ => trivial))
    have BKR4 := Aside0.mk (blk_below BKR.out hb)
    replace BKR := Aside0.mk (blk_far (blk_below BKR.out hb) (p := ⟨gl, 2, none⟩) NLR.out.symm (.slice A5 ys.length c5))
    replace HB := Aside0.mk ((below_step HB.out hb).setCell (p := ⟨gl, 2, none⟩) hgl (.slice A5 ys.length c5))
    clear hs hz2 hb hgl
    have hz2 : w4'.cell? ⟨gl, 2, none⟩ = some (.slice A0 l0.length c0) := (blk_cell BKL.out 2).trans rfl
    have hf2 := blk_frozen BKL.out 2
    have hz0 : w4'.cell? ⟨gl, 0, none⟩ = some (.int .i64 b) := (blk_cell BKL.out 0).trans rfl
    have hz1 : w4'.cell? ⟨gl, 1, none⟩ = some (.int .i64 bt) := (blk_cell BKL.out 1).trans rfl
    replace BKL := Aside0.mk (blk_put BKL.out 2 (.slice A5 ys.length c5) rfl)
    have H := H'.out
    clear H'
    by_cases c4 : wrap64 (b - prev) > 0
    · rw [if_pos c4] at H
      have c4b := decide_eq_true c4
      have c4c := c4
      clear c4
      by_cases c5' : (es.length : Int) < wrap64 (b - prev)
      · rw [if_pos c5'] at H
        have c5b := decide_eq_true c5'
        obtain ⟨rfl, rfl, rfl, rfl, rfl⟩ : b = r1 ∧ bt = r2 ∧ ys = r3 ∧ wrap64 (prev + (es.length : Int)) = r4 ∧ 0 = r5 := by simpa using H
        have hr0 : w4'.cell? ⟨gr, 0, none⟩ = some (.int .i64 0) := (blk_cell BKR4.out 0).trans rfl
        have hr1 : w4'.cell? ⟨gr, 1, none⟩ = some (.int .i64 0) := (blk_cell BKR4.out 1).trans rfl
        have hr2 : w4'.cell? ⟨gr, 2, none⟩ = some (.slice none 0 0) := (blk_cell BKR4.out 2).trans rfl
        have hg0 := blk_frozen BKR4.out 0
        have hg1 := blk_frozen BKR4.out 1
        have hg2 := blk_frozen BKR4.out 2
        have hn1 := NLR.out
        have hn2 := NLR.out.symm
        go_wp2_with fail
        refine bodyPost_ret (results_ctt rfl _ _ gr 30 #[.int .i64 b, .int .i64 bt, .slice A5 ys.length c5] (0, 0) _ rfl (put3 BKR.out) Try.underlying30 rfl (by kernel_rfl)) rfl ?_
        exact ⟨_, rfl, S_set3 HS.out BKR.out (by decide) _ _ _, below3 HB.out GR.out _ _ _⟩
      · rw [if_neg c5'] at H
        have c5b := decide_eq_false c5'
        have hm : (wrap64 (b - prev)).toNat ≤ es.length := by omega
        obtain ⟨i0, hi0, _, hsz0, _⟩ := info_parts info28
        have hcut := cut_from (P := Try.prog) 25 28 .i64 Try.underlying25 hi0 2 hsz0 A3 es.length c3 (wrap64 (b - prev)) (by omega) (by omega)
        have hC3 := Kd.C_drop (m := (wrap64 (b - prev)).toNat) (c := c3) HR3.out hm HC3.out
        have hl3 : (es.drop (wrap64 (b - prev)).toNat).length = es.length - (wrap64 (b - prev)).toNat := List.length_drop
        have hc3 : (es.drop (wrap64 (b - prev)).toNat).length ≤ c3 - (wrap64 (b - prev)).toNat := by have := HC3.out; omega
        rw [← hl3] at hcut
        obtain ⟨es2, hes2⟩ : ∃ e2, e2 = es.drop (wrap64 (b - prev)).toNat := ⟨_, rfl⟩
        obtain ⟨A4, hA4⟩ : ∃ A4, A4 = (if c3 = (wrap64 (b - prev)).toNat then A3 else A3.map (·.add ((wrap64 (b - prev)).toNat * 2))) := ⟨_, rfl⟩
        obtain ⟨c4, hc4⟩ : ∃ c4, c4 = c3 - (wrap64 (b - prev)).toNat := ⟨_, rfl⟩
        rw [← hes2, ← hA4, ← hc4] at hcut
        rw [← hes2] at H
        replace hC3 : Kd.C k28 w A4 es2.length es2 := by rw [hes2, hA4]; exact hC3
        rw [← hes2, ← hc4] at hc3
        clear hl3 hes2 hA4 hc4 hsz0 hi0 hm
        clear HR3 HC3
        have HR3 := Aside0.mk hC3
        have HC3 := Aside0.mk hc3
        clear hC3 hc3 c4c c5'
        go_wp2_with fail
        replace BKL := Aside0.mk (blk_drew BKL.out)
        replace BKR := Aside0.mk (blk_drew BKR.out)
        replace HS := Aside0.mk (Kd.S_drew HS.out)
        replace HB := Aside0.mk (below_drew1 HB.out)
        clear hz0 hz1 hz2 hf2
        refine start_ (n := 10) (S := fun w' => w'.cell? ⟨gl, 0, none⟩ = some (.int .i64 b) ∧ w'.cell? ⟨gl, 1, none⟩ = some (.int .i64 bt)) (ds := []) #[false, false, false, false, false, false, false, false, false, false] (by kernel_rfl) rfl rfl ⟨(blk_cell BKL.out 0).trans rfl, (blk_cell BKL.out 1).trans rfl⟩ (fun hHeld => ?_)
        refine pure_ (i := 0) (N := some 53) (v := ?_) (a' := ?_) #[true, false, false, false, false, false, false, false, false, false] rfl rfl (by kernel_rfl) (fun _ _ _ h => h) (Or.inl ⟨by rfl, ?_⟩) ?_ ?_
        rotate_left
        · intro w'
          go_simp
          with_reducible rfl
        rotate_left
        · simp only [Act.put, List.setIfInBounds_toArray, List.set_cons_zero, List.set_cons_succ, i64_w, i32_w]
          rfl
        refine pure_ (i := 2) (N := some 55) (v := ?_) (a' := ?_) #[true, false, true, false, false, false, false, false, false, false] rfl rfl (by kernel_rfl) (fun _ _ _ h => h) (Or.inl ⟨by rfl, ?_⟩) ?_ ?_
        rotate_left
        · intro w'
          go_simp
          with_reducible rfl
        rotate_left
        · simp only [Act.put, List.setIfInBounds_toArray, List.set_cons_zero, List.set_cons_succ, i64_w, i32_w]
          rfl
        refine pure_ (i := 4) (N := some 57) (v := ?_) (a' := ?_) #[true, false, true, false, true, false, false, false, false, false] rfl rfl (by kernel_rfl) (fun _ _ _ h => h) (Or.inl ⟨by rfl, ?_⟩) ?_ ?_
        rotate_left
        · intro w'
          go_simp
          with_reducible rfl
        rotate_left
        · simp only [Act.put, List.setIfInBounds_toArray, List.set_cons_zero, List.set_cons_succ, i64_w, i32_w]
          rfl
        refine pure_ (i := 5) (N := some 58) (v := ?_) (a' := ?_) #[true, false, true, false, true, true, false, false, false, false] rfl rfl (by kernel_rfl) (fun _ _ _ h => h) (Or.inl ⟨by rfl, ?_⟩) ?_ ?_
        rotate_left
        · intro w'
          go_simp
          with_reducible rfl
        rotate_left
        · simp only [Act.put, List.setIfInBounds_toArray, List.set_cons_zero, List.set_cons_succ, i64_w, i32_w]
          rfl
        refine pure_ (i := 6) (N := some 59) (v := ?_) (a' := ?_) #[true, false, true, false, true, true, true, false, false, false] rfl rfl (by kernel_rfl) (fun _ _ _ h => h) (Or.inl ⟨by rfl, ?_⟩) ?_ ?_
        rotate_left
        · intro w'
          go_simp
          with_reducible rfl
        rotate_left
        · simp only [Act.put, List.setIfInBounds_toArray, List.set_cons_zero, List.set_cons_succ, i64_w, i32_w]
          rfl
        refine take_ (i := 1) (N := some 54) (v := ?_) (a' := ?_) #[true, true, true, false, true, true, true, false, false, false] rfl rfl (by kernel_rfl) (fun _ _ _ h => h) (Or.inl ⟨by rfl, ?_⟩) hHeld ?_ ?_
        rotate_left
        · rintro w' ⟨s0, s1⟩
          go_simp
          with_reducible rfl
        rotate_left
        · simp only [Act.put, List.setIfInBounds_toArray, List.set_cons_zero, List.set_cons_succ, i64_w, i32_w]
          rfl
        refine pure_ (i := 7) (N := some 1) (v := ?_) (a' := ?_) #[true, true, true, false, true, true, true, true, false, false] rfl rfl (by kernel_rfl) (fun _ _ _ h => h) (Or.inl ⟨by rfl, ?_⟩) ?_ ?_
        rotate_left
        · intro w'
          go_simp
          with_reducible rfl
        rotate_left
        · simp only [Act.put, List.setIfInBounds_toArray, List.set_cons_zero, List.set_cons_succ, i64_w, i32_w]
          rfl
        refine take_ (i := 3) (N := some 56) (v := ?_) (a' := ?_) #[true, true, true, true, true, true, true, true, false, false] rfl rfl (by kernel_rfl) (fun _ _ _ h => h) (Or.inl ⟨by rfl, ?_⟩) hHeld ?_ ?_
        rotate_left
        · rintro w' ⟨s0, s1⟩
          go_simp
          with_reducible rfl
        rotate_left
        · simp only [Act.put, List.setIfInBounds_toArray, List.set_cons_zero, List.set_cons_succ, i64_w, i32_w]
          rfl
        refine pure_ (i := 8) (N := some 2) (v := ?_) (a' := ?_) #[true, true, true, true, true, true, true, true, true, false] rfl rfl (by kernel_rfl) (fun _ _ _ h => h) (Or.inl ⟨by rfl, ?_⟩) ?_ ?_
        rotate_left
        · intro w'
          go_simp
          with_reducible rfl
        rotate_left
        · simp only [Act.put, List.setIfInBounds_toArray, List.set_cons_zero, List.set_cons_succ, i64_w, i32_w]
          rfl
        refine pure_ (i := 9) (N := some 3) (v := ?_) (a' := ?_) #[true, true, true, true, true, true, true, true, true, true] rfl rfl (by kernel_rfl) (fun _ _ _ h => h) (Or.inl ⟨by rfl, ?_⟩) ?_ ?_
        rotate_left
        · intro w'
          go_simp
          with_reducible rfl
        rotate_left
        · simp only [Act.put, List.setIfInBounds_toArray, List.set_cons_zero, List.set_cons_succ, i64_w, i32_w]
          rfl
        refine done_ (by kernel_rfl) ?_
        obtain ⟨wd, hwd⟩ : ∃ wd, wd = (w4'.setCell ⟨gl, 2, none⟩ (.slice A5 ys.length c5)).drew := ⟨_, rfl⟩
        rw [← hwd] at BKL BKR HS HB ⊢
        clear hwd
        have hz0 : wd.cell? ⟨gl, 0, none⟩ = some (.int .i64 b) := (blk_cell BKL.out 0).trans rfl
        have hz1 : wd.cell? ⟨gl, 1, none⟩ = some (.int .i64 bt) := (blk_cell BKL.out 1).trans rfl
        have hz2 : wd.cell? ⟨gl, 2, none⟩ = some (.slice A5 ys.length c5) := (blk_cell BKL.out 2).trans rfl
        have hf2 := blk_frozen BKL.out 2
        unfold acc_rest at H
        replace H := Option.bind_eq_some_iff.mp H
        obtain ⟨⟨q, q2⟩, hq, H⟩ := H
        have HQ := Aside0.mk hq
        have H' := Aside0.mk H
        clear hq H
        go_wp2_with fail
        obtain ⟨_, hle5, hC5⟩ := Kd.S_reads' HS.out
        refine (raftlog_Log_term.calls b bt A5 c5 ys b q q2 _ hC5 hle5 HQ.out).mono ?_
        rintro e w6 ⟨rfl, hb⟩
        clear hz0 hz1 hz2 hf2 hle5 hC5
        replace BKL := Aside0.mk (blk_below BKL.out hb)
        replace BKR := Aside0.mk (blk_below BKR.out hb)
        replace HS := Aside0.mk (Kd.S_below HS.out hb)
        replace HB := Aside0.mk (below_step HB.out hb)
        clear hb
        have hr0 : w6.cell? ⟨gr, 0, none⟩ = some (.int .i64 0) := (blk_cell BKR.out 0).trans rfl
        have hr1 : w6.cell? ⟨gr, 1, none⟩ = some (.int .i64 0) := (blk_cell BKR.out 1).trans rfl
        have hr2 : w6.cell? ⟨gr, 2, none⟩ = some (.slice none 0 0) := (blk_cell BKR.out 2).trans rfl
        have hf0 := blk_frozen BKR.out 0
        have hf1 := blk_frozen BKR.out 1
        have hf2 := blk_frozen BKR.out 2
        have H := H'.out
        clear H'
        cases q2 with
        | false =>
          rw [if_neg (by decide)] at H
          obtain ⟨rfl, rfl, rfl, rfl, rfl⟩ : 0 = r1 ∧ 0 = r2 ∧ [] = r3 ∧ 0 = r4 ∧ 152 = r5 := by simpa using H
          go_wp2_with fail
          refine bodyPost_ret (results_ctt rfl _ _ gr 30 #[.int .i64 0, .int .i64 0, .slice none 0 0] (0, 0) _ rfl (put3 BKR.out) Try.underlying30 rfl (by kernel_rfl)) rfl ?_
          exact ⟨_, rfl, Kd.S_nil _ _ _ _ _, below3 HB.out GR.out _ _ _⟩
        | true =>
          rw [if_pos rfl] at H
          by_cases d1 : q = bt
          · rw [if_pos d1] at H
            have d1b : (q != bt) = false := by simp [d1]
            clear d1
            replace H := Option.bind_eq_some_iff.mp H
            obtain ⟨⟨x, x2, x3⟩, hx, H⟩ := H
            have HX : Aside0 (∃ pk cur, acc_go b bt (es2.drop 0) b ys = some (x, x2, x3) ∧ pk = b ∧ cur = ys) := Aside0.mk ⟨_, _, by rw [List.drop_zero]; exact hx, rfl, rfl⟩
            have H' := Aside0.mk H
            clear hx H hr0 hr1 hr2 hf0 hf1 hf2
            obtain ⟨n, hn⟩ : ∃ n, n = es2.length := ⟨_, rfl⟩
            have HN := Aside0.mk hn
            rw [← hn]
            clear hn
            go_wp2_with fail
            go_loopw [1, 75] (fun p i wr => ∃ (k : Nat) (pk : Int) (cur : List S28) (A : Option Addr) (c cc : Nat), k ≤ n ∧ p = .int .i64 pk ∧ i = .int .i64 k ∧ Aside0 (acc_go b bt (es2.drop k) pk cur = some (x, x2, x3)) ∧
              Aside0 (wr.heap[gl]? = some (.cells #[.int .i64 b, .int .i64 bt, .slice A cur.length c] 30 (0, 0))) ∧ Aside0 (wr.heap[gr]? = some (.cells #[.int .i64 0, .int .i64 0, .slice none 0 0] 30 (0, 0))) ∧
              Aside0 (Kd.S k28 28 wr w.heap.size (fun _ => True) (.slice A cur.length cc) cur) ∧ Aside0 (c = cc) ∧ Aside0 (Below w.heap.size w wr)) (fun _ i _ => n - (intOf i).toNat)
            case atStart => exact ⟨0, b, ys, A5, c5, c5, by omega, rfl, rfl, (by obtain ⟨_, _, h_, _⟩ := HX.out; exact ⟨h_⟩), BKL, BKR, HS, ⟨rfl⟩, HB⟩
            case round =>
              clear HX BKL BKR HS HB HQ
              obtain ⟨k, pk, cur, A, c, cc, hk, rfl, rfl, HX, BKL, BKR, HS, HCC, HB⟩ := hrel
              obtain rfl := HCC.out
              clear HCC
              by_cases hlt : k < n
              · have HLT := Aside0.mk hlt
                have hlen : k < es2.length := by rw [← HN.out]; exact hlt
                have HWK : Aside0 (wrap64 ((k : Int) + 1) = ((k + 1 : Nat) : Int)) := ⟨wrap_in (by omega) (by have h1 := HR3.out.2.1; omega)⟩
                have hp0 : (0 : Int) ≤ (k : Int) := by omega
                have hp1 : (k : Int) < (es2.length : Int) := by omega
                have hrd : rd_T28 es2 (k : Int) = es2[k] := rd_at hlen
                obtain ⟨ad, B1, cb, ead, hx0, hx1, hlb, hCb⟩ := at_T28 HR3.out (k : Int) hp0 hp1
                rw [hrd] at hx0 hx1 hlb hCb
                simp only [Int.toNat_natCast] at hx0 hx1
                clear hrd
                have HX2 := HX.out
                rw [List.drop_eq_getElem_cons hlen] at HX2
                unfold acc_go at HX2
                obtain ⟨en, hen⟩ : ∃ en, en = es2[k] := ⟨_, rfl⟩
                rw [← hen] at HX2 hx0 hx1 hlb hCb
                have hx0' := (HB.out.cell (World.block_lt_of_cell? w _ hx0)).trans hx0
                have hx1' := (HB.out.cell (World.block_lt_of_cell? w _ hx1)).trans hx1
                obtain ⟨⟨s, s2⟩, hs, HX2⟩ := Option.bind_eq_some_iff.mp HX2
                have HT := Aside0.mk hs
                have HX3 := Aside0.mk HX2
                have HLE := Aside0.mk hlb
                have HCE := Aside0.mk hCb
                have HEN := Aside0.mk hen
                clear hs HX2 hlb hCb hx0 hx1 hen
                cases ead
                replace hp0 := eq_true hp0
                replace hp1 := eq_true hp1
                have hkn : decide ((k : Int) < (n : Int)) = true := decide_eq_true (by omega)
                go_wp2_with (first
                  | ((with_reducible refine gate_dst (N := 16) rfl ?_); refine box_event ?hg (N := 16) ?hd (cs := #[.int .i64 0, .slice none 0 0]) (t := 28) ?hr ?_; (case hd => rfl); (case hg => rfl); (case hr => first | (go_simp; done) | (go_simp; rfl)); intro ge hge w7 hbox hb; have GE := Aside0.mk (by have := HB.out.size; omega : w.heap.size ≤ ge); have NLE := Aside0.mk (by have := blk_lt BKL.out; omega : gl ≠ ge); have NRE := Aside0.mk (by have := blk_lt BKR.out; omega : gr ≠ ge); replace BKL := Aside0.mk (blk_below BKL.out hb); replace BKR := Aside0.mk (blk_below BKR.out hb); have HSE := Aside0.mk (Kd.S_below (Kd.S_elderB HS.out ge (by omega)) hb); replace HB := Aside0.mk (below_step HB.out hb); have BKE := Aside0.mk hbox; clear hb hbox hge HS; have hl0 : w7.cell? ⟨gl, 0, none⟩ = some (.int .i64 b) := (blk_cell BKL.out 0).trans rfl; have hl1 : w7.cell? ⟨gl, 1, none⟩ = some (.int .i64 bt) := (blk_cell BKL.out 1).trans rfl; have hl2 : w7.cell? ⟨gl, 2, none⟩ = some (.slice A cur.length c) := (blk_cell BKL.out 2).trans rfl; have he0 : w7.cell? ⟨ge, 0, none⟩ = some (.int .i64 0) := (blk_cell BKE.out 0).trans rfl; have he1 : w7.cell? ⟨ge, 1, none⟩ = some (.slice none 0 0) := (blk_cell BKE.out 1).trans rfl; have hf0 := blk_frozen BKE.out 0; have hf1 := blk_frozen BKE.out 1; have hn1 := NLE.out; have hn2 := NLE.out.symm))
                have HSn := Aside0.mk (Kd.S_mono (Kd.S_far (Kd.S_far HSE.out (p := ⟨ge, 0, none⟩) (fun _ hk => hk.2) (.int .i64 en.f0)) (p := ⟨ge, 1, none⟩) (fun _ hk => hk.2) (.slice B1 en.f1.length cb)) (fun _ _ => trivial) : Kd.S k28 28 _ w.heap.size (fun _ => True) (.slice A cur.length c) cur)
                replace BKL := Aside0.mk (blk_far (blk_far BKL.out (p := ⟨ge, 0, none⟩) NLE.out (.int .i64 en.f0)) (p := ⟨ge, 1, none⟩) NLE.out (.slice B1 en.f1.length cb))
                replace BKR := Aside0.mk (blk_far (blk_far BKR.out (p := ⟨ge, 0, none⟩) NRE.out (.int .i64 en.f0)) (p := ⟨ge, 1, none⟩) NRE.out (.slice B1 en.f1.length cb))
                replace BKE := Aside0.mk (blk_put (blk_put BKE.out 0 (.int .i64 en.f0) rfl) 1 (.slice B1 en.f1.length cb) rfl)
                replace HB := Aside0.mk ((HB.out.setCell (p := ⟨ge, 0, none⟩) GE.out (.int .i64 en.f0)).setCell (p := ⟨ge, 1, none⟩) GE.out (.slice B1 en.f1.length cb))
                obtain ⟨_, hle7, hC7⟩ := Kd.S_reads' HSn.out
                refine (raftlog_Log_term.calls b bt A c cur (wrap64 (pk + 1)) s s2 _ hC7 hle7 HT.out).mono ?_
                rintro e w8 ⟨rfl, hb⟩
                have HS := Aside0.mk (Kd.S_below HSn.out hb)
                replace BKL := Aside0.mk (blk_below BKL.out hb)
                replace BKR := Aside0.mk (blk_below BKR.out hb)
                replace BKE := Aside0.mk (blk_below BKE.out hb)
                replace HB := Aside0.mk (below_step HB.out hb)
                clear hb hle7 hC7 HSE HSn hl0 hl1 hl2 hf0 hf1 hn1 hn2 hx0' hx1' he0 he1
                have HX2 := HX3.out
                clear HX3
                have hz3 : w8.cell? ⟨ge, 0, none⟩ = some (.int .i64 en.f0) := (blk_cell BKE.out 0).trans rfl
                by_cases e1 : s2 = true ∧ s = en.f0
                · rw [if_pos e1] at HX2
                  have HX3 := Aside0.mk HX2
                  clear HX2
                  obtain ⟨rfl, e1n⟩ := e1
                  have e1b : (s == en.f0) = true := by simp [e1n]
                  clear e1n
                  go_wp2_with fail
                  go_roundw
                  case rel => exact ⟨k + 1, wrap64 (pk + 1), cur, A, c, c, (by have := HLT.out; omega), rfl, (by rw [HWK.out]), HX3, BKL, BKR, HS, ⟨rfl⟩, HB⟩
                  case measure => exact meas HLT.out HWK.out
                · rw [if_neg e1] at HX2
                  clear hz3
                  replace HX2 : (0 ≤ wrap64 (wrap64 (wrap64 (pk + 1) - 1) - b) ∧ wrap64 (wrap64 (wrap64 (pk + 1) - 1) - b) ≤ (cur.length : Int)) ∧ ∃ q, log_add.f b bt (cur.take (wrap64 (wrap64 (wrap64 (pk + 1) - 1) - b)).toNat) en.f0 en.f1 = some q ∧ (if q.1 = 0 then acc_go b bt (es2.drop (k + 1)) (wrap64 (pk + 1)) q.2 else some (q.1, 0, [])) = some (x, x2, x3) := by
                    by_cases hh : 0 ≤ wrap64 (wrap64 (wrap64 (pk + 1) - 1) - b) ∧ wrap64 (wrap64 (wrap64 (pk + 1) - 1) - b) ≤ (cur.length : Int)
                    · rw [if_pos hh] at HX2
                      exact ⟨hh, Option.bind_eq_some_iff.mp HX2⟩
                    · rw [if_neg hh] at HX2
                      exact absurd HX2 (by simp)
                  have e2 : s2 = false ∨ (s2 = true ∧ (s == en.f0) = false) := by
                    cases s2 with
                    | false => exact .inl rfl
                    | true => exact .inr ⟨rfl, by simpa using e1⟩
                  clear e1
                  rcases e2 with rfl | ⟨rfl, e1b⟩
                  · skip
                    rcases HX2 with ⟨⟨hk0, hk1⟩, HX2⟩
                    obtain ⟨⟨u, u2⟩, hu, HX2⟩ := HX2
                    have HU := Aside0.mk hu
                    clear hu
                    obtain ⟨i0, hi0, _, _, _⟩ := info_parts info28
                    obtain ⟨_, hle8, _⟩ := Kd.S_reads' HS.out
                    have hcut := cut_hm (P := Try.prog) 25 28 .i64 .i64 Try.underlying25 hi0 A cur.length c (wrap64 (wrap64 (wrap64 (pk + 1) - 1) - b)) hk0 hk1 hle8
                    obtain ⟨m, hm⟩ : ∃ m, m = (wrap64 (wrap64 (wrap64 (pk + 1) - 1) - b)).toNat := ⟨_, rfl⟩
                    have hmc : m ≤ cur.length := by omega
                    have HU2 : Aside0 (log_add.f b bt (cur.take m) en.f0 en.f1 = some (u, u2)) := by rw [hm]; exact HU
                    clear HU
                    rw [← hm] at hcut
                    obtain ⟨cur2, hcur2⟩ : ∃ c2, c2 = cur.take m := ⟨_, rfl⟩
                    have hl2 : cur2.length = m := by rw [hcur2, List.length_take]; omega
                    rw [← hl2] at hcut
                    rw [← hcur2] at HU2
                    have HS2 := Aside0.mk (Kd.S_take HS.out hmc)
                    rw [← hcur2] at HS2
                    have HCC2 : Aside0 (cur2.length = c ∨ ∃ ad, A = some ad) := ⟨by
                      cases A with
                      | none => left; have := S_none HS.out; have := hle8; omega
                      | some ad => right; exact ⟨ad, rfl⟩⟩
                    rw [← hl2] at HS2
                    clear hk0 hk1 hi0 hle8 hm hmc hcur2 hl2
                    have hz0 : w8.cell? ⟨gl, 0, none⟩ = some (.int .i64 b) := (blk_cell BKL.out 0).trans rfl
                    have hz1 : w8.cell? ⟨gl, 1, none⟩ = some (.int .i64 bt) := (blk_cell BKL.out 1).trans rfl
                    have hz2 : w8.cell? ⟨gl, 2, none⟩ = some (.slice A cur.length c) := (blk_cell BKL.out 2).trans rfl
                    have hf2 := blk_frozen BKL.out 2
                    have he0 : w8.cell? ⟨ge, 0, none⟩ = some (.int .i64 en.f0) := (blk_cell BKE.out 0).trans rfl
                    have he1 : w8.cell? ⟨ge, 1, none⟩ = some (.slice B1 en.f1.length cb) := (blk_cell BKE.out 1).trans rfl
                    have hn1 := NLE.out
                    have hn2 := NLE.out.symm
                    go_wp2_with fail
                    have BKL8 := Aside0.mk (blk_put BKL.out 2 (.slice A cur2.length cur2.length) rfl)
                    have BKR8 := Aside0.mk (blk_far BKR.out (p := ⟨gl, 2, none⟩) NLR.out.symm (.slice A cur2.length cur2.length))
                    have HS8 := Aside0.mk (Kd.S_mono (Kd.S_set HS2.out BKL.out (by decide) 2 (.slice A cur2.length cur2.length)) (fun _ _ => trivial))
                    have HB8 := Aside0.mk (HB.out.setCell (p := ⟨gl, 2, none⟩) HGL.out (.slice A cur2.length cur2.length))
                    refine (log_add.calls b bt en.f0 u cur2 u2 en.f1 gl w.heap.size A cur2.length c B1 cb _ HGL.out BKL8.out HS8.out (HCC2.out.imp id (fun h_ => ⟨rfl, h_⟩)) HB8.out.size (Kd.C_below HCE.out HB8.out) HLE.out HU2.out).mono ?_
                    rintro e w9 ⟨rfl, hk9, hb9, hok⟩
                    have HOK := Aside0.mk hok
                    replace BKR := Aside0.mk ((hk9.2 gr (blk_lt BKR8.out) NLR.out.symm (Kd.S_ne HS8.out BKR8.out (by decide))).trans BKR8.out)
                    replace HB := Aside0.mk (HB8.out.trans hb9)
                    clear hk9 hb9 hok BKL8 BKR8 HS8 HB8 hz0 hz1 hz2 hf2 he0 he1 hn1 hn2 hcut
                    by_cases e3 : u = 0
                    · rw [if_pos e3] at HX2
                      have e3b : (u != 0) = false := by simp [e3]
                      obtain ⟨v6, hbl, hs6⟩ := HOK.out e3
                      obtain ⟨A6, c6, eo⟩ := Kd.S_slice hs6
                      subst eo
                      have BKL6 := Aside0.mk hbl
                      have HS6 := Aside0.mk hs6
                      have HX3 := Aside0.mk HX2
                      clear hbl hs6 e3 HX2
                      go_wp2_with fail
                      go_roundw
                      case rel => exact ⟨k + 1, wrap64 (pk + 1), u2, A6, c6, c6, (by have := HLT.out; omega), rfl, (by rw [HWK.out]), HX3, BKL6, BKR, HS6, ⟨rfl⟩, HB⟩
                      case measure => exact meas HLT.out HWK.out
                    · rw [if_neg e3] at HX2
                      have e3b : (u != 0) = true := by simp [e3]
                      obtain ⟨rfl, rfl, rfl⟩ : u = x ∧ 0 = x2 ∧ [] = x3 := by simpa using HX2
                      have H := H'.out
                      rw [if_neg e3] at H
                      obtain ⟨rfl, rfl, rfl, rfl, rfl⟩ : 0 = r1 ∧ 0 = r2 ∧ [] = r3 ∧ 0 = r4 ∧ u = r5 := by simpa using H
                      have hr0 : w9.cell? ⟨gr, 0, none⟩ = some (.int .i64 0) := (blk_cell BKR.out 0).trans rfl
                      have hr1 : w9.cell? ⟨gr, 1, none⟩ = some (.int .i64 0) := (blk_cell BKR.out 1).trans rfl
                      have hr2 : w9.cell? ⟨gr, 2, none⟩ = some (.slice none 0 0) := (blk_cell BKR.out 2).trans rfl
                      have hg0 := blk_frozen BKR.out 0
                      have hg1 := blk_frozen BKR.out 1
                      have hg2 := blk_frozen BKR.out 2
                      go_wp2_with fail
                      refine bodyPost_ret (results_ctt rfl _ _ gr 30 #[.int .i64 0, .int .i64 0, .slice none 0 0] (0, 0) _ rfl (put3 BKR.out) Try.underlying30 rfl (by kernel_rfl)) rfl ?_
                      exact ⟨_, rfl, Kd.S_nil _ _ _ _ _, below3 HB.out GR.out _ _ _⟩
                  · skip
                    rcases HX2 with ⟨⟨hk0, hk1⟩, HX2⟩
                    obtain ⟨⟨u, u2⟩, hu, HX2⟩ := HX2
                    have HU := Aside0.mk hu
                    clear hu
                    obtain ⟨i0, hi0, _, _, _⟩ := info_parts info28
                    obtain ⟨_, hle8, _⟩ := Kd.S_reads' HS.out
                    have hcut := cut_hm (P := Try.prog) 25 28 .i64 .i64 Try.underlying25 hi0 A cur.length c (wrap64 (wrap64 (wrap64 (pk + 1) - 1) - b)) hk0 hk1 hle8
                    obtain ⟨m, hm⟩ : ∃ m, m = (wrap64 (wrap64 (wrap64 (pk + 1) - 1) - b)).toNat := ⟨_, rfl⟩
                    have hmc : m ≤ cur.length := by omega
                    have HU2 : Aside0 (log_add.f b bt (cur.take m) en.f0 en.f1 = some (u, u2)) := by rw [hm]; exact HU
                    clear HU
                    rw [← hm] at hcut
                    obtain ⟨cur2, hcur2⟩ : ∃ c2, c2 = cur.take m := ⟨_, rfl⟩
                    have hl2 : cur2.length = m := by rw [hcur2, List.length_take]; omega
                    rw [← hl2] at hcut
                    rw [← hcur2] at HU2
                    have HS2 := Aside0.mk (Kd.S_take HS.out hmc)
                    rw [← hcur2] at HS2
                    have HCC2 : Aside0 (cur2.length = c ∨ ∃ ad, A = some ad) := ⟨by
                      cases A with
                      | none => left; have := S_none HS.out; have := hle8; omega
                      | some ad => right; exact ⟨ad, rfl⟩⟩
                    rw [← hl2] at HS2
                    clear hk0 hk1 hi0 hle8 hm hmc hcur2 hl2
                    have hz0 : w8.cell? ⟨gl, 0, none⟩ = some (.int .i64 b) := (blk_cell BKL.out 0).trans rfl
                    have hz1 : w8.cell? ⟨gl, 1, none⟩ = some (.int .i64 bt) := (blk_cell BKL.out 1).trans rfl
                    have hz2 : w8.cell? ⟨gl, 2, none⟩ = some (.slice A cur.length c) := (blk_cell BKL.out 2).trans rfl
                    have hf2 := blk_frozen BKL.out 2
                    have he0 : w8.cell? ⟨ge, 0, none⟩ = some (.int .i64 en.f0) := (blk_cell BKE.out 0).trans rfl
                    have he1 : w8.cell? ⟨ge, 1, none⟩ = some (.slice B1 en.f1.length cb) := (blk_cell BKE.out 1).trans rfl
                    have hn1 := NLE.out
                    have hn2 := NLE.out.symm
                    go_wp2_with fail
                    have BKL8 := Aside0.mk (blk_put BKL.out 2 (.slice A cur2.length cur2.length) rfl)
                    have BKR8 := Aside0.mk (blk_far BKR.out (p := ⟨gl, 2, none⟩) NLR.out.symm (.slice A cur2.length cur2.length))
                    have HS8 := Aside0.mk (Kd.S_mono (Kd.S_set HS2.out BKL.out (by decide) 2 (.slice A cur2.length cur2.length)) (fun _ _ => trivial))
                    have HB8 := Aside0.mk (HB.out.setCell (p := ⟨gl, 2, none⟩) HGL.out (.slice A cur2.length cur2.length))
                    refine (log_add.calls b bt en.f0 u cur2 u2 en.f1 gl w.heap.size A cur2.length c B1 cb _ HGL.out BKL8.out HS8.out (HCC2.out.imp id (fun h_ => ⟨rfl, h_⟩)) HB8.out.size (Kd.C_below HCE.out HB8.out) HLE.out HU2.out).mono ?_
                    rintro e w9 ⟨rfl, hk9, hb9, hok⟩
                    have HOK := Aside0.mk hok
                    replace BKR := Aside0.mk ((hk9.2 gr (blk_lt BKR8.out) NLR.out.symm (Kd.S_ne HS8.out BKR8.out (by decide))).trans BKR8.out)
                    replace HB := Aside0.mk (HB8.out.trans hb9)
                    clear hk9 hb9 hok BKL8 BKR8 HS8 HB8 hz0 hz1 hz2 hf2 he0 he1 hn1 hn2 hcut
                    by_cases e3 : u = 0
                    · rw [if_pos e3] at HX2
                      have e3b : (u != 0) = false := by simp [e3]
                      obtain ⟨v6, hbl, hs6⟩ := HOK.out e3
                      obtain ⟨A6, c6, eo⟩ := Kd.S_slice hs6
                      subst eo
                      have BKL6 := Aside0.mk hbl
                      have HS6 := Aside0.mk hs6
                      have HX3 := Aside0.mk HX2
                      clear hbl hs6 e3 HX2
                      go_wp2_with fail
                      go_roundw
                      case rel => exact ⟨k + 1, wrap64 (pk + 1), u2, A6, c6, c6, (by have := HLT.out; omega), rfl, (by rw [HWK.out]), HX3, BKL6, BKR, HS6, ⟨rfl⟩, HB⟩
                      case measure => exact meas HLT.out HWK.out
                    · rw [if_neg e3] at HX2
                      have e3b : (u != 0) = true := by simp [e3]
                      obtain ⟨rfl, rfl, rfl⟩ : u = x ∧ 0 = x2 ∧ [] = x3 := by simpa using HX2
                      have H := H'.out
                      rw [if_neg e3] at H
                      obtain ⟨rfl, rfl, rfl, rfl, rfl⟩ : 0 = r1 ∧ 0 = r2 ∧ [] = r3 ∧ 0 = r4 ∧ u = r5 := by simpa using H
                      have hr0 : w9.cell? ⟨gr, 0, none⟩ = some (.int .i64 0) := (blk_cell BKR.out 0).trans rfl
                      have hr1 : w9.cell? ⟨gr, 1, none⟩ = some (.int .i64 0) := (blk_cell BKR.out 1).trans rfl
                      have hr2 : w9.cell? ⟨gr, 2, none⟩ = some (.slice none 0 0) := (blk_cell BKR.out 2).trans rfl
                      have hg0 := blk_frozen BKR.out 0
                      have hg1 := blk_frozen BKR.out 1
                      have hg2 := blk_frozen BKR.out 2
                      go_wp2_with fail
                      refine bodyPost_ret (results_ctt rfl _ _ gr 30 #[.int .i64 0, .int .i64 0, .slice none 0 0] (0, 0) _ rfl (put3 BKR.out) Try.underlying30 rfl (by kernel_rfl)) rfl ?_
                      exact ⟨_, rfl, Kd.S_nil _ _ _ _ _, below3 HB.out GR.out _ _ _⟩

              · obtain rfl : k = n := by omega
                have HX2 := HX.out
                rw [HN.out, List.drop_length] at HX2
                obtain ⟨rfl, rfl, rfl⟩ : 0 = x ∧ pk = x2 ∧ cur = x3 := by simpa [acc_go] using HX2
                have H := H'.out
                rw [if_pos rfl] at H
                obtain ⟨rfl, rfl, rfl, rfl, rfl⟩ : b = r1 ∧ bt = r2 ∧ cur = r3 ∧ pk = r4 ∧ 0 = r5 := by simpa using H
                have hkn : decide ((k : Int) < (k : Int)) = false := decide_eq_false (by omega)
                have hz0 : wr.cell? ⟨gl, 0, none⟩ = some (.int .i64 b) := (blk_cell BKL.out 0).trans rfl
                have hz1 : wr.cell? ⟨gl, 1, none⟩ = some (.int .i64 bt) := (blk_cell BKL.out 1).trans rfl
                have hz2 : wr.cell? ⟨gl, 2, none⟩ = some (.slice A cur.length c) := (blk_cell BKL.out 2).trans rfl
                have hr0 : wr.cell? ⟨gr, 0, none⟩ = some (.int .i64 0) := (blk_cell BKR.out 0).trans rfl
                have hr1 : wr.cell? ⟨gr, 1, none⟩ = some (.int .i64 0) := (blk_cell BKR.out 1).trans rfl
                have hr2 : wr.cell? ⟨gr, 2, none⟩ = some (.slice none 0 0) := (blk_cell BKR.out 2).trans rfl
                have hg0 := blk_frozen BKR.out 0
                have hg1 := blk_frozen BKR.out 1
                have hg2 := blk_frozen BKR.out 2
                go_wp2_with fail
                refine bodyPost_ret (results_ctt rfl _ _ gr 30 #[.int .i64 b, .int .i64 bt, .slice A cur.length c] (0, 0) _ rfl (put3 BKR.out) Try.underlying30 rfl (by kernel_rfl)) rfl ?_
                exact ⟨_, rfl, S_set3 HS.out BKR.out (by decide) _ _ _, below3 HB.out GR.out _ _ _⟩
          · rw [if_neg d1] at H
            have d1b : (q != bt) = true := by simp [d1]
            obtain ⟨rfl, rfl, rfl, rfl, rfl⟩ : 0 = r1 ∧ 0 = r2 ∧ [] = r3 ∧ 0 = r4 ∧ 151 = r5 := by simpa using H
            go_wp2_with fail
            refine bodyPost_ret (results_ctt rfl _ _ gr 30 #[.int .i64 0, .int .i64 0, .slice none 0 0] (0, 0) _ rfl (put3 BKR.out) Try.underlying30 rfl (by kernel_rfl)) rfl ?_
            exact ⟨_, rfl, Kd.S_nil _ _ _ _ _, below3 HB.out GR.out _ _ _⟩
    · rw [if_neg c4] at H
      have c4b := decide_eq_false c4
      clear c4
      unfold acc_rest at H
      replace H := Option.bind_eq_some_iff.mp H
      obtain ⟨⟨q, q2⟩, hq, H⟩ := H
      have HQ := Aside0.mk hq
      have H' := Aside0.mk H
      clear hq H
      go_wp2_with fail
      obtain ⟨_, hle5, hC5⟩ := Kd.S_reads' HS.out
      refine (raftlog_Log_term.calls b bt A5 c5 ys prev q q2 _ hC5 hle5 HQ.out).mono ?_
      rintro e w6 ⟨rfl, hb⟩
      clear hz0 hz1 hz2 hf2 hle5 hC5
      replace BKL := Aside0.mk (blk_below BKL.out hb)
      replace BKR := Aside0.mk (blk_below BKR.out hb)
      replace HS := Aside0.mk (Kd.S_below HS.out hb)
      replace HB := Aside0.mk (below_step HB.out hb)
      clear hb
      have hr0 : w6.cell? ⟨gr, 0, none⟩ = some (.int .i64 0) := (blk_cell BKR.out 0).trans rfl
      have hr1 : w6.cell? ⟨gr, 1, none⟩ = some (.int .i64 0) := (blk_cell BKR.out 1).trans rfl
      have hr2 : w6.cell? ⟨gr, 2, none⟩ = some (.slice none 0 0) := (blk_cell BKR.out 2).trans rfl
      have hf0 := blk_frozen BKR.out 0
      have hf1 := blk_frozen BKR.out 1
      have hf2 := blk_frozen BKR.out 2
      have H := H'.out
      clear H'
      cases q2 with
      | false =>
        rw [if_neg (by decide)] at H
        obtain ⟨rfl, rfl, rfl, rfl, rfl⟩ : 0 = r1 ∧ 0 = r2 ∧ [] = r3 ∧ 0 = r4 ∧ 152 = r5 := by simpa using H
        go_wp2_with fail
        refine bodyPost_ret (results_ctt rfl _ _ gr 30 #[.int .i64 0, .int .i64 0, .slice none 0 0] (0, 0) _ rfl (put3 BKR.out) Try.underlying30 rfl (by kernel_rfl)) rfl ?_
        exact ⟨_, rfl, Kd.S_nil _ _ _ _ _, below3 HB.out GR.out _ _ _⟩
      | true =>
        rw [if_pos rfl] at H
        by_cases d1 : q = pt
        · rw [if_pos d1] at H
          have d1b : (q != pt) = false := by simp [d1]
          clear d1
          replace H := Option.bind_eq_some_iff.mp H
          obtain ⟨⟨x, x2, x3⟩, hx, H⟩ := H
          have HX : Aside0 (∃ pk cur, acc_go b bt (es.drop 0) prev ys = some (x, x2, x3) ∧ pk = prev ∧ cur = ys) := Aside0.mk ⟨_, _, by rw [List.drop_zero]; exact hx, rfl, rfl⟩
          have H' := Aside0.mk H
          clear hx H hr0 hr1 hr2 hf0 hf1 hf2
          obtain ⟨n, hn⟩ : ∃ n, n = es.length := ⟨_, rfl⟩
          have HN := Aside0.mk hn
          rw [← hn]
          clear hn
          go_wp2_with fail
          go_loopw [1, 75] (fun p i wr => ∃ (k : Nat) (pk : Int) (cur : List S28) (A : Option Addr) (c cc : Nat), k ≤ n ∧ p = .int .i64 pk ∧ i = .int .i64 k ∧ Aside0 (acc_go b bt (es.drop k) pk cur = some (x, x2, x3)) ∧
            Aside0 (wr.heap[gl]? = some (.cells #[.int .i64 b, .int .i64 bt, .slice A cur.length c] 30 (0, 0))) ∧ Aside0 (wr.heap[gr]? = some (.cells #[.int .i64 0, .int .i64 0, .slice none 0 0] 30 (0, 0))) ∧
            Aside0 (Kd.S k28 28 wr w.heap.size (fun _ => True) (.slice A cur.length cc) cur) ∧ Aside0 (c = cc) ∧ Aside0 (Below w.heap.size w wr)) (fun _ i _ => n - (intOf i).toNat)
          case atStart => exact ⟨0, prev, ys, A5, c5, c5, by omega, rfl, rfl, (by obtain ⟨_, _, h_, _⟩ := HX.out; exact ⟨h_⟩), BKL, BKR, HS, ⟨rfl⟩, HB⟩
          case round =>
            clear HX BKL BKR HS HB HQ
            obtain ⟨k, pk, cur, A, c, cc, hk, rfl, rfl, HX, BKL, BKR, HS, HCC, HB⟩ := hrel
            obtain rfl := HCC.out
            clear HCC
            by_cases hlt : k < n
            · have HLT := Aside0.mk hlt
              have hlen : k < es.length := by rw [← HN.out]; exact hlt
              have HWK : Aside0 (wrap64 ((k : Int) + 1) = ((k + 1 : Nat) : Int)) := ⟨wrap_in (by omega) (by have h1 := HR3.out.2.1; omega)⟩
              have hp0 : (0 : Int) ≤ (k : Int) := by omega
              have hp1 : (k : Int) < (es.length : Int) := by omega
              have hrd : rd_T28 es (k : Int) = es[k] := rd_at hlen
              obtain ⟨ad, B1, cb, ead, hx0, hx1, hlb, hCb⟩ := at_T28 HR3.out (k : Int) hp0 hp1
              rw [hrd] at hx0 hx1 hlb hCb
              simp only [Int.toNat_natCast] at hx0 hx1
              clear hrd
              have HX2 := HX.out
              rw [List.drop_eq_getElem_cons hlen] at HX2
              unfold acc_go at HX2
              obtain ⟨en, hen⟩ : ∃ en, en = es[k] := ⟨_, rfl⟩
              rw [← hen] at HX2 hx0 hx1 hlb hCb
              have hx0' := (HB.out.cell (World.block_lt_of_cell? w _ hx0)).trans hx0
              have hx1' := (HB.out.cell (World.block_lt_of_cell? w _ hx1)).trans hx1
              obtain ⟨⟨s, s2⟩, hs, HX2⟩ := Option.bind_eq_some_iff.mp HX2
              have HT := Aside0.mk hs
              have HX3 := Aside0.mk HX2
              have HLE := Aside0.mk hlb
              have HCE := Aside0.mk hCb
              have HEN := Aside0.mk hen
              clear hs HX2 hlb hCb hx0 hx1 hen
              cases ead
              replace hp0 := eq_true hp0
              replace hp1 := eq_true hp1
              have hkn : decide ((k : Int) < (n : Int)) = true := decide_eq_true (by omega)
              go_wp2_with (first
                | ((with_reducible refine gate_dst (N := 16) rfl ?_); refine box_event ?hg (N := 16) ?hd (cs := #[.int .i64 0, .slice none 0 0]) (t := 28) ?hr ?_; (case hd => rfl); (case hg => rfl); (case hr => first | (go_simp; done) | (go_simp; rfl)); intro ge hge w7 hbox hb; have GE := Aside0.mk (by have := HB.out.size; omega : w.heap.size ≤ ge); have NLE := Aside0.mk (by have := blk_lt BKL.out; omega : gl ≠ ge); have NRE := Aside0.mk (by have := blk_lt BKR.out; omega : gr ≠ ge); replace BKL := Aside0.mk (blk_below BKL.out hb); replace BKR := Aside0.mk (blk_below BKR.out hb); have HSE := Aside0.mk (Kd.S_below (Kd.S_elderB HS.out ge (by omega)) hb); replace HB := Aside0.mk (below_step HB.out hb); have BKE := Aside0.mk hbox; clear hb hbox hge HS; have hl0 : w7.cell? ⟨gl, 0, none⟩ = some (.int .i64 b) := (blk_cell BKL.out 0).trans rfl; have hl1 : w7.cell? ⟨gl, 1, none⟩ = some (.int .i64 bt) := (blk_cell BKL.out 1).trans rfl; have hl2 : w7.cell? ⟨gl, 2, none⟩ = some (.slice A cur.length c) := (blk_cell BKL.out 2).trans rfl; have he0 : w7.cell? ⟨ge, 0, none⟩ = some (.int .i64 0) := (blk_cell BKE.out 0).trans rfl; have he1 : w7.cell? ⟨ge, 1, none⟩ = some (.slice none 0 0) := (blk_cell BKE.out 1).trans rfl; have hf0 := blk_frozen BKE.out 0; have hf1 := blk_frozen BKE.out 1; have hn1 := NLE.out; have hn2 := NLE.out.symm))
              have HSn := Aside0.mk (Kd.S_mono (Kd.S_far (Kd.S_far HSE.out (p := ⟨ge, 0, none⟩) (fun _ hk => hk.2) (.int .i64 en.f0)) (p := ⟨ge, 1, none⟩) (fun _ hk => hk.2) (.slice B1 en.f1.length cb)) (fun _ _ => trivial) : Kd.S k28 28 _ w.heap.size (fun _ => True) (.slice A cur.length c) cur)
              replace BKL := Aside0.mk (blk_far (blk_far BKL.out (p := ⟨ge, 0, none⟩) NLE.out (.int .i64 en.f0)) (p := ⟨ge, 1, none⟩) NLE.out (.slice B1 en.f1.length cb))
              replace BKR := Aside0.mk (blk_far (blk_far BKR.out (p := ⟨ge, 0, none⟩) NRE.out (.int .i64 en.f0)) (p := ⟨ge, 1, none⟩) NRE.out (.slice B1 en.f1.length cb))
              replace BKE := Aside0.mk (blk_put (blk_put BKE.out 0 (.int .i64 en.f0) rfl) 1 (.slice B1 en.f1.length cb) rfl)
              replace HB := Aside0.mk ((HB.out.setCell (p := ⟨ge, 0, none⟩) GE.out (.int .i64 en.f0)).setCell (p := ⟨ge, 1, none⟩) GE.out (.slice B1 en.f1.length cb))
              obtain ⟨_, hle7, hC7⟩ := Kd.S_reads' HSn.out
              refine (raftlog_Log_term.calls b bt A c cur (wrap64 (pk + 1)) s s2 _ hC7 hle7 HT.out).mono ?_
              rintro e w8 ⟨rfl, hb⟩
              have HS := Aside0.mk (Kd.S_below HSn.out hb)
              replace BKL := Aside0.mk (blk_below BKL.out hb)
              replace BKR := Aside0.mk (blk_below BKR.out hb)
              replace BKE := Aside0.mk (blk_below BKE.out hb)
              replace HB := Aside0.mk (below_step HB.out hb)
              clear hb hle7 hC7 HSE HSn hl0 hl1 hl2 hf0 hf1 hn1 hn2 hx0' hx1' he0 he1
              have HX2 := HX3.out
              clear HX3
              have hz3 : w8.cell? ⟨ge, 0, none⟩ = some (.int .i64 en.f0) := (blk_cell BKE.out 0).trans rfl
              by_cases e1 : s2 = true ∧ s = en.f0
              · rw [if_pos e1] at HX2
                have HX3 := Aside0.mk HX2
                clear HX2
                obtain ⟨rfl, e1n⟩ := e1
                have e1b : (s == en.f0) = true := by simp [e1n]
                clear e1n
                go_wp2_with fail
                go_roundw
                case rel => exact ⟨k + 1, wrap64 (pk + 1), cur, A, c, c, (by have := HLT.out; omega), rfl, (by rw [HWK.out]), HX3, BKL, BKR, HS, ⟨rfl⟩, HB⟩
                case measure => exact meas HLT.out HWK.out
              · rw [if_neg e1] at HX2
                clear hz3
                replace HX2 : (0 ≤ wrap64 (wrap64 (wrap64 (pk + 1) - 1) - b) ∧ wrap64 (wrap64 (wrap64 (pk + 1) - 1) - b) ≤ (cur.length : Int)) ∧ ∃ q, log_add.f b bt (cur.take (wrap64 (wrap64 (wrap64 (pk + 1) - 1) - b)).toNat) en.f0 en.f1 = some q ∧ (if q.1 = 0 then acc_go b bt (es.drop (k + 1)) (wrap64 (pk + 1)) q.2 else some (q.1, 0, [])) = some (x, x2, x3) := by
                  by_cases hh : 0 ≤ wrap64 (wrap64 (wrap64 (pk + 1) - 1) - b) ∧ wrap64 (wrap64 (wrap64 (pk + 1) - 1) - b) ≤ (cur.length : Int)
                  · rw [if_pos hh] at HX2
                    exact ⟨hh, Option.bind_eq_some_iff.mp HX2⟩
                  · rw [if_neg hh] at HX2
                    exact absurd HX2 (by simp)
                have e2 : s2 = false ∨ (s2 = true ∧ (s == en.f0) = false) := by
                  cases s2 with
                  | false => exact .inl rfl
                  | true => exact .inr ⟨rfl, by simpa using e1⟩
                clear e1
                rcases e2 with rfl | ⟨rfl, e1b⟩
                · skip
                  rcases HX2 with ⟨⟨hk0, hk1⟩, HX2⟩
                  obtain ⟨⟨u, u2⟩, hu, HX2⟩ := HX2
                  have HU := Aside0.mk hu
                  clear hu
                  obtain ⟨i0, hi0, _, _, _⟩ := info_parts info28
                  obtain ⟨_, hle8, _⟩ := Kd.S_reads' HS.out
                  have hcut := cut_hm (P := Try.prog) 25 28 .i64 .i64 Try.underlying25 hi0 A cur.length c (wrap64 (wrap64 (wrap64 (pk + 1) - 1) - b)) hk0 hk1 hle8
                  obtain ⟨m, hm⟩ : ∃ m, m = (wrap64 (wrap64 (wrap64 (pk + 1) - 1) - b)).toNat := ⟨_, rfl⟩
                  have hmc : m ≤ cur.length := by omega
                  have HU2 : Aside0 (log_add.f b bt (cur.take m) en.f0 en.f1 = some (u, u2)) := by rw [hm]; exact HU
                  clear HU
                  rw [← hm] at hcut
                  obtain ⟨cur2, hcur2⟩ : ∃ c2, c2 = cur.take m := ⟨_, rfl⟩
                  have hl2 : cur2.length = m := by rw [hcur2, List.length_take]; omega
                  rw [← hl2] at hcut
                  rw [← hcur2] at HU2
                  have HS2 := Aside0.mk (Kd.S_take HS.out hmc)
                  rw [← hcur2] at HS2
                  have HCC2 : Aside0 (cur2.length = c ∨ ∃ ad, A = some ad) := ⟨by
                    cases A with
                    | none => left; have := S_none HS.out; have := hle8; omega
                    | some ad => right; exact ⟨ad, rfl⟩⟩
                  rw [← hl2] at HS2
                  clear hk0 hk1 hi0 hle8 hm hmc hcur2 hl2
                  have hz0 : w8.cell? ⟨gl, 0, none⟩ = some (.int .i64 b) := (blk_cell BKL.out 0).trans rfl
                  have hz1 : w8.cell? ⟨gl, 1, none⟩ = some (.int .i64 bt) := (blk_cell BKL.out 1).trans rfl
                  have hz2 : w8.cell? ⟨gl, 2, none⟩ = some (.slice A cur.length c) := (blk_cell BKL.out 2).trans rfl
                  have hf2 := blk_frozen BKL.out 2
                  have he0 : w8.cell? ⟨ge, 0, none⟩ = some (.int .i64 en.f0) := (blk_cell BKE.out 0).trans rfl
                  have he1 : w8.cell? ⟨ge, 1, none⟩ = some (.slice B1 en.f1.length cb) := (blk_cell BKE.out 1).trans rfl
                  have hn1 := NLE.out
                  have hn2 := NLE.out.symm
                  go_wp2_with fail
                  have BKL8 := Aside0.mk (blk_put BKL.out 2 (.slice A cur2.length cur2.length) rfl)
                  have BKR8 := Aside0.mk (blk_far BKR.out (p := ⟨gl, 2, none⟩) NLR.out.symm (.slice A cur2.length cur2.length))
                  have HS8 := Aside0.mk (Kd.S_mono (Kd.S_set HS2.out BKL.out (by decide) 2 (.slice A cur2.length cur2.length)) (fun _ _ => trivial))
                  have HB8 := Aside0.mk (HB.out.setCell (p := ⟨gl, 2, none⟩) HGL.out (.slice A cur2.length cur2.length))
                  refine (log_add.calls b bt en.f0 u cur2 u2 en.f1 gl w.heap.size A cur2.length c B1 cb _ HGL.out BKL8.out HS8.out (HCC2.out.imp id (fun h_ => ⟨rfl, h_⟩)) HB8.out.size (Kd.C_below HCE.out HB8.out) HLE.out HU2.out).mono ?_
                  rintro e w9 ⟨rfl, hk9, hb9, hok⟩
                  have HOK := Aside0.mk hok
                  replace BKR := Aside0.mk ((hk9.2 gr (blk_lt BKR8.out) NLR.out.symm (Kd.S_ne HS8.out BKR8.out (by decide))).trans BKR8.out)
                  replace HB := Aside0.mk (HB8.out.trans hb9)
                  clear hk9 hb9 hok BKL8 BKR8 HS8 HB8 hz0 hz1 hz2 hf2 he0 he1 hn1 hn2 hcut
                  by_cases e3 : u = 0
                  · rw [if_pos e3] at HX2
                    have e3b : (u != 0) = false := by simp [e3]
                    obtain ⟨v6, hbl, hs6⟩ := HOK.out e3
                    obtain ⟨A6, c6, eo⟩ := Kd.S_slice hs6
                    subst eo
                    have BKL6 := Aside0.mk hbl
                    have HS6 := Aside0.mk hs6
                    have HX3 := Aside0.mk HX2
                    clear hbl hs6 e3 HX2
                    go_wp2_with fail
                    go_roundw
                    case rel => exact ⟨k + 1, wrap64 (pk + 1), u2, A6, c6, c6, (by have := HLT.out; omega), rfl, (by rw [HWK.out]), HX3, BKL6, BKR, HS6, ⟨rfl⟩, HB⟩
                    case measure => exact meas HLT.out HWK.out
                  · rw [if_neg e3] at HX2
                    have e3b : (u != 0) = true := by simp [e3]
                    obtain ⟨rfl, rfl, rfl⟩ : u = x ∧ 0 = x2 ∧ [] = x3 := by simpa using HX2
                    have H := H'.out
                    rw [if_neg e3] at H
                    obtain ⟨rfl, rfl, rfl, rfl, rfl⟩ : 0 = r1 ∧ 0 = r2 ∧ [] = r3 ∧ 0 = r4 ∧ u = r5 := by simpa using H
                    have hr0 : w9.cell? ⟨gr, 0, none⟩ = some (.int .i64 0) := (blk_cell BKR.out 0).trans rfl
                    have hr1 : w9.cell? ⟨gr, 1, none⟩ = some (.int .i64 0) := (blk_cell BKR.out 1).trans rfl
                    have hr2 : w9.cell? ⟨gr, 2, none⟩ = some (.slice none 0 0) := (blk_cell BKR.out 2).trans rfl
                    have hg0 := blk_frozen BKR.out 0
                    have hg1 := blk_frozen BKR.out 1
                    have hg2 := blk_frozen BKR.out 2
                    go_wp2_with fail
                    refine bodyPost_ret (results_ctt rfl _ _ gr 30 #[.int .i64 0, .int .i64 0, .slice none 0 0] (0, 0) _ rfl (put3 BKR.out) Try.underlying30 rfl (by kernel_rfl)) rfl ?_
                    exact ⟨_, rfl, Kd.S_nil _ _ _ _ _, below3 HB.out GR.out _ _ _⟩
                · skip
                  rcases HX2 with ⟨⟨hk0, hk1⟩, HX2⟩
                  obtain ⟨⟨u, u2⟩, hu, HX2⟩ := HX2
                  have HU := Aside0.mk hu
                  clear hu
                  obtain ⟨i0, hi0, _, _, _⟩ := info_parts info28
                  obtain ⟨_, hle8, _⟩ := Kd.S_reads' HS.out
                  have hcut := cut_hm (P := Try.prog) 25 28 .i64 .i64 Try.underlying25 hi0 A cur.length c (wrap64 (wrap64 (wrap64 (pk + 1) - 1) - b)) hk0 hk1 hle8
                  obtain ⟨m, hm⟩ : ∃ m, m = (wrap64 (wrap64 (wrap64 (pk + 1) - 1) - b)).toNat := ⟨_, rfl⟩
                  have hmc : m ≤ cur.length := by omega
                  have HU2 : Aside0 (log_add.f b bt (cur.take m) en.f0 en.f1 = some (u, u2)) := by rw [hm]; exact HU
                  clear HU
                  rw [← hm] at hcut
                  obtain ⟨cur2, hcur2⟩ : ∃ c2, c2 = cur.take m := ⟨_, rfl⟩
                  have hl2 : cur2.length = m := by rw [hcur2, List.length_take]; omega
                  rw [← hl2] at hcut
                  rw [← hcur2] at HU2
                  have HS2 := Aside0.mk (Kd.S_take HS.out hmc)
                  rw [← hcur2] at HS2
                  have HCC2 : Aside0 (cur2.length = c ∨ ∃ ad, A = some ad) := ⟨by
                    cases A with
                    | none => left; have := S_none HS.out; have := hle8; omega
                    | some ad => right; exact ⟨ad, rfl⟩⟩
                  rw [← hl2] at HS2
                  clear hk0 hk1 hi0 hle8 hm hmc hcur2 hl2
                  have hz0 : w8.cell? ⟨gl, 0, none⟩ = some (.int .i64 b) := (blk_cell BKL.out 0).trans rfl
                  have hz1 : w8.cell? ⟨gl, 1, none⟩ = some (.int .i64 bt) := (blk_cell BKL.out 1).trans rfl
                  have hz2 : w8.cell? ⟨gl, 2, none⟩ = some (.slice A cur.length c) := (blk_cell BKL.out 2).trans rfl
                  have hf2 := blk_frozen BKL.out 2
                  have he0 : w8.cell? ⟨ge, 0, none⟩ = some (.int .i64 en.f0) := (blk_cell BKE.out 0).trans rfl
                  have he1 : w8.cell? ⟨ge, 1, none⟩ = some (.slice B1 en.f1.length cb) := (blk_cell BKE.out 1).trans rfl
                  have hn1 := NLE.out
                  have hn2 := NLE.out.symm
                  go_wp2_with fail
                  have BKL8 := Aside0.mk (blk_put BKL.out 2 (.slice A cur2.length cur2.length) rfl)
                  have BKR8 := Aside0.mk (blk_far BKR.out (p := ⟨gl, 2, none⟩) NLR.out.symm (.slice A cur2.length cur2.length))
                  have HS8 := Aside0.mk (Kd.S_mono (Kd.S_set HS2.out BKL.out (by decide) 2 (.slice A cur2.length cur2.length)) (fun _ _ => trivial))
                  have HB8 := Aside0.mk (HB.out.setCell (p := ⟨gl, 2, none⟩) HGL.out (.slice A cur2.length cur2.length))
                  refine (log_add.calls b bt en.f0 u cur2 u2 en.f1 gl w.heap.size A cur2.length c B1 cb _ HGL.out BKL8.out HS8.out (HCC2.out.imp id (fun h_ => ⟨rfl, h_⟩)) HB8.out.size (Kd.C_below HCE.out HB8.out) HLE.out HU2.out).mono ?_
                  rintro e w9 ⟨rfl, hk9, hb9, hok⟩
                  have HOK := Aside0.mk hok
                  replace BKR := Aside0.mk ((hk9.2 gr (blk_lt BKR8.out) NLR.out.symm (Kd.S_ne HS8.out BKR8.out (by decide))).trans BKR8.out)
                  replace HB := Aside0.mk (HB8.out.trans hb9)
                  clear hk9 hb9 hok BKL8 BKR8 HS8 HB8 hz0 hz1 hz2 hf2 he0 he1 hn1 hn2 hcut
                  by_cases e3 : u = 0
                  · rw [if_pos e3] at HX2
                    have e3b : (u != 0) = false := by simp [e3]
                    obtain ⟨v6, hbl, hs6⟩ := HOK.out e3
                    obtain ⟨A6, c6, eo⟩ := Kd.S_slice hs6
                    subst eo
                    have BKL6 := Aside0.mk hbl
                    have HS6 := Aside0.mk hs6
                    have HX3 := Aside0.mk HX2
                    clear hbl hs6 e3 HX2
                    go_wp2_with fail
                    go_roundw
                    case rel => exact ⟨k + 1, wrap64 (pk + 1), u2, A6, c6, c6, (by have := HLT.out; omega), rfl, (by rw [HWK.out]), HX3, BKL6, BKR, HS6, ⟨rfl⟩, HB⟩
                    case measure => exact meas HLT.out HWK.out
                  · rw [if_neg e3] at HX2
                    have e3b : (u != 0) = true := by simp [e3]
                    obtain ⟨rfl, rfl, rfl⟩ : u = x ∧ 0 = x2 ∧ [] = x3 := by simpa using HX2
                    have H := H'.out
                    rw [if_neg e3] at H
                    obtain ⟨rfl, rfl, rfl, rfl, rfl⟩ : 0 = r1 ∧ 0 = r2 ∧ [] = r3 ∧ 0 = r4 ∧ u = r5 := by simpa using H
                    have hr0 : w9.cell? ⟨gr, 0, none⟩ = some (.int .i64 0) := (blk_cell BKR.out 0).trans rfl
                    have hr1 : w9.cell? ⟨gr, 1, none⟩ = some (.int .i64 0) := (blk_cell BKR.out 1).trans rfl
                    have hr2 : w9.cell? ⟨gr, 2, none⟩ = some (.slice none 0 0) := (blk_cell BKR.out 2).trans rfl
                    have hg0 := blk_frozen BKR.out 0
                    have hg1 := blk_frozen BKR.out 1
                    have hg2 := blk_frozen BKR.out 2
                    go_wp2_with fail
                    refine bodyPost_ret (results_ctt rfl _ _ gr 30 #[.int .i64 0, .int .i64 0, .slice none 0 0] (0, 0) _ rfl (put3 BKR.out) Try.underlying30 rfl (by kernel_rfl)) rfl ?_
                    exact ⟨_, rfl, Kd.S_nil _ _ _ _ _, below3 HB.out GR.out _ _ _⟩

            · obtain rfl : k = n := by omega
              have HX2 := HX.out
              rw [HN.out, List.drop_length] at HX2
              obtain ⟨rfl, rfl, rfl⟩ : 0 = x ∧ pk = x2 ∧ cur = x3 := by simpa [acc_go] using HX2
              have H := H'.out
              rw [if_pos rfl] at H
              obtain ⟨rfl, rfl, rfl, rfl, rfl⟩ : b = r1 ∧ bt = r2 ∧ cur = r3 ∧ pk = r4 ∧ 0 = r5 := by simpa using H
              have hkn : decide ((k : Int) < (k : Int)) = false := decide_eq_false (by omega)
              have hz0 : wr.cell? ⟨gl, 0, none⟩ = some (.int .i64 b) := (blk_cell BKL.out 0).trans rfl
              have hz1 : wr.cell? ⟨gl, 1, none⟩ = some (.int .i64 bt) := (blk_cell BKL.out 1).trans rfl
              have hz2 : wr.cell? ⟨gl, 2, none⟩ = some (.slice A cur.length c) := (blk_cell BKL.out 2).trans rfl
              have hr0 : wr.cell? ⟨gr, 0, none⟩ = some (.int .i64 0) := (blk_cell BKR.out 0).trans rfl
              have hr1 : wr.cell? ⟨gr, 1, none⟩ = some (.int .i64 0) := (blk_cell BKR.out 1).trans rfl
              have hr2 : wr.cell? ⟨gr, 2, none⟩ = some (.slice none 0 0) := (blk_cell BKR.out 2).trans rfl
              have hg0 := blk_frozen BKR.out 0
              have hg1 := blk_frozen BKR.out 1
              have hg2 := blk_frozen BKR.out 2
              go_wp2_with fail
              refine bodyPost_ret (results_ctt rfl _ _ gr 30 #[.int .i64 b, .int .i64 bt, .slice A cur.length c] (0, 0) _ rfl (put3 BKR.out) Try.underlying30 rfl (by kernel_rfl)) rfl ?_
              exact ⟨_, rfl, S_set3 HS.out BKR.out (by decide) _ _ _, below3 HB.out GR.out _ _ _⟩
        · rw [if_neg d1] at H
          have d1b : (q != pt) = true := by simp [d1]
          obtain ⟨rfl, rfl, rfl, rfl, rfl⟩ : 0 = r1 ∧ 0 = r2 ∧ [] = r3 ∧ 0 = r4 ∧ 151 = r5 := by simpa using H
          go_wp2_with fail
          refine bodyPost_ret (results_ctt rfl _ _ gr 30 #[.int .i64 0, .int .i64 0, .slice none 0 0] (0, 0) _ rfl (put3 BKR.out) Try.underlying30 rfl (by kernel_rfl)) rfl ?_
          exact ⟨_, rfl, Kd.S_nil _ _ _ _ _, below3 HB.out GR.out _ _ _⟩
  · rw [if_neg c1] at H
    have c1b : (t0 != 0) = true := by simp [c1]
    obtain ⟨rfl, rfl, rfl, rfl, rfl⟩ : 0 = r1 ∧ 0 = r2 ∧ [] = r3 ∧ 0 = r4 ∧ t0 = r5 := by simpa using H
    go_wp2_with fail
    refine bodyPost_ret (results_ctt rfl _ _ gr 30 #[.int .i64 0, .int .i64 0, .slice none 0 0] (0, 0) _ rfl (put3 BKR.out) Try.underlying30 rfl (by kernel_rfl)) rfl ?_
    exact ⟨_, rfl, Kd.S_nil _ _ _ _ _, below3 HB.out GR.out _ _ _⟩
end Go.Proofs.Yteplhacanofeoaa.Q
