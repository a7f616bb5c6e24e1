/- disk's New; no condition. -/
import Derived.LoopTactic
import Derived.Outline
import Derived.Lib.Hide
import Derived.Test.YtiiphlfgdkjjiaaZRotHalf
import Derived.Test.YtiiphlfgdkjjiaaZRotQ0
namespace Go.Proofs.Ytiiphlfgdkjjiaa.Q
open Go.RowKit Go.Proofs.YtiiphlfgdkjjiaaW.PrintWords Go.Proofs.YtiiphlfgdkjjiaaW.PrintLast Go.Proofs.YtiiphlfgdkjjiaaW.PrintMore
set_option linter.unusedVariables false
set_option linter.unusedSimpArgs false

def zeros64 : List Int := List.replicate 64 0
def disk_New.f (n : Int) : Option (List (List Int) × List S61 × Int) := if n < 1 then some ([], [], 4) else if n > 1024 then some ([], [], 4) else some (List.replicate n.toNat zeros64, [], 0)
/-- The sectors on the way: k of them made. -/
def made (n k : Nat) : List (List Int) := List.replicate k zeros64 ++ List.replicate (n - k) []
theorem made_set {n k : Nat} (h : k < n) : (made n k).set k zeros64 = made n (k + 1) := by
  obtain ⟨r, hr⟩ : ∃ r, n - k = r + 1 := ⟨n - k - 1, by omega⟩
  rw [made, made, hr, show n - (k + 1) = r from by omega, List.set_append_right _ _ (by simp), List.length_replicate, Nat.sub_self, List.replicate_succ, List.set_cons_zero, List.replicate_succ', List.append_assoc]
  rfl

set_option maxHeartbeats 4000000 in
set_option maxRecDepth 100000 in
theorem disk_New.calls (a0 : Int) (r1 : List (List Int)) (r2 : List S61) (r3 : Int) (w : World) (h : disk_New.f a0 = some (r1, r2, r3)) :
    Calls Try.prog 15 #[.int .i64 a0] w fun e w' => ∃ v0_ v1_ : Value, e = .returned (.tuple #[.agg #[v0_, v1_], .int .i64 r3]) ∧ Kd.S (Kd.slice 5 (Kd.int .u8)) 50 w' w.heap.size (fun _ => True) v0_ r1 ∧ Kd.S k61 61 w' w.heap.size (fun _ => True) v1_ r2 ∧ Below w.heap.size w w' := by
  have hu := Try.underlying28
  unfold disk_New.f at h
  by_cases c1 : a0 < 1
  · rw [if_pos c1] at h
    have c1b := decide_eq_true c1
    obtain ⟨rfl, rfl, rfl⟩ : [] = r1 ∧ [] = r2 ∧ 4 = r3 := by simpa using h
    clear h
    go_enter Try.func15, Try.ntmps15
    go_wp2_with (first
      | ((with_reducible refine gate_dst (N := 2) rfl ?_); refine box_event ?hg (N := 2) ?hd (cs := #[.slice none 0 0, .slice none 0 0]) (t := 28) ?hr ?_; (case hd => rfl); (case hg => rfl); (case hr => first | (go_simp; done) | (go_simp; rfl)); intro gr hgr w2 hbox hb; have GR := Aside0.mk (by rw [hgr]; exact Nat.le_refl _ : w.heap.size ≤ gr); have HB := Aside0.mk hb; have BKR := Aside0.mk hbox; clear hb hbox hgr; have hr0 := (blk_cell BKR.out 0).trans rfl; have hr1 := (blk_cell BKR.out 1).trans rfl; have hf0 := blk_frozen BKR.out 0; have hf1 := blk_frozen BKR.out 1))
    refine bodyPost_ret (results_ct rfl _ _ gr 28 #[.slice none 0 0, .slice none 0 0] (0, 0) _ rfl (blk_put (blk_put BKR.out 0 _ rfl) 1 _ rfl) Try.underlying28 rfl (by kernel_rfl)) rfl ?_
    exact ⟨_, _, rfl, Kd.S_nil _ _ _ _ _, Kd.S_nil _ _ _ _ _, (HB.out.setCell (p := ⟨gr, 0, none⟩) GR.out _).setCell (p := ⟨gr, 1, none⟩) GR.out _⟩
  rw [if_neg c1] at h
  have c1b := decide_eq_false c1
  by_cases c2 : a0 > 1024
  · rw [if_pos c2] at h
    have c2b := decide_eq_true c2
    obtain ⟨rfl, rfl, rfl⟩ : [] = r1 ∧ [] = r2 ∧ 4 = r3 := by simpa using h
    clear h
    go_enter Try.func15, Try.ntmps15
    go_wp2_with (first
      | ((with_reducible refine gate_dst (N := 2) rfl ?_); refine box_event ?hg (N := 2) ?hd (cs := #[.slice none 0 0, .slice none 0 0]) (t := 28) ?hr ?_; (case hd => rfl); (case hg => rfl); (case hr => first | (go_simp; done) | (go_simp; rfl)); intro gr hgr w2 hbox hb; have GR := Aside0.mk (by rw [hgr]; exact Nat.le_refl _ : w.heap.size ≤ gr); have HB := Aside0.mk hb; have BKR := Aside0.mk hbox; clear hb hbox hgr; have hr0 := (blk_cell BKR.out 0).trans rfl; have hr1 := (blk_cell BKR.out 1).trans rfl; have hf0 := blk_frozen BKR.out 0; have hf1 := blk_frozen BKR.out 1))
    refine bodyPost_ret (results_ct rfl _ _ gr 28 #[.slice none 0 0, .slice none 0 0] (0, 0) _ rfl (blk_put (blk_put BKR.out 0 _ rfl) 1 _ rfl) Try.underlying28 rfl (by kernel_rfl)) rfl ?_
    exact ⟨_, _, rfl, Kd.S_nil _ _ _ _ _, Kd.S_nil _ _ _ _ _, (HB.out.setCell (p := ⟨gr, 0, none⟩) GR.out _).setCell (p := ⟨gr, 1, none⟩) GR.out _⟩
  rw [if_neg c2] at h
  have c2b := decide_eq_false c2
  obtain ⟨n, rfl⟩ : ∃ n : Nat, a0 = (n : Int) := ⟨a0.toNat, by omega⟩
  rw [Int.toNat_natCast] at h
  obtain ⟨rfl, rfl, rfl⟩ : List.replicate n zeros64 = r1 ∧ [] = r2 ∧ 0 = r3 := by simpa using h
  have hn0 : 1 ≤ n := by omega
  have hn1 : n ≤ 1024 := by omega
  clear h c1 c2
  go_enter Try.func15, Try.ntmps15
  go_wp2_with (first
    | ((with_reducible refine gate_dst (N := 2) rfl ?_); refine box_event ?hg (N := 2) ?hd (cs := #[.slice none 0 0, .slice none 0 0]) (t := 28) ?hr ?_; (case hd => rfl); (case hg => rfl); (case hr => first | (go_simp; done) | (go_simp; rfl)); intro gr hgr w2 hbox hb; have GR := Aside0.mk (by rw [hgr]; exact Nat.le_refl _ : w.heap.size ≤ gr); have HB := Aside0.mk hb; have BKR := Aside0.mk hbox; clear hb hbox hgr)
    | ((with_reducible refine gate_dst (N := 14) rfl ?_); refine Kd.S_make (Kd.slice 5 (Kd.int .u8)) (w0 := w) w.heap.size 50 rfl (N := 14) rfl 25 _ _ rfl (n : Int) rfl rfl Try.underlying25 (.slice none 0 0) 24 info50 rfl (by show 0 < 1; decide) (by omega) ([] : List Int) (ok := fun _ => True) (okp := fun _ => True) ⟨_, rfl, Kd.R_nil _ _ _ _ _⟩ (fun _ hk => hk) trivial (by omega) (by omega) HB.out HB.out.size ?_
       intro v3 w3 ho3 hb3 hg3 _
       rw [Int.toNat_natCast] at ho3
       replace BKR := Aside0.mk (blk_grown BKR.out hg3 (by simp))
       have HS := Aside0.mk ho3
       replace HB := Aside0.mk hb3
       clear ho3 hb3 hg3
       obtain ⟨g, cap, e3, hgb, _, _, _⟩ := Kd.S_form HS.out (by rw [List.length_replicate]; omega)
       rw [List.length_replicate] at e3
       subst e3))
  obtain ⟨gt, hgt⟩ : ∃ gt, gt = w3.heap.size := ⟨_, rfl⟩
  obtain ⟨wt, hwt⟩ : ∃ wt, wt = w3.alloc (.cells #[.slice (some ⟨g, 0, none⟩) n cap, .slice none 0 0] 28) := ⟨_, rfl⟩
  have BKT := Aside0.mk (show wt.heap[gt]? = some (.cells #[.slice (some ⟨g, 0, none⟩) n cap, .slice none 0 0] 28 (0, 0)) from by rw [hwt, hgt]; exact blk_new _ _)
  have GT := Aside0.mk (show w.heap.size ≤ gt from by rw [hgt]; exact HB.out.size)
  have NT := Aside0.mk (show gr ≠ gt from by have := blk_lt BKR.out; omega)
  replace BKR := Aside0.mk (show wt.heap[gr]? = some (.cells #[.slice none 0 0, .slice none 0 0] 28 (0, 0)) from by rw [hwt]; exact blk_alloc BKR.out _)
  replace HS := Aside0.mk (show Kd.S (Kd.slice 5 (Kd.int .u8)) 50 wt w.heap.size (fun _ => True) (.slice (some ⟨g, 0, none⟩) n cap) (made n 0) from by rw [hwt]; exact Kd.S_alloc HS.out _)
  replace HB := Aside0.mk (show Below w.heap.size w wt from by rw [hwt]; exact below_alloc HB.out _)
  rw [← hwt, ← hgt]
  clear hgt hwt
  go_loopw [19] (fun i wr => ∃ j : Nat, j ≤ n ∧ i = .int .i64 j ∧ Hid (Kd.S (Kd.slice 5 (Kd.int .u8)) 50 wr w.heap.size (fun _ => True) (.slice (some ⟨g, 0, none⟩) n cap) (made n j)) ∧ Hid (wr.heap[gt]? = some (.cells #[.slice (some ⟨g, 0, none⟩) n cap, .slice none 0 0] 28 (0, 0))) ∧ Hid (wr.heap[gr]? = some (.cells #[.slice none 0 0, .slice none 0 0] 28 (0, 0))) ∧ Hid (Below w.heap.size w wr)) (fun i _ => n - (intOf i).toNat)
  case atStart => exact ⟨0, by omega, rfl, Lib.hid HS.out, Lib.hid BKT.out, Lib.hid BKR.out, Lib.hid HB.out⟩
  case round =>
    clear HS BKT BKR HB
    obtain ⟨j, hj, rfl, HS, BKT, BKR, HB⟩ := hrel
    by_cases hlt : j < n
    · go_wp2_with fail
      replace BKT := Aside0.mk (blk_drew BKT.out)
      replace BKR := Aside0.mk (blk_drew BKR.out)
      replace HB := Aside0.mk (below_drew1 HB.out)
      replace HS := Aside0.mk (Kd.S_drew HS.out)
      have hgl : g < wr.drew.heap.size := Kd.S_lt HS.out g (by simp [Value.ownBlock])
      refine start_ (n := 6) (S := fun w' => w'.cell? ⟨gt, 0, none⟩ = some (.slice (some ⟨g, 0, none⟩) n cap)) (ds := [5]) #[false, false, false, false, false, false] (by kernel_rfl) rfl rfl ((blk_cell BKT.out 0).trans rfl) (fun hHeld => ?_)
      refine pure_ (i := 0) (N := some 22) (v := ?_) (a' := ?_) #[true, false, false, false, false, false] rfl rfl (by kernel_rfl) (fun _ _ _ h => h) (Or.inl ⟨by rfl, ?_⟩) ?_ ?_
      rotate_left
      · intro w'
        go_simp
        with_reducible rfl
      rotate_left
      · simp only [Act.put, List.setIfInBounds_toArray, List.set_cons_zero, List.set_cons_succ, i64_w, i32_w]
        rfl
      refine pure_ (i := 2) (N := some 24) (v := ?_) (a' := ?_) #[true, false, true, false, false, false] rfl rfl (by kernel_rfl) (fun _ _ _ h => h) (Or.inl ⟨by rfl, ?_⟩) ?_ ?_
      rotate_left
      · intro w'
        go_simp
        with_reducible rfl
      rotate_left
      · simp only [Act.put, List.setIfInBounds_toArray, List.set_cons_zero, List.set_cons_succ, i64_w, i32_w]
        rfl
      refine take_ (i := 1) (N := some 23) (v := ?_) (a' := ?_) #[true, true, true, false, false, false] rfl rfl (by kernel_rfl) (fun _ _ _ h => h) (Or.inl ⟨by rfl, ?_⟩) hHeld ?_ ?_
      rotate_left
      · intro w' s0
        go_simp
        with_reducible rfl
      rotate_left
      · simp only [Act.put, List.setIfInBounds_toArray, List.set_cons_zero, List.set_cons_succ, i64_w, i32_w]
        rfl
      refine one_ (i := 3) (N := some 25) #[true, true, true, true, false, false] rfl rfl (by kernel_rfl) (by decide) (fun K hK => ?_)
      refine Kd.R_make_step (Kd.int .u8) _ 5 (by rfl) (N := 25) rfl 50 _ _ rfl 64 rfl rfl Try.underlying50 (.int .u8 0) 1 info5 rfl (by decide) (by omega) 0 (ok := fun _ => True) (okp := fun _ => True) rfl (fun _ hk => hk) trivial (by omega) (by omega) (Below.refl _ _) (Nat.le_refl _) ?_
      intro v6 w6 ho6 hb6 hg6 hn6
      obtain ⟨a6, d6, e6⟩ := Kd.R_slice ho6
      subst e6
      rw [List.length_replicate] at ho6 ⊢
      have HO := Aside0.mk (show (Kd.int .u8).R 5 w6 wr.drew.heap.size (fun _ => True) (.slice a6 64 d6) zeros64 from ho6)
      replace BKT := Aside0.mk (blk_below BKT.out hb6)
      replace BKR := Aside0.mk (blk_below BKR.out hb6)
      have HS6 := Aside0.mk (Kd.S_mono (Kd.S_old HS.out hb6) (fun k hk => ⟨trivial, fun h_ => by have := hk.2; omega⟩ : ∀ k, True ∧ k < wr.drew.heap.size → True ∧ ¬ (wr.drew.heap.size ≤ k)))
      have hle := HB.out.size
      replace HB := Aside0.mk (below_step HB.out hb6)
      clear ho6 hb6 hg6 hn6
      refine hK.out _ _ ((blk_cell BKT.out 0).trans rfl) (fun hHeld => ?_)
      clear hK K
      refine norm_ (a' := ?_) ?_ ?_
      rotate_left
      · show Act.put _ (some 25) _ = _
        simp only [Act.put, List.setIfInBounds_toArray, List.set_cons_zero, List.set_cons_succ, i64_w, i32_w]
        rfl
      refine pure_ (i := 4) (N := some 26) (v := ?_) (a' := ?_) #[true, true, true, true, true, false] rfl rfl (by kernel_rfl) (fun _ _ _ h => h) (Or.inl ⟨by rfl, ?_⟩) ?_ ?_
      rotate_left
      · intro w'
        go_simp
        with_reducible rfl
      rotate_left
      · simp only [Act.put, List.setIfInBounds_toArray, List.set_cons_zero, List.set_cons_succ, i64_w, i32_w]
        rfl
      refine last_ (i := 5) (N := none) #[true, true, true, true, true, true] rfl rfl (by kernel_rfl) (by decide) (fun K hK => ?_)
      obtain ⟨oki, c, hcl, hM, hcc, hfr, hoki, hH⟩ := Kd.S_elem HS6.out ([] : List Int) (j : Int) (by omega) (by omega)
      obtain ⟨u, rfl, _⟩ := hM
      rw [Int.toNat_natCast] at hcc hfr
      have hcw : w6.cell? ⟨g, j, none⟩ = some u := by have := hcc 0 _ rfl; rwa [show j * (Kd.slice 5 (Kd.int .u8)).sz + 0 = j from by show j * 1 + 0 = j; omega] at this
      have hfw : w6.frozen? ⟨g, j, none⟩ = false := by have := hfr 0; rwa [show j * (Kd.slice 5 (Kd.int .u8)).sz + 0 = j from by show j * 1 + 0 = j; omega] at this
      refine skip_ (w1 := ?_) (by rfl) rfl ?_ ?_
      rotate_left
      · go_simp
        rfl
      refine hK.out _ _ ?_
      clear hK K
      refine done_ (by kernel_rfl) ?_
      have hs7 := (Kd.S_seg (ok := fun _ => True) (okg := fun k => wr.drew.heap.size ≤ k) hH (by omega) (by omega) (seg := [.slice a6 64 d6]) (j := 0) (by show 0 + 1 ≤ 1; decide) (x' := zeros64) (okp := fun k => wr.drew.heap.size ≤ k)
        (⟨_, rfl, Kd.R_lower (Kd.R_mono (Kd.R_bound HO.out) (fun k hk => hk.2.1)) hle⟩ : (Kd.slice 5 (Kd.int .u8)).M w6 w.heap.size (fun k => wr.drew.heap.size ≤ k) zeros64 [.slice a6 64 d6]) (fun k hk => .inr hk) (fun k hk => ⟨trivial, by omega⟩)).1
      rw [Int.toNat_natCast, show j * (Kd.slice 5 (Kd.int .u8)).sz + 0 = j from by show j * 1 + 0 = j; omega, made_set hlt] at hs7
      obtain ⟨cg, hcg⟩ := Kd.S_typed HS6.out g (by simp [Value.ownBlock])
      have hgb := Kd.S_base HS6.out g (by simp [Value.ownBlock])
      have HS7 := Lib.hid (show Kd.S (Kd.slice 5 (Kd.int .u8)) 50 (w6.setCell ⟨g, j, none⟩ (.slice a6 64 d6)) w.heap.size (fun _ => True) (.slice (some ⟨g, 0, none⟩) n cap) (made n (j + 1)) from hs7)
      have hn1 : gt ≠ g := blk_ne BKT.out hcg (by decide)
      have hn2 : gr ≠ g := blk_ne BKR.out hcg (by decide)
      replace BKT := Lib.hid (blk_far BKT.out (p := ⟨g, j, none⟩) hn1 (.slice a6 64 d6))
      replace BKR := Lib.hid (blk_far BKR.out (p := ⟨g, j, none⟩) hn2 (.slice a6 64 d6))
      replace HB := Lib.hid (HB.out.setCell (p := ⟨g, j, none⟩) hgb (.slice a6 64 d6))
      clear hs7 hH hcc hfr hcw hfw hcl hoki HS6 HO HS hcg hn1 hn2 hle hHeld
      go_wp2_with fail
      go_roundw
      case rel => exact ⟨j + 1, by omega, by go_num, HS7, BKT, BKR, HB⟩
      case measure => simp [intOf]; omega
    · obtain rfl : j = n := by omega
      have hS0 : Kd.S (Kd.slice 5 (Kd.int .u8)) 50 wr w.heap.size (fun _ => True) (.slice (some ⟨g, 0, none⟩) j cap) (List.replicate j zeros64) := by
        have := HS.out
        rw [made, Nat.sub_self, List.replicate_zero, List.append_nil] at this
        exact this
      have HS0 := Aside0.mk hS0
      clear hS0
      have hy0 : wr.cell? ⟨gt, 0, none⟩ = some (.slice (some ⟨g, 0, none⟩) j cap) := (blk_cell BKT.out 0).trans rfl
      have hy1 : wr.cell? ⟨gt, 1, none⟩ = some (.slice none 0 0) := (blk_cell BKT.out 1).trans rfl
      have hr0 : wr.cell? ⟨gr, 0, none⟩ = some (.slice none 0 0) := (blk_cell BKR.out 0).trans rfl
      have hr1 : wr.cell? ⟨gr, 1, none⟩ = some (.slice none 0 0) := (blk_cell BKR.out 1).trans rfl
      have hg0 := blk_frozen BKR.out 0
      have hg1 := blk_frozen BKR.out 1
      go_wp2_with fail
      refine bodyPost_ret (results_ct rfl _ _ gr 28 #[.slice (some ⟨g, 0, none⟩) j cap, .slice none 0 0] (0, 0) _ rfl (blk_put (blk_put BKR.out 0 _ rfl) 1 _ rfl) Try.underlying28 rfl (by kernel_rfl)) rfl ?_
      exact ⟨_, _, rfl, Kd.S_set (Kd.S_set HS0.out BKR.out (by decide) 0 _) (blk_put BKR.out 0 _ rfl) (by decide) 1 _, Kd.S_nil _ _ _ _ _, (HB.out.setCell (p := ⟨gr, 0, none⟩) GR.out _).setCell (p := ⟨gr, 1, none⟩) GR.out _⟩
end Go.Proofs.Ytiiphlfgdkjjiaa.Q
