/- super's fields and Check; no condition. -/
import Derived.Test.YtiiphlfgdkjjiaaZDisksSLib
namespace Go.Proofs.Ytiiphlfgdkjjiaa.Q
open Go.RowKit Go.Proofs.YtiiphlfgdkjjiaaW.PrintWords Go.Proofs.YtiiphlfgdkjjiaaW.PrintLast Go.Proofs.YtiiphlfgdkjjiaaW.PrintMore
set_option linter.unusedVariables false
set_option linter.unusedSimpArgs false

/-- Pointers to a block's five numbers. -/
def ptrs (g : Nat) : Value := .agg #[.pointer (some ⟨g, 0, none⟩), .pointer (some ⟨g, 1, none⟩), .pointer (some ⟨g, 2, none⟩), .pointer (some ⟨g, 3, none⟩), .pointer (some ⟨g, 4, none⟩)]
set_option maxHeartbeats 2000000 in
set_option maxRecDepth 100000 in
theorem fields_any (g : Nat) (w : World) : Calls Try.prog 61 #[.pointer (some ⟨g, 0, none⟩)] w fun e w' => e = .returned (ptrs g) ∧ Below w.heap.size w w' := by
  have hu := Try.underlying33
  have hua := Try.underlying103
  go_enter Try.func61, Try.ntmps61
  go_wp2_with fail
  refine start_ (n := 17) (S := fun w' => True) (ds := [16]) #[false, false, false, false, false, false, false, false, false, false, false, false, false, false, false, false, false] (by kernel_rfl) rfl rfl trivial (fun hHeld => ?_)
  refine pure_ (i := 0) (N := some 3) (v := ?_) (a' := ?_) #[true, false, false, false, false, false, false, false, false, false, false, false, false, false, false, false, false] rfl rfl (by kernel_rfl) (fun _ _ _ h => h) (Or.inl ⟨by rfl, ?_⟩) ?_ ?_
  rotate_left
  · intro w'
    go_simp
    with_reducible rfl
  rotate_left
  · simp only [Act.put, List.setIfInBounds_toArray, List.set_cons_zero, List.set_cons_succ, i64_w, i32_w]
    rfl
  refine pure_ (i := 1) (N := some 4) (v := ?_) (a' := ?_) #[true, true, false, false, false, false, false, false, false, false, false, false, false, false, false, false, false] rfl rfl (by kernel_rfl) (fun _ _ _ h => h) (Or.inl ⟨by rfl, ?_⟩) ?_ ?_
  rotate_left
  · intro w'
    go_simp
    with_reducible rfl
  rotate_left
  · simp only [Act.put, List.setIfInBounds_toArray, List.set_cons_zero, List.set_cons_succ, i64_w, i32_w]
    rfl
  refine pure_ (i := 2) (N := some 5) (v := ?_) (a' := ?_) #[true, true, true, false, false, false, false, false, false, false, false, false, false, false, false, false, false] rfl rfl (by kernel_rfl) (fun _ _ _ h => h) (Or.inl ⟨by rfl, ?_⟩) ?_ ?_
  rotate_left
  · intro w'
    go_simp
    with_reducible rfl
  rotate_left
  · simp only [Act.put, List.setIfInBounds_toArray, List.set_cons_zero, List.set_cons_succ, i64_w, i32_w]
    rfl
  refine pure_ (i := 3) (N := some 6) (v := ?_) (a' := ?_) #[true, true, true, true, false, false, false, false, false, false, false, false, false, false, false, false, false] rfl rfl (by kernel_rfl) (fun _ _ _ h => h) (Or.inl ⟨by rfl, ?_⟩) ?_ ?_
  rotate_left
  · intro w'
    go_simp
    with_reducible rfl
  rotate_left
  · simp only [Act.put, List.setIfInBounds_toArray, List.set_cons_zero, List.set_cons_succ, i64_w, i32_w]
    rfl
  refine pure_ (i := 4) (N := some 7) (v := ?_) (a' := ?_) #[true, true, true, true, true, false, false, false, false, false, false, false, false, false, false, false, false] rfl rfl (by kernel_rfl) (fun _ _ _ h => h) (Or.inl ⟨by rfl, ?_⟩) ?_ ?_
  rotate_left
  · intro w'
    go_simp
    with_reducible rfl
  rotate_left
  · simp only [Act.put, List.setIfInBounds_toArray, List.set_cons_zero, List.set_cons_succ, i64_w, i32_w]
    rfl
  refine pure_ (i := 5) (N := some 8) (v := ?_) (a' := ?_) #[true, true, true, true, true, true, false, false, false, false, false, false, false, false, false, false, false] rfl rfl (by kernel_rfl) (fun _ _ _ h => h) (Or.inl ⟨by rfl, ?_⟩) ?_ ?_
  rotate_left
  · intro w'
    go_simp
    with_reducible rfl
  rotate_left
  · simp only [Act.put, List.setIfInBounds_toArray, List.set_cons_zero, List.set_cons_succ, i64_w, i32_w]
    rfl
  refine pure_ (i := 6) (N := some 9) (v := ?_) (a' := ?_) #[true, true, true, true, true, true, true, false, false, false, false, false, false, false, false, false, false] rfl rfl (by kernel_rfl) (fun _ _ _ h => h) (Or.inl ⟨by rfl, ?_⟩) ?_ ?_
  rotate_left
  · intro w'
    go_simp
    with_reducible rfl
  rotate_left
  · simp only [Act.put, List.setIfInBounds_toArray, List.set_cons_zero, List.set_cons_succ, i64_w, i32_w]
    rfl
  refine pure_ (i := 7) (N := some 10) (v := ?_) (a' := ?_) #[true, true, true, true, true, true, true, true, false, false, false, false, false, false, false, false, false] rfl rfl (by kernel_rfl) (fun _ _ _ h => h) (Or.inl ⟨by rfl, ?_⟩) ?_ ?_
  rotate_left
  · intro w'
    go_simp
    with_reducible rfl
  rotate_left
  · simp only [Act.put, List.setIfInBounds_toArray, List.set_cons_zero, List.set_cons_succ, i64_w, i32_w]
    rfl
  refine pure_ (i := 8) (N := some 11) (v := ?_) (a' := ?_) #[true, true, true, true, true, true, true, true, true, false, false, false, false, false, false, false, false] rfl rfl (by kernel_rfl) (fun _ _ _ h => h) (Or.inl ⟨by rfl, ?_⟩) ?_ ?_
  rotate_left
  · intro w'
    go_simp
    with_reducible rfl
  rotate_left
  · simp only [Act.put, List.setIfInBounds_toArray, List.set_cons_zero, List.set_cons_succ, i64_w, i32_w]
    rfl
  refine pure_ (i := 9) (N := some 12) (v := ?_) (a' := ?_) #[true, true, true, true, true, true, true, true, true, true, false, false, false, false, false, false, false] rfl rfl (by kernel_rfl) (fun _ _ _ h => h) (Or.inl ⟨by rfl, ?_⟩) ?_ ?_
  rotate_left
  · intro w'
    go_simp
    with_reducible rfl
  rotate_left
  · simp only [Act.put, List.setIfInBounds_toArray, List.set_cons_zero, List.set_cons_succ, i64_w, i32_w]
    rfl
  refine pure_ (i := 10) (N := some 13) (v := ?_) (a' := ?_) #[true, true, true, true, true, true, true, true, true, true, true, false, false, false, false, false, false] rfl rfl (by kernel_rfl) (fun _ _ _ h => h) (Or.inl ⟨by rfl, ?_⟩) ?_ ?_
  rotate_left
  · intro w'
    go_simp
    with_reducible rfl
  rotate_left
  · simp only [Act.put, List.setIfInBounds_toArray, List.set_cons_zero, List.set_cons_succ, i64_w, i32_w]
    rfl
  refine pure_ (i := 11) (N := some 14) (v := ?_) (a' := ?_) #[true, true, true, true, true, true, true, true, true, true, true, true, false, false, false, false, false] rfl rfl (by kernel_rfl) (fun _ _ _ h => h) (Or.inl ⟨by rfl, ?_⟩) ?_ ?_
  rotate_left
  · intro w'
    go_simp
    with_reducible rfl
  rotate_left
  · simp only [Act.put, List.setIfInBounds_toArray, List.set_cons_zero, List.set_cons_succ, i64_w, i32_w]
    rfl
  refine pure_ (i := 12) (N := some 15) (v := ?_) (a' := ?_) #[true, true, true, true, true, true, true, true, true, true, true, true, true, false, false, false, false] rfl rfl (by kernel_rfl) (fun _ _ _ h => h) (Or.inl ⟨by rfl, ?_⟩) ?_ ?_
  rotate_left
  · intro w'
    go_simp
    with_reducible rfl
  rotate_left
  · simp only [Act.put, List.setIfInBounds_toArray, List.set_cons_zero, List.set_cons_succ, i64_w, i32_w]
    rfl
  refine pure_ (i := 13) (N := some 16) (v := ?_) (a' := ?_) #[true, true, true, true, true, true, true, true, true, true, true, true, true, true, false, false, false] rfl rfl (by kernel_rfl) (fun _ _ _ h => h) (Or.inl ⟨by rfl, ?_⟩) ?_ ?_
  rotate_left
  · intro w'
    go_simp
    with_reducible rfl
  rotate_left
  · simp only [Act.put, List.setIfInBounds_toArray, List.set_cons_zero, List.set_cons_succ, i64_w, i32_w]
    rfl
  refine pure_ (i := 14) (N := some 17) (v := ?_) (a' := ?_) #[true, true, true, true, true, true, true, true, true, true, true, true, true, true, true, false, false] rfl rfl (by kernel_rfl) (fun _ _ _ h => h) (Or.inl ⟨by rfl, ?_⟩) ?_ ?_
  rotate_left
  · intro w'
    go_simp
    with_reducible rfl
  rotate_left
  · simp only [Act.put, List.setIfInBounds_toArray, List.set_cons_zero, List.set_cons_succ, i64_w, i32_w]
    rfl
  refine pure_ (i := 15) (N := some 18) (v := ?_) (a' := ?_) #[true, true, true, true, true, true, true, true, true, true, true, true, true, true, true, true, false] rfl rfl (by kernel_rfl) (fun _ _ _ h => h) (Or.inl ⟨by rfl, ?_⟩) ?_ ?_
  rotate_left
  · intro w'
    go_simp
    with_reducible rfl
  rotate_left
  · simp only [Act.put, List.setIfInBounds_toArray, List.set_cons_zero, List.set_cons_succ, i64_w, i32_w]
    rfl
  refine last_ (i := 16) (N := none) #[true, true, true, true, true, true, true, true, true, true, true, true, true, true, true, true, true] rfl rfl (by kernel_rfl) (by decide) (fun K hK => ?_)
  refine skip_ (w1 := ?_) (by rfl) rfl ?_ ?_
  rotate_left
  · go_simp
    rfl
  refine hK.out _ _ ?_
  clear hK K
  refine done_ (by kernel_rfl) ?_
  have BK := blk_drew (blk_new w (.cells #[.pointer (some ⟨g, 0, none⟩), .pointer (some ⟨g, 1, none⟩), .pointer (some ⟨g, 2, none⟩), .pointer (some ⟨g, 3, none⟩), .pointer (some ⟨g, 4, none⟩)] 103))
  have c0 := (blk_cell BK 0).trans rfl
  have c1 := (blk_cell BK 1).trans rfl
  have c2 := (blk_cell BK 2).trans rfl
  have c3 := (blk_cell BK 3).trans rfl
  have c4 := (blk_cell BK 4).trans rfl
  go_wp2_with fail
  refine bodyPost_ret (v := ptrs g) (by simp [results, Try.f61, go_sem, ptrs, hua, c0, c1, c2, c3, c4]) rfl ⟨rfl, below_drew (below_alloc (Below.refl _ _) _)⟩
/-- One of the five. -/
theorem ptrs_at (g k : Nat) (hk : k < 5) (W : World) : (Instr.index 103 (.agg #[.pointer (some ⟨g, 0, none⟩), .pointer (some ⟨g, 1, none⟩), .pointer (some ⟨g, 2, none⟩), .pointer (some ⟨g, 3, none⟩), .pointer (some ⟨g, 4, none⟩)]) (.int .i64 (k : Int))).run Try.prog W = .ok (.pointer (some ⟨g, k, none⟩)) W := by
  rcases (by omega : k = 0 ∨ k = 1 ∨ k = 2 ∨ k = 3 ∨ k = 4) with rfl | rfl | rfl | rfl | rfl <;> kernel_rfl

/-- A number of a block, and a block's numbers. -/
def numOk (x : Int) : Bool := decide (0 ≤ x) && decide (x ≤ 1099511627776)
def blkOk (a0 a1 a2 a3 a4 : Int) : Bool := [a0, a1, a2, a3, a4].all numOk
theorem numOk_out {x : Int} (h : numOk x = true) : 0 ≤ x ∧ x ≤ 1099511627776 := by
  simpa [numOk] using h
theorem blkOk_out {a0 a1 a2 a3 a4 : Int} (h : blkOk a0 a1 a2 a3 a4 = true) : (0 ≤ a0 ∧ a0 ≤ 1099511627776) ∧ (0 ≤ a1 ∧ a1 ≤ 1099511627776) ∧ (0 ≤ a2 ∧ a2 ≤ 1099511627776) ∧ (0 ≤ a3 ∧ a3 ≤ 1099511627776) ∧ (0 ≤ a4 ∧ a4 ≤ 1099511627776) := by
  simpa [blkOk, numOk] using h
theorem blkOk_no {a0 a1 a2 a3 a4 x : Int} (hx : x ∈ [a0, a1, a2, a3, a4]) (h : numOk x = false) : blkOk a0 a1 a2 a3 a4 = false := by
  rw [blkOk, List.all_eq_false]
  exact ⟨x, hx, by rw [h]; decide⟩
def super_Check.f (a0 a1 a2 a3 a4 : Int) : Option Int := some (if blkOk a0 a1 a2 a3 a4 = true then 0 else 4)
/-- The numbers ahead of k are in order. -/
def preOk (a0 a1 a2 a3 a4 : Int) (k : Nat) : Prop := ([a0, a1, a2, a3, a4].take k).all numOk = true
theorem preOk_succ {a0 a1 a2 a3 a4 : Int} {k : Nat} (h : preOk a0 a1 a2 a3 a4 k) (hk : k < 5) (hx : numOk ([a0, a1, a2, a3, a4].getD k 0) = true) : preOk a0 a1 a2 a3 a4 (k + 1) := by
  unfold preOk at h ⊢
  have hl : k < [a0, a1, a2, a3, a4].length := hk
  rw [List.take_succ_eq_append_getElem hl, List.all_append, h]
  rw [List.getD_eq_getElem?_getD, List.getElem?_eq_getElem hl] at hx
  simpa using hx

set_option maxHeartbeats 4000000 in
set_option maxRecDepth 100000 in
theorem super_Check.calls (a0 a1 a2 a3 a4 : Int) (r : Int) (w : World) (h : super_Check.f a0 a1 a2 a3 a4 = some r) :
    Calls Try.prog 45 #[.agg #[.int .i64 a0, .int .i64 a1, .int .i64 a2, .int .i64 a3, .int .i64 a4]] w fun e w' => e = .returned (.int .i64 r) ∧ Below w.heap.size w w' := by
  have hu := Try.underlying33
  have hua := Try.underlying103
  have HR := Aside0.mk (Option.some.inj h)
  clear h
  go_enter Try.func45, Try.ntmps45
  go_wp2_with fail
  refine (fields_any _ _).mono ?_
  rintro e w1 ⟨rfl, hb⟩
  have BK := Aside0.mk (blk_below (blk_new w (.cells #[.int .i64 a0, .int .i64 a1, .int .i64 a2, .int .i64 a3, .int .i64 a4] 33)) hb)
  have HB := Aside0.mk (below_step (below_alloc (Below.refl w.heap.size w) (.cells #[.int .i64 a0, .int .i64 a1, .int .i64 a2, .int .i64 a3, .int .i64 a4] 33)) hb)
  clear hb
  unfold ptrs
  obtain ⟨gb, hgb⟩ : ∃ gb, gb = w.heap.size := ⟨_, rfl⟩
  rw [← hgb] at BK ⊢
  have c0 : w1.cell? ⟨gb, 0, none⟩ = some (.int .i64 a0) := (blk_cell BK.out 0).trans rfl
  have c1 : w1.cell? ⟨gb, 1, none⟩ = some (.int .i64 a1) := (blk_cell BK.out 1).trans rfl
  have c2 : w1.cell? ⟨gb, 2, none⟩ = some (.int .i64 a2) := (blk_cell BK.out 2).trans rfl
  have c3 : w1.cell? ⟨gb, 3, none⟩ = some (.int .i64 a3) := (blk_cell BK.out 3).trans rfl
  have c4 : w1.cell? ⟨gb, 4, none⟩ = some (.int .i64 a4) := (blk_cell BK.out 4).trans rfl
  clear hgb
  go_wp2_with fail
  go_loop [6] (fun i => ∃ k : Nat, k ≤ 5 ∧ i = .int .i64 k ∧ preOk a0 a1 a2 a3 a4 k) (fun i => 5 - (intOf i).toNat)
  case atStart => exact ⟨0, by omega, rfl, rfl⟩
  case round =>
    obtain ⟨k, hk, rfl, hpre⟩ := hrel
    have HP := Aside0.mk hpre
    clear hpre
    by_cases hlt : k < 5
    · rcases (by omega : k = 0 ∨ k = 1 ∨ k = 2 ∨ k = 3 ∨ k = 4) with rfl | rfl | rfl | rfl | rfl
      · have hix : ∀ W : World, (Instr.index 103 (.agg #[.pointer (some ⟨gb, 0, none⟩), .pointer (some ⟨gb, 1, none⟩), .pointer (some ⟨gb, 2, none⟩), .pointer (some ⟨gb, 3, none⟩), .pointer (some ⟨gb, 4, none⟩)]) (.int .i64 0)).run Try.prog W = .ok (.pointer (some ⟨gb, 0, none⟩)) W := ptrs_at gb 0 (by omega)
        by_cases hx : numOk a0 = true
        · have hx2 := numOk_out hx
          have hb1 : decide (a0 < 0) = false := decide_eq_false (by omega)
          have hb2 : decide (1099511627776 < a0) = false := decide_eq_false (by omega)
          have HX := Aside0.mk hx
          clear hx hx2
          go_wp2_with fail
          go_round
          case rel => exact ⟨1, by omega, rfl, preOk_succ HP.out (by omega) HX.out⟩
          case measure => simp [intOf]
        · have hxf : numOk a0 = false := by simpa using hx
          have HN := Aside0.mk (blkOk_no (a0 := a0) (a1 := a1) (a2 := a2) (a3 := a3) (a4 := a4) (by simp) hxf)
          by_cases hb0 : a0 < 0
          · have hb1 : decide (a0 < 0) = true := decide_eq_true hb0
            clear hb0 hx hxf
            go_wp2_with fail
            go_ret
            exact ⟨by rw [← HR.out, HN.out, if_neg (by decide)]; rfl, HB.out⟩
          · have hb1 : decide (a0 < 0) = false := decide_eq_false hb0
            have hb2 : decide (1099511627776 < a0) = true := by
              have : ¬ (0 ≤ a0 ∧ a0 ≤ 1099511627776) := fun h => hx (by simpa [numOk] using h)
              exact decide_eq_true (by omega)
            clear hb0 hx hxf
            go_wp2_with fail
            go_ret
            exact ⟨by rw [← HR.out, HN.out, if_neg (by decide)]; rfl, HB.out⟩
      · have hix : ∀ W : World, (Instr.index 103 (.agg #[.pointer (some ⟨gb, 0, none⟩), .pointer (some ⟨gb, 1, none⟩), .pointer (some ⟨gb, 2, none⟩), .pointer (some ⟨gb, 3, none⟩), .pointer (some ⟨gb, 4, none⟩)]) (.int .i64 1)).run Try.prog W = .ok (.pointer (some ⟨gb, 1, none⟩)) W := ptrs_at gb 1 (by omega)
        by_cases hx : numOk a1 = true
        · have hx2 := numOk_out hx
          have hb1 : decide (a1 < 0) = false := decide_eq_false (by omega)
          have hb2 : decide (1099511627776 < a1) = false := decide_eq_false (by omega)
          have HX := Aside0.mk hx
          clear hx hx2
          go_wp2_with fail
          go_round
          case rel => exact ⟨2, by omega, rfl, preOk_succ HP.out (by omega) HX.out⟩
          case measure => simp [intOf]
        · have hxf : numOk a1 = false := by simpa using hx
          have HN := Aside0.mk (blkOk_no (a0 := a0) (a1 := a1) (a2 := a2) (a3 := a3) (a4 := a4) (by simp) hxf)
          by_cases hb0 : a1 < 0
          · have hb1 : decide (a1 < 0) = true := decide_eq_true hb0
            clear hb0 hx hxf
            go_wp2_with fail
            go_ret
            exact ⟨by rw [← HR.out, HN.out, if_neg (by decide)]; rfl, HB.out⟩
          · have hb1 : decide (a1 < 0) = false := decide_eq_false hb0
            have hb2 : decide (1099511627776 < a1) = true := by
              have : ¬ (0 ≤ a1 ∧ a1 ≤ 1099511627776) := fun h => hx (by simpa [numOk] using h)
              exact decide_eq_true (by omega)
            clear hb0 hx hxf
            go_wp2_with fail
            go_ret
            exact ⟨by rw [← HR.out, HN.out, if_neg (by decide)]; rfl, HB.out⟩
      · have hix : ∀ W : World, (Instr.index 103 (.agg #[.pointer (some ⟨gb, 0, none⟩), .pointer (some ⟨gb, 1, none⟩), .pointer (some ⟨gb, 2, none⟩), .pointer (some ⟨gb, 3, none⟩), .pointer (some ⟨gb, 4, none⟩)]) (.int .i64 2)).run Try.prog W = .ok (.pointer (some ⟨gb, 2, none⟩)) W := ptrs_at gb 2 (by omega)
        by_cases hx : numOk a2 = true
        · have hx2 := numOk_out hx
          have hb1 : decide (a2 < 0) = false := decide_eq_false (by omega)
          have hb2 : decide (1099511627776 < a2) = false := decide_eq_false (by omega)
          have HX := Aside0.mk hx
          clear hx hx2
          go_wp2_with fail
          go_round
          case rel => exact ⟨3, by omega, rfl, preOk_succ HP.out (by omega) HX.out⟩
          case measure => simp [intOf]
        · have hxf : numOk a2 = false := by simpa using hx
          have HN := Aside0.mk (blkOk_no (a0 := a0) (a1 := a1) (a2 := a2) (a3 := a3) (a4 := a4) (by simp) hxf)
          by_cases hb0 : a2 < 0
          · have hb1 : decide (a2 < 0) = true := decide_eq_true hb0
            clear hb0 hx hxf
            go_wp2_with fail
            go_ret
            exact ⟨by rw [← HR.out, HN.out, if_neg (by decide)]; rfl, HB.out⟩
          · have hb1 : decide (a2 < 0) = false := decide_eq_false hb0
            have hb2 : decide (1099511627776 < a2) = true := by
              have : ¬ (0 ≤ a2 ∧ a2 ≤ 1099511627776) := fun h => hx (by simpa [numOk] using h)
              exact decide_eq_true (by omega)
            clear hb0 hx hxf
            go_wp2_with fail
            go_ret
            exact ⟨by rw [← HR.out, HN.out, if_neg (by decide)]; rfl, HB.out⟩
      · have hix : ∀ W : World, (Instr.index 103 (.agg #[.pointer (some ⟨gb, 0, none⟩), .pointer (some ⟨gb, 1, none⟩), .pointer (some ⟨gb, 2, none⟩), .pointer (some ⟨gb, 3, none⟩), .pointer (some ⟨gb, 4, none⟩)]) (.int .i64 3)).run Try.prog W = .ok (.pointer (some ⟨gb, 3, none⟩)) W := ptrs_at gb 3 (by omega)
        by_cases hx : numOk a3 = true
        · have hx2 := numOk_out hx
          have hb1 : decide (a3 < 0) = false := decide_eq_false (by omega)
          have hb2 : decide (1099511627776 < a3) = false := decide_eq_false (by omega)
          have HX := Aside0.mk hx
          clear hx hx2
          go_wp2_with fail
          go_round
          case rel => exact ⟨4, by omega, rfl, preOk_succ HP.out (by omega) HX.out⟩
          case measure => simp [intOf]
        · have hxf : numOk a3 = false := by simpa using hx
          have HN := Aside0.mk (blkOk_no (a0 := a0) (a1 := a1) (a2 := a2) (a3 := a3) (a4 := a4) (by simp) hxf)
          by_cases hb0 : a3 < 0
          · have hb1 : decide (a3 < 0) = true := decide_eq_true hb0
            clear hb0 hx hxf
            go_wp2_with fail
            go_ret
            exact ⟨by rw [← HR.out, HN.out, if_neg (by decide)]; rfl, HB.out⟩
          · have hb1 : decide (a3 < 0) = false := decide_eq_false hb0
            have hb2 : decide (1099511627776 < a3) = true := by
              have : ¬ (0 ≤ a3 ∧ a3 ≤ 1099511627776) := fun h => hx (by simpa [numOk] using h)
              exact decide_eq_true (by omega)
            clear hb0 hx hxf
            go_wp2_with fail
            go_ret
            exact ⟨by rw [← HR.out, HN.out, if_neg (by decide)]; rfl, HB.out⟩
      · have hix : ∀ W : World, (Instr.index 103 (.agg #[.pointer (some ⟨gb, 0, none⟩), .pointer (some ⟨gb, 1, none⟩), .pointer (some ⟨gb, 2, none⟩), .pointer (some ⟨gb, 3, none⟩), .pointer (some ⟨gb, 4, none⟩)]) (.int .i64 4)).run Try.prog W = .ok (.pointer (some ⟨gb, 4, none⟩)) W := ptrs_at gb 4 (by omega)
        by_cases hx : numOk a4 = true
        · have hx2 := numOk_out hx
          have hb1 : decide (a4 < 0) = false := decide_eq_false (by omega)
          have hb2 : decide (1099511627776 < a4) = false := decide_eq_false (by omega)
          have HX := Aside0.mk hx
          clear hx hx2
          go_wp2_with fail
          go_round
          case rel => exact ⟨5, by omega, rfl, preOk_succ HP.out (by omega) HX.out⟩
          case measure => simp [intOf]
        · have hxf : numOk a4 = false := by simpa using hx
          have HN := Aside0.mk (blkOk_no (a0 := a0) (a1 := a1) (a2 := a2) (a3 := a3) (a4 := a4) (by simp) hxf)
          by_cases hb0 : a4 < 0
          · have hb1 : decide (a4 < 0) = true := decide_eq_true hb0
            clear hb0 hx hxf
            go_wp2_with fail
            go_ret
            exact ⟨by rw [← HR.out, HN.out, if_neg (by decide)]; rfl, HB.out⟩
          · have hb1 : decide (a4 < 0) = false := decide_eq_false hb0
            have hb2 : decide (1099511627776 < a4) = true := by
              have : ¬ (0 ≤ a4 ∧ a4 ≤ 1099511627776) := fun h => hx (by simpa [numOk] using h)
              exact decide_eq_true (by omega)
            clear hb0 hx hxf
            go_wp2_with fail
            go_ret
            exact ⟨by rw [← HR.out, HN.out, if_neg (by decide)]; rfl, HB.out⟩
    · obtain rfl : k = 5 := by omega
      have hok : blkOk a0 a1 a2 a3 a4 = true := HP.out
      have HK := Aside0.mk hok
      clear hok
      go_wp2_with fail
      go_ret
      exact ⟨by rw [← HR.out, HK.out, if_pos rfl]; rfl, HB.out⟩
end Go.Proofs.Ytiiphlfgdkjjiaa.Q
