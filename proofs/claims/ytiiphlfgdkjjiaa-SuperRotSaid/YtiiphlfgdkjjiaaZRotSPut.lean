/- octets.Put: a number's octets, the highest first; no condition but that it has room. -/
import Derived.Lib.Hide
import Derived.Test.YtiiphlfgdkjjiaaZRotSOct
import Derived.Test.YtiiphlfgdkjjiaaZRotSLen
import Derived.Test.YtiiphlfgdkjjiaaZRotQ0
import Derived.Test.YtiiphlfgdkjjiaaZRotRound
namespace Go.Proofs.Ytiiphlfgdkjjiaa.Q
open Go.RowKit Go.Shelf Go.Proofs.YtiiphlfgdkjjiaaW.PrintWords Go.Proofs.YtiiphlfgdkjjiaaW.PrintLast Go.Proofs.YtiiphlfgdkjjiaaW.PrintMore
set_option linter.unusedVariables false
set_option linter.unusedSimpArgs false
attribute [local go_sem] Oper.semAt_some

def octAt (n s : Nat) : Int := ((n / 2 ^ s % 256 : Nat) : Int)
def beOf (n size : Nat) : List Int := (up size size).map (octAt n)
theorem cells_ownS {W W' : World} {B t : Nat} {cs : Array Value} {row : Option Nat} (h : W.heap[B]? = some (.cells cs t (0, 0))) (hg : W.grownBy W' row) (hrow : ∀ r, row = some r → ∃ o : Obj, W.heap[r]? = some o ∧ o.isCells = false) : W'.heap[B]? = some (.cells cs t (0, 0)) :=
  blk_grown h hg (fun e => by obtain ⟨o, ho, hc⟩ := hrow B e.symm; rw [h] at ho; injection ho with ho; rw [← ho] at hc; cases hc)
theorem R_ownS {e base : Nat} {v : Value} {xs : List Int} {W W' : World} {row : Option Nat} (h : (Kd.int .u8).R e W base (fun _ => True) v xs) (hg : W.grownBy W' row) (hrow : ∀ r, row = some r → ∃ o : Obj, W.heap[r]? = some o ∧ o.isCells = false) : (Kd.int .u8).R e W' base (fun _ => True) v xs := by
  refine Kd.R_grown2 h rfl hg (fun k hk e_ => ?_)
  obtain ⟨o, ho, hoc⟩ := hrow k hk
  obtain ⟨cells, hc⟩ := Kd.R_typed h k e_.symm
  rw [hc] at ho
  injection ho with ho
  rw [← ho] at hoc
  cases hoc
theorem bitLen_room {n m : Nat} (hm : m ≤ 8) (h : n < 2 ^ (8 * m)) : Lib.bitLen n ≤ 8 * m := Lib.bitLen_le n (8 * m) (by omega) h

theorem shr_oct (n x : Nat) (h : n < 18446744073709551616) : IntKind.u8.wrap ((n : Int) / 2 ^ min x 64) = octAt n x := by
  have h2 : (n : Int) / 2 ^ min x 64 = ((n / 2 ^ min x 64 : Nat) : Int) := by rw [Int.natCast_ediv, Int.natCast_pow]; rfl
  rw [h2, IntKind.wrap_u8]
  unfold octAt
  rcases Nat.le_total x 64 with hx | hx
  · rw [Nat.min_eq_left hx]; omega
  · rw [Nat.min_eq_right hx]
    have h3 : n / 2 ^ x = 0 := Nat.div_eq_of_lt (Nat.lt_of_lt_of_le h (by have := Nat.pow_le_pow_right (n := 2) (by decide) hx; simpa using this))
    have h4 : n / 2 ^ 64 = 0 := Nat.div_eq_of_lt h
    rw [h3, h4]; rfl

set_option maxHeartbeats 8000000 in
set_option maxRecDepth 100000 in
theorem put_any (n m : Nat) (h1 : 1 ≤ m) (h8 : m ≤ 8) (hn : n < 2 ^ (8 * m)) (w : World) :
    Calls Try.prog 62 #[.int .u64 (n : Int), .int .i64 (m : Int)] w fun e w' => ∃ v0_ : Value, e = .returned (.tuple #[v0_, .int .i64 0]) ∧ Kd.R (Kd.int .u8) 5 w' w.heap.size (fun _ => True) v0_ (beOf n m) ∧ Below w.heap.size w w' := by
  have hn64 : n < 18446744073709551616 := Nat.lt_of_lt_of_le hn (by have := Nat.pow_le_pow_right (n := 2) (by decide) (show 8 * m ≤ 64 by omega); simpa using this)
  have hbl := bitLen_room h8 hn
  clear hn
  have HL := Lib.hid (len64_any (n : Int) (w.alloc (.cells #[.int .u64 (n : Int)] 106)) (by omega) (by omega))
  have hb1 : decide ((m : Int) < 1) = false := decide_eq_false (by omega)
  have hb2 : decide (8 < (m : Int)) = false := decide_eq_false (by omega)
  obtain ⟨bl, hbl1⟩ : ∃ bl, bl = Lib.bitLen n := ⟨_, rfl⟩
  have HBL := Lib.hid hbl1
  rw [← hbl1] at hbl
  have hb3 : decide (8 * (m : Int) < (bl : Int)) = false := decide_eq_false (by omega)
  clear hbl1
  have BK0 := Aside0.mk (blk_new w (.cells #[.int .u64 (n : Int)] 106))
  refine (callsIn_wide (n := 9)).1 ?_
  refine callsIn_of_wp_marks Try.func62 rfl trivial ?_ rfl
  simp only [Try.ntmps62, List.size_toArray, List.length_cons, List.length_nil, Nat.reduceAdd, Nat.reduceSub, Array.replicate_succ, Array.replicate_zero, List.push_toArray, List.append_toArray, List.nil_append, List.cons_append]
  gi_wp2
  refine ⟨trivial, (callsIn_wide.2 HL.out).mono ?_⟩
  rintro e w5 ⟨rfl, rfl⟩
  rw [Int.toNat_natCast, ← show bl = Lib.bitLen n from HBL]
  gi_wp2
  obtain ⟨W2, hW2⟩ : ∃ W2, W2 = (w.alloc (.cells #[.int .u64 (n : Int)] 106)).alloc (.cells #[.slice none 0 0] 50) := ⟨_, rfl⟩
  have hs2 : W2.heap.size = w.heap.size + 2 := by rw [hW2]; simp
  rw [← hW2]
  refine ⟨trivial, (shifts_in Fence.wide 8 trivial rfl m W2).mono ?_⟩
  rintro e w3 ⟨rfl, hw3⟩
  have hal : Below W2.heap.size W2 w3 := by rw [hw3]; exact below_alloc (Below.refl _ _) _
  have BK2 := Aside0.mk (show w3.heap[W2.heap.size]? = some (.cells #[.int .i64 (m : Int)] 3 (0, 0)) from by rw [hw3]; exact blk_new _ _)
  have BN := Aside0.mk (show w3.heap[w.heap.size]? = some (.cells #[.int .u64 (n : Int)] 106 (0, 0)) from blk_below (by rw [hW2]; exact blk_alloc BK0.out _) hal)
  have BB := Aside0.mk (show w3.heap[w.heap.size + 1]? = some (.cells #[.slice none 0 0] 50 (0, 0)) from blk_below (by rw [hW2]; have := blk_new (w.alloc (.cells #[.int .u64 (n : Int)] 106)) (.cells #[.slice none 0 0] 50); simpa only [World.size_alloc] using this) hal)
  have HB := Aside0.mk (show Below w.heap.size w w3 from below_step (by rw [hW2]; exact below_alloc (below_alloc (Below.refl _ _) _) _) hal)
  have hs3 : w3.heap.size = w.heap.size + 3 := by rw [hw3]; simp [hs2]
  rw [hs2] at BK2 ⊢
  clear hal hw3 hW2 hs2 BK0
  gi_wp2
  refine wpIn_rangeFunc_ownH (α := Nat) rfl (by omega) (gf := 80) (lb := #[.pointer (some ⟨w.heap.size + 2, 0, none⟩)]) rfl trivial (enters_of Try.func80 (by kernel_rfl) rfl)
    (shifts_stops Fence.wide 8 trivial rfl (by omega) (w.heap.size + 2) m h8 w3 ((blk_cell BK2.out 0).trans rfl)) KpC.trans (fun W l o o' hl _ _ _ => KpC.put (w := w3) (by omega) hl) (Below.refl _ _) (fun _ => rfl)
    (fun pre W => (∃ v, W.heap[w.heap.size + 1]? = some (.cells #[v] 50 (0, 0)) ∧ (Kd.int .u8).R 5 W w.heap.size (fun _ => True) v (pre.map (octAt n))) ∧ W.heap[w.heap.size]? = some (.cells #[.int .u64 (n : Int)] 106 (0, 0)) ∧ W.heap[w.heap.size + 2]? = some (.cells #[.int .i64 (m : Int)] 3 (0, 0)) ∧ Below w.heap.size w W)
    (fun _ _ _ => False)
    (fun pre X Y row hs hg hr => by
      obtain ⟨⟨v, e4, e5⟩, e6, e8, e7⟩ := hs
      have hr2 : ∀ r, row = some r → ∃ o : Obj, X.heap[r]? = some o ∧ o.isCells = false := fun r e => (hr r e).2
      exact ⟨⟨v, cells_ownS e4 hg hr2, R_ownS e5 hg hr2⟩, cells_ownS e6 hg hr2, cells_ownS e8 hg hr2, e7.grown hg e7.size (fun k e => by have := (hr k e).1; omega)⟩)
    (fun c pre X Y row hs hg hr => hs.elim)
    ⟨⟨_, BB.out, Kd.R_nil _ _ _ _ _⟩, BN.out, BK2.out, HB.out⟩
    (fun x a' W => a' = { tmps := #[.int .u64 (n : Int), .int .i64 (m : Int), .pointer (some ⟨w.heap.size, 0, none⟩), undef, .slice none 0 0, .int .i64 0, .pointer (some ⟨w.heap.size + 1, 0, none⟩), .int .i64 (x : Int), .int .i64 (m : Int), .bool false, .bool false, .int .i64 (m : Int), .bool false, .bool false, .bool false, .int .u64 (n : Int), .int .i64 (bl : Int), .int .i64 (m : Int), .int .i64 (8 * (m : Int)), .bool false, .bool false, .int .i64 (m : Int), .func (.func 80) #[] #[.pointer (some ⟨w.heap.size + 2, 0, none⟩)], .int .i64 (x : Int), undef, undef, undef, undef, undef, undef, undef, undef], defers := [] })
    (fun x a' _ X Y row hs hg hr => hs)
    ?assign ?body ?done ?stop
  case assign =>
    rintro l pre x W K hI hK
    gi_wp2
    exact hK _ _ (KeepsFrom.refl _ _) (KpC.refl _ _) hI rfl
  case body =>
    rintro l pre x a' W hl ⟨r, hr⟩ ⟨⟨v, hv, ho⟩, hn0, hm0, hB⟩ rfl hlt
    obtain ⟨A, c, ev⟩ := Kd.R_slice ho
    subst ev
    rw [List.length_map] at hv
    have hlp : (pre.map (octAt n)).length = pre.length := List.length_map _
    rw [hlp] at ho
    have BV := Aside0.mk (blk_drew hv)
    have BN2 := Aside0.mk (blk_drew hn0)
    have BM2 := Aside0.mk (blk_drew hm0)
    have HO := Aside0.mk (Kd.R_drew ho)
    have HB2 := Aside0.mk (below_drew1 hB)
    have HWB := Aside0.mk (below_drew1 (Below.refl W.heap.size W))
    have HSH := Aside0.mk (shr_oct n x hn64)
    clear hv hn0 hm0 ho hB
    gi_wp2
    refine start_r (hd := (by kernel_rfl)) (hq := (by rintro ⟨_, _, h_⟩; exact h_)) (n := 8) (S := fun w' => w'.cell? ⟨w.heap.size + 1, 0, none⟩ = some (.slice A pre.length c) ∧ w'.cell? ⟨w.heap.size, 0, none⟩ = some (.int .u64 (n : Int))) (ds := [7]) #[false, false, false, false, false, false, false, false] (by kernel_rfl) rfl rfl ⟨(blk_cell BV.out 0).trans rfl, (blk_cell BN2.out 0).trans rfl⟩ (fun hHeld => ?_)
    refine pure_ (i := 2) (N := some 26) (v := ?_) (a' := ?_) #[false, false, true, false, false, false, false, false] rfl rfl (by kernel_rfl) (fun _ _ _ h => h) (Or.inl ⟨by rfl, ?_⟩) ?_ ?_
    rotate_left
    · intro w'
      go_simp
      with_reducible rfl
    rotate_left
    · simp only [Act.put, List.setIfInBounds_toArray, List.set_cons_zero, List.set_cons_succ, i64_w, i32_w]
      rfl
    refine take_ (i := 0) (N := some 24) (v := ?_) (a' := ?_) #[true, false, true, false, false, false, false, false] rfl rfl (by kernel_rfl) (fun _ _ _ h => h) (Or.inl ⟨by rfl, ?_⟩) hHeld ?_ ?_
    rotate_left
    · rintro w' ⟨s0, s1⟩
      go_simp
      with_reducible rfl
    rotate_left
    · simp only [Act.put, List.setIfInBounds_toArray, List.set_cons_zero, List.set_cons_succ, i64_w, i32_w]
      rfl
    refine take_ (i := 1) (N := some 25) (v := ?_) (a' := ?_) #[true, true, true, false, false, false, false, false] rfl rfl (by kernel_rfl) (fun _ _ _ h => h) (Or.inl ⟨by rfl, ?_⟩) hHeld ?_ ?_
    rotate_left
    · rintro w' ⟨s0, s1⟩
      go_simp
      with_reducible rfl
    rotate_left
    · simp only [Act.put, List.setIfInBounds_toArray, List.set_cons_zero, List.set_cons_succ, i64_w, i32_w]
      rfl
    refine pure_ (i := 3) (N := some 27) (v := ?_) (a' := ?_) #[true, true, true, true, false, false, false, false] rfl rfl (by kernel_rfl) (fun _ _ _ h => h) (Or.inl ⟨by rfl, ?_⟩) ?_ ?_
    rotate_left
    · intro w'
      go_simp
      with_reducible rfl
    rotate_left
    · simp only [Act.put, List.setIfInBounds_toArray, List.set_cons_zero, List.set_cons_succ, i64_w, i32_w]
      rfl
    refine pure_ (i := 4) (N := some 28) (v := ?_) (a' := ?_) #[true, true, true, true, true, false, false, false] rfl rfl (by kernel_rfl) (fun _ _ _ h => h) (Or.inl ⟨by rfl, ?_⟩) ?_ ?_
    rotate_left
    · intro w'
      go_simp
      with_reducible rfl
    rotate_left
    · simp only [Act.put, List.setIfInBounds_toArray, List.set_cons_zero, List.set_cons_succ, i64_w, i32_w]
      rfl
    refine one_ (i := 5) (N := some 29) #[true, true, true, true, true, true, false, false] rfl rfl (by kernel_rfl) (by decide) (fun K hK => ?_)
    refine value_ (w1 := ?_) (v := ?_) (by rfl) rfl ?_ ?_
    rotate_left 2
    · go_simp
      constructor
      · rfl
      · rfl
    refine hK.out _ _ ⟨(blk_cell (blk_alloc BV.out _) 0).trans rfl, (blk_cell (blk_alloc BN2.out _) 0).trans rfl⟩ (fun hHeld => ?_)
    clear hK K
    refine norm_ (a' := ?_) ?_ ?_
    rotate_left
    · show Act.put _ (some 29) _ = _
      simp only [Act.put, List.setIfInBounds_toArray, List.set_cons_zero, List.set_cons_succ, i64_w, i32_w]
      rfl
    refine one_ (i := 6) (N := some 30) #[true, true, true, true, true, true, true, false] rfl rfl (by kernel_rfl) (by decide) (fun K hK => ?_)
    rw [HSH.out]
    refine Kd.R_append_step (W := W.drew) (Kd.int .u8) (w0 := W.drew) w.heap.size (by rfl) (.tmp 24) (.tmp 29) 50 5 (.int .u8 0) 1 rfl Try.underlying50 info5 rfl (by decide) (by omega) (.slice A pre.length c) (pre.map (octAt n)) (octAt n x) [.int .u8 (octAt n x)] (fun _ => True) (fun _ => False) rfl rfl rfl (fun _ h_ => h_.elim) (fun _ _ => trivial) HO.out (Below.refl _ _) HB2.out.size ?aL ?_
    (case aL => rw [hlp]; omega)
    intro v6 w6 ho6 hb6 hg6 hx6
    obtain ⟨A6, c6, e6⟩ := Kd.R_slice ho6
    subst e6
    have BV6 := Aside0.mk (blk_grown BV.out hg6 (Kd.R_ne HO.out BV.out (by decide)))
    have BN6 := Aside0.mk (blk_grown BN2.out hg6 (Kd.R_ne HO.out BN2.out (by decide)))
    have BM6 := Aside0.mk (blk_grown BM2.out hg6 (Kd.R_ne HO.out BM2.out (by decide)))
    have HO6 := Aside0.mk ho6
    have HB6 := Aside0.mk hb6
    have HG6 := Aside0.mk hg6
    clear ho6 hb6 hg6 hx6
    refine hK.out _ _ ⟨(blk_cell BV6.out 0).trans rfl, (blk_cell BN6.out 0).trans rfl⟩ (fun hHeld => ?_)
    clear hK K
    refine norm_ (a' := ?_) ?_ ?_
    rotate_left
    · show Act.put _ (some 30) _ = _
      simp only [Act.put, List.setIfInBounds_toArray, List.set_cons_zero, List.set_cons_succ, i64_w, i32_w]
      rfl
    refine last_ (i := 7) (N := none) #[true, true, true, true, true, true, true, true] rfl rfl (by kernel_rfl) (by decide) (fun K hK => ?_)
    have hs7 : w6.cell? ⟨w.heap.size + 1, 0, none⟩ = some (.slice A pre.length c) := (blk_cell BV6.out 0).trans rfl
    have hf7 := blk_frozen BV6.out 0
    refine skip_ (w1 := ?_) (by rfl) rfl ?_ ?_
    rotate_left
    · go_simp
      rfl
    refine hK.out _ _ ?_
    clear hK K
    refine done_ (by kernel_rfl) ?_
    gi_wp2
    have hl6 : (pre.map (octAt n) ++ [octAt n x]).length = pre.length + 1 := by simp
    have ho6 := HO6.out
    rw [hl6] at ho6
    have hf : ∀ k, k ≠ w.heap.size + 1 → k ≠ (⟨w.heap.size + 1, 0, none⟩ : Addr).block := fun k hk => hk
    refine ⟨((KeepsOthers.drew W).trans ((KeepsOthers.of_grownBy HG6.out (fun j o hj hoj => by obtain ⟨cs, hc⟩ := Kd.R_typed HO.out j hj; rw [hc] at hoj; cases hoj; rfl)).trans (KeepsOthers.setCell _ _ _))).from _, ⟨?_, fun _ => ?_⟩, ⟨_, blk_put BV6.out 0 _ rfl, ?_⟩, blk_far BN6.out (p := ⟨w.heap.size + 1, 0, none⟩) (hf _ (by omega)) _, blk_far BM6.out (p := ⟨w.heap.size + 1, 0, none⟩) (hf _ (by omega)) _, (HB2.out.trans HB6.out).setCell (p := ⟨w.heap.size + 1, 0, none⟩) (by show w.heap.size ≤ w.heap.size + 1; omega) _⟩
    · have := HG6.out.size
      simpa using this
    · exact (blk_far BM6.out (p := ⟨w.heap.size + 1, 0, none⟩) (hf _ (by omega)) _).trans BM2.out.symm
    · rw [List.map_append]
      exact Kd.R_set ho6 BV6.out (by decide) 0 _
  case done =>
    rintro D ys W hD rfl ⟨⟨v, hv, ho⟩, hn0, hm0, hB⟩ hK
    obtain ⟨A, c, ev⟩ := Kd.R_slice ho
    subst ev
    have hro : ∀ r, some D = some r → ∃ o : Obj, W.heap[r]? = some o ∧ o.isCells = false := fun r e => by cases e; exact ⟨_, hK, rfl⟩
    have c1 := (blk_cell hv 0).trans rfl
    have HK := Aside0.mk hK
    gi_wp2
    refine ⟨by simp, .inl ⟨_, _, rfl, run_takeDeferred HK.out, ?_⟩⟩
    refine ⟨.tuple #[.slice A ((up m m).map (octAt n)).length c, .int .i64 0], by simp [results, Try.f62, go_sem], _, rfl, R_ownS ho (grownBy_putObj' _ D (.deferred none)) hro, hB.trans (belowK_b (w := w) (Nat.le_refl _) _ D _ _ (by omega) HK.out rfl rfl)⟩
  case stop =>
    rintro D c pre W hD _ h _
    exact h.elim
end Go.Proofs.Ytiiphlfgdkjjiaa.Q
