/- octets.Put: a number's octets, the highest first; no condition but that it has room. -/
import Derived.Lib.Hide
import Derived.Test.YtiiphlfgdkjjiaaZDisksSOct
import Derived.Test.YtiiphlfgdkjjiaaZDisksSLen
import Derived.Test.YtiiphlfgdkjjiaaZDisksQ0
import Derived.Test.YtiiphlfgdkjjiaaZDisksRound
import Derived.LoopTactic
import Derived.Laws.BitsAllLaws
import Derived.Outline
namespace Go.Proofs.Ytiiphlfgdkjjiaa.Q
open Go.RowKit Go.Shelf Go.Proofs.YtiiphlfgdkjjiaaW.PrintWords Go.Proofs.YtiiphlfgdkjjiaaW.PrintLast Go.Proofs.YtiiphlfgdkjjiaaW.PrintMore
set_option linter.unusedVariables false
set_option linter.unusedSimpArgs false
attribute [local go_sem] Oper.semAt_some

def octAt (n s : Nat) : Int := ((n / 2 ^ s % 256 : Nat) : Int)
def beOf (n size : Nat) : List Int := (up size size).map (octAt n)
theorem cells_ownS {W W' : World} {B t : Nat} {cs : Array Value} {row : Option Nat} (h : W.heap[B]? = some (.cells cs t (0, 0))) (hg : W.grownBy W' row) (hrow : ∀ r, row = some r → ∃ o : Obj, W.heap[r]? = some o ∧ o.isCells = false) : W'.heap[B]? = some (.cells cs t (0, 0)) :=
  blk_grown h hg (fun e => by obtain ⟨o, ho, hc⟩ := hrow B e.symm; rw [h] at ho; injection ho with ho; rw [← ho] at hc; cases hc)
theorem R_ownS {e base : Nat} {v : Value} {xs : List Int} {W W' : World} {row : Option Nat} (h : (Kd.int .u8).R e W base (fun _ => True) v xs) (hg : W.grownBy W' row) (hrow : ∀ r, row = some r → ∃ o : Obj, W.heap[r]? = some o ∧ o.isCells = false) : (Kd.int .u8).R e W' base (fun _ => True) v xs := by
  refine Kd.R_grown2 h rfl hg (fun k hk e_ => ?_)
  obtain ⟨o, ho, hoc⟩ := hrow k hk
  obtain ⟨cells, hc⟩ := Kd.R_typed h k e_.symm
  rw [hc] at ho
  injection ho with ho
  rw [← ho] at hoc
  cases hoc
theorem bitLen_room {n m : Nat} (hm : m ≤ 8) (h : n < 2 ^ (8 * m)) : Lib.bitLen n ≤ 8 * m := Lib.bitLen_le n (8 * m) (by omega) h

theorem shr_oct (n x : Nat) (h : n < 18446744073709551616) : IntKind.u8.wrap ((n : Int) / 2 ^ min x 64) = octAt n x := by
  have h2 : (n : Int) / 2 ^ min x 64 = ((n / 2 ^ min x 64 : Nat) : Int) := by rw [Int.natCast_ediv, Int.natCast_pow]; rfl
  rw [h2, IntKind.wrap_u8]
  unfold octAt
  rcases Nat.le_total x 64 with hx | hx
  · rw [Nat.min_eq_left hx]; omega
  · rw [Nat.min_eq_right hx]
    have h3 : n / 2 ^ x = 0 := Nat.div_eq_of_lt (Nat.lt_of_lt_of_le h (by have := Nat.pow_le_pow_right (n := 2) (by decide) hx; simpa using this))
    have h4 : n / 2 ^ 64 = 0 := Nat.div_eq_of_lt h
    rw [h3, h4]; rfl

set_option maxHeartbeats 8000000 in
set_option maxRecDepth 100000 in
theorem put_any (n m : Nat) (h1 : 1 ≤ m) (h8 : m ≤ 8) (hn : n < 2 ^ (8 * m)) (w : World) :
    Calls Try.prog 62 #[.int .u64 (n : Int), .int .i64 (m : Int)] w fun e w' => ∃ v0_ : Value, e = .returned (.tuple #[v0_, .int .i64 0]) ∧ Kd.R (Kd.int .u8) 5 w' w.heap.size (fun _ => True) v0_ (beOf n m) ∧ Below w.heap.size w w' := by
  have hn64 : n < 18446744073709551616 := Nat.lt_of_lt_of_le hn (by have := Nat.pow_le_pow_right (n := 2) (by decide) (show 8 * m ≤ 64 by omega); simpa using this)
  have hbl := bitLen_room h8 hn
  clear hn
  have HL := Lib.hid (len64_any (n : Int) (w.alloc (.cells #[.int .u64 (n : Int)] 106)) (by omega) (by omega))
  have hb1 : decide ((m : Int) < 1) = false := decide_eq_false (by omega)
  have hb2 : decide (8 < (m : Int)) = false := decide_eq_false (by omega)
  obtain ⟨bl, hbl1⟩ : ∃ bl, bl = Lib.bitLen n := ⟨_, rfl⟩
  have HBL := Lib.hid hbl1
  rw [← hbl1] at hbl
  have hb3 : decide (8 * (m : Int) < (bl : Int)) = false := decide_eq_false (by omega)
  clear hbl1
  have BK0 := Aside0.mk (blk_new w (.cells #[.int .u64 (n : Int)] 106))
  refine (callsIn_wide (n := 9)).1 ?_
  refine callsIn_of_wp_marks Try.func62 rfl trivial ?_ rfl
  simp only [Try.ntmps62, List.size_toArray, List.length_cons, List.length_nil, Nat.reduceAdd, Nat.reduceSub, Array.replicate_succ, Array.replicate_zero, List.push_toArray, List.append_toArray, List.nil_append, List.cons_append]
  gi_wp2
  refine ⟨trivial, (callsIn_wide.2 HL.out).mono ?_⟩
  rintro e w5 ⟨rfl, rfl⟩
  rw [Int.toNat_natCast, ← show bl = Lib.bitLen n from HBL]
  gi_wp2
  obtain ⟨W2, hW2⟩ : ∃ W2, W2 = (w.alloc (.cells #[.int .u64 (n : Int)] 106)).alloc (.cells #[.slice none 0 0] 50) := ⟨_, rfl⟩
  have hs2 : W2.heap.size = w.heap.size + 2 := by rw [hW2]; simp
  rw [← hW2]
  refine ⟨trivial, (shifts_in Fence.wide 8 trivial rfl m W2).mono ?_⟩
  rintro e w3 ⟨rfl, hw3⟩
  have hal : Below W2.heap.size W2 w3 := by rw [hw3]; exact below_alloc (Below.refl _ _) _
  have BK2 := Aside0.mk (show w3.heap[W2.heap.size]? = some (.cells #[.int .i64 (m : Int)] 3 (0, 0)) from by rw [hw3]; exact blk_new _ _)
  have BN := Aside0.mk (show w3.heap[w.heap.size]? = some (.cells #[.int .u64 (n : Int)] 106 (0, 0)) from blk_below (by rw [hW2]; exact blk_alloc BK0.out _) hal)
  have BB := Aside0.mk (show w3.heap[w.heap.size + 1]? = some (.cells #[.slice none 0 0] 50 (0, 0)) from blk_below (by rw [hW2]; have := blk_new (w.alloc (.cells #[.int .u64 (n : Int)] 106)) (.cells #[.slice none 0 0] 50); simpa only [World.size_alloc] using this) hal)
  have HB := Aside0.mk (show Below w.heap.size w w3 from below_step (by rw [hW2]; exact below_alloc (below_alloc (Below.refl _ _) _) _) hal)
  have hs3 : w3.heap.size = w.heap.size + 3 := by rw [hw3]; simp [hs2]
  rw [hs2] at BK2 ⊢
  clear hal hw3 hW2 hs2 BK0
  gi_wp2
  refine wpIn_rangeFunc_ownH (α := Nat) rfl (by omega) (gf := 80) (lb := #[.pointer (some ⟨w.heap.size + 2, 0, none⟩)]) rfl trivial (enters_of Try.func80 (by kernel_rfl) rfl)
    (shifts_stops Fence.wide 8 trivial rfl (by omega) (w.heap.size + 2) m h8 w3 ((blk_cell BK2.out 0).trans rfl)) KpC.trans (fun W l o o' hl _ _ _ => KpC.put (w := w3) (by omega) hl) (Below.refl _ _) (fun _ => rfl)
    (fun pre W => (∃ v, W.heap[w.heap.size + 1]? = some (.cells #[v] 50 (0, 0)) ∧ (Kd.int .u8).R 5 W w.heap.size (fun _ => True) v (pre.map (octAt n))) ∧ W.heap[w.heap.size]? = some (.cells #[.int .u64 (n : Int)] 106 (0, 0)) ∧ W.heap[w.heap.size + 2]? = some (.cells #[.int .i64 (m : Int)] 3 (0, 0)) ∧ Below w.heap.size w W)
    (fun _ _ _ => False)
    (fun pre X Y row hs hg hr => by
      obtain ⟨⟨v, e4, e5⟩, e6, e8, e7⟩ := hs
      have hr2 : ∀ r, row = some r → ∃ o : Obj, X.heap[r]? = some o ∧ o.isCells = false := fun r e => (hr r e).2
      exact ⟨⟨v, cells_ownS e4 hg hr2, R_ownS e5 hg hr2⟩, cells_ownS e6 hg hr2, cells_ownS e8 hg hr2, e7.grown hg e7.size (fun k e => by have := (hr k e).1; omega)⟩)
    (fun c pre X Y row hs hg hr => hs.elim)
    ⟨⟨_, BB.out, Kd.R_nil _ _ _ _ _⟩, BN.out, BK2.out, HB.out⟩
    (fun x a' W => a' = { tmps := #[.int .u64 (n : Int), .int .i64 (m : Int), .pointer (some ⟨w.heap.size, 0, none⟩), undef, .slice none 0 0, .int .i64 0, .pointer (some ⟨w.heap.size + 1, 0, none⟩), .int .i64 (x : Int), .int .i64 (m : Int), .bool false, .bool false, .int .i64 (m : Int), .bool false, .bool false, .bool false, .int .u64 (n : Int), .int .i64 (bl : Int), .int .i64 (m : Int), .int .i64 (8 * (m : Int)), .bool false, .bool false, .int .i64 (m : Int), .func (.func 80) #[] #[.pointer (some ⟨w.heap.size + 2, 0, none⟩)], .int .i64 (x : Int), undef, undef, undef, undef, undef, undef, undef, undef], defers := [] })
    (fun x a' _ X Y row hs hg hr => hs)
    ?assign ?body ?done ?stop
  case assign =>
    rintro l pre x W K hI hK
    gi_wp2
    exact hK _ _ (KeepsFrom.refl _ _) (KpC.refl _ _) hI rfl
  case body =>
    rintro l pre x a' W hl ⟨r, hr⟩ ⟨⟨v, hv, ho⟩, hn0, hm0, hB⟩ rfl hlt
    obtain ⟨A, c, ev⟩ := Kd.R_slice ho
    subst ev
    rw [List.length_map] at hv
    have hlp : (pre.map (octAt n)).length = pre.length := List.length_map _
    rw [hlp] at ho
    have BV := Aside0.mk (blk_drew hv)
    have BN2 := Aside0.mk (blk_drew hn0)
    have BM2 := Aside0.mk (blk_drew hm0)
    have HO := Aside0.mk (Kd.R_drew ho)
    have HB2 := Aside0.mk (below_drew1 hB)
    have HWB := Aside0.mk (below_drew1 (Below.refl W.heap.size W))
    have HSH := Aside0.mk (shr_oct n x hn64)
    clear hv hn0 hm0 ho hB
    gi_wp2
    refine start_r (hd := (by kernel_rfl)) (hq := (by rintro ⟨_, _, h_⟩; exact h_)) (n := 8) (S := fun w' => w'.cell? ⟨w.heap.size + 1, 0, none⟩ = some (.slice A pre.length c) ∧ w'.cell? ⟨w.heap.size, 0, none⟩ = some (.int .u64 (n : Int))) (ds := [7]) #[false, false, false, false, false, false, false, false] (by kernel_rfl) rfl rfl ⟨(blk_cell BV.out 0).trans rfl, (blk_cell BN2.out 0).trans rfl⟩ (fun hHeld => ?_)
    refine pure_ (i := 2) (N := some 26) (v := ?_) (a' := ?_) #[false, false, true, false, false, false, false, false] rfl rfl (by kernel_rfl) (fun _ _ _ h => h) (Or.inl ⟨by rfl, ?_⟩) ?_ ?_
    rotate_left
    · intro w'
      go_simp
      with_reducible rfl
    rotate_left
    · simp only [Act.put, List.setIfInBounds_toArray, List.set_cons_zero, List.set_cons_succ, i64_w, i32_w]
      rfl
    refine take_ (i := 0) (N := some 24) (v := ?_) (a' := ?_) #[true, false, true, false, false, false, false, false] rfl rfl (by kernel_rfl) (fun _ _ _ h => h) (Or.inl ⟨by rfl, ?_⟩) hHeld ?_ ?_
    rotate_left
    · rintro w' ⟨s0, s1⟩
      go_simp
      with_reducible rfl
    rotate_left
    · simp only [Act.put, List.setIfInBounds_toArray, List.set_cons_zero, List.set_cons_succ, i64_w, i32_w]
      rfl
    refine take_ (i := 1) (N := some 25) (v := ?_) (a' := ?_) #[true, true, true, false, false, false, false, false] rfl rfl (by kernel_rfl) (fun _ _ _ h => h) (Or.inl ⟨by rfl, ?_⟩) hHeld ?_ ?_
    rotate_left
    · rintro w' ⟨s0, s1⟩
      go_simp
      with_reducible rfl
    rotate_left
    · simp only [Act.put, List.setIfInBounds_toArray, List.set_cons_zero, List.set_cons_succ, i64_w, i32_w]
      rfl
    refine pure_ (i := 3) (N := some 27) (v := ?_) (a' := ?_) #[true, true, true, true, false, false, false, false] rfl rfl (by kernel_rfl) (fun _ _ _ h => h) (Or.inl ⟨by rfl, ?_⟩) ?_ ?_
    rotate_left
    · intro w'
      go_simp
      with_reducible rfl
    rotate_left
    · simp only [Act.put, List.setIfInBounds_toArray, List.set_cons_zero, List.set_cons_succ, i64_w, i32_w]
      rfl
    refine pure_ (i := 4) (N := some 28) (v := ?_) (a' := ?_) #[true, true, true, true, true, false, false, false] rfl rfl (by kernel_rfl) (fun _ _ _ h => h) (Or.inl ⟨by rfl, ?_⟩) ?_ ?_
    rotate_left
    · intro w'
      go_simp
      with_reducible rfl
    rotate_left
    · simp only [Act.put, List.setIfInBounds_toArray, List.set_cons_zero, List.set_cons_succ, i64_w, i32_w]
      rfl
    refine one_ (i := 5) (N := some 29) #[true, true, true, true, true, true, false, false] rfl rfl (by kernel_rfl) (by decide) (fun K hK => ?_)
    refine value_ (w1 := ?_) (v := ?_) (by rfl) rfl ?_ ?_
    rotate_left 2
    · go_simp
      constructor
      · rfl
      · rfl
    refine hK.out _ _ ⟨(blk_cell (blk_alloc BV.out _) 0).trans rfl, (blk_cell (blk_alloc BN2.out _) 0).trans rfl⟩ (fun hHeld => ?_)
    clear hK K
    refine norm_ (a' := ?_) ?_ ?_
    rotate_left
    · show Act.put _ (some 29) _ = _
      simp only [Act.put, List.setIfInBounds_toArray, List.set_cons_zero, List.set_cons_succ, i64_w, i32_w]
      rfl
    refine one_ (i := 6) (N := some 30) #[true, true, true, true, true, true, true, false] rfl rfl (by kernel_rfl) (by decide) (fun K hK => ?_)
    rw [HSH.out]
    refine Kd.R_append_step (W := W.drew) (Kd.int .u8) (w0 := W.drew) w.heap.size (by rfl) (.tmp 24) (.tmp 29) 50 5 (.int .u8 0) 1 rfl Try.underlying50 info5 rfl (by decide) (by omega) (.slice A pre.length c) (pre.map (octAt n)) (octAt n x) [.int .u8 (octAt n x)] (fun _ => True) (fun _ => False) rfl rfl rfl (fun _ h_ => h_.elim) (fun _ _ => trivial) HO.out (Below.refl _ _) HB2.out.size ?aL ?_
    (case aL => rw [hlp]; omega)
    intro v6 w6 ho6 hb6 hg6 hx6
    obtain ⟨A6, c6, e6⟩ := Kd.R_slice ho6
    subst e6
    have BV6 := Aside0.mk (blk_grown BV.out hg6 (Kd.R_ne HO.out BV.out (by decide)))
    have BN6 := Aside0.mk (blk_grown BN2.out hg6 (Kd.R_ne HO.out BN2.out (by decide)))
    have BM6 := Aside0.mk (blk_grown BM2.out hg6 (Kd.R_ne HO.out BM2.out (by decide)))
    have HO6 := Aside0.mk ho6
    have HB6 := Aside0.mk hb6
    have HG6 := Aside0.mk hg6
    clear ho6 hb6 hg6 hx6
    refine hK.out _ _ ⟨(blk_cell BV6.out 0).trans rfl, (blk_cell BN6.out 0).trans rfl⟩ (fun hHeld => ?_)
    clear hK K
    refine norm_ (a' := ?_) ?_ ?_
    rotate_left
    · show Act.put _ (some 30) _ = _
      simp only [Act.put, List.setIfInBounds_toArray, List.set_cons_zero, List.set_cons_succ, i64_w, i32_w]
      rfl
    refine last_ (i := 7) (N := none) #[true, true, true, true, true, true, true, true] rfl rfl (by kernel_rfl) (by decide) (fun K hK => ?_)
    have hs7 : w6.cell? ⟨w.heap.size + 1, 0, none⟩ = some (.slice A pre.length c) := (blk_cell BV6.out 0).trans rfl
    have hf7 := blk_frozen BV6.out 0
    refine skip_ (w1 := ?_) (by rfl) rfl ?_ ?_
    rotate_left
    · go_simp
      rfl
    refine hK.out _ _ ?_
    clear hK K
    refine done_ (by kernel_rfl) ?_
    gi_wp2
    have hl6 : (pre.map (octAt n) ++ [octAt n x]).length = pre.length + 1 := by simp
    have ho6 := HO6.out
    rw [hl6] at ho6
    have hf : ∀ k, k ≠ w.heap.size + 1 → k ≠ (⟨w.heap.size + 1, 0, none⟩ : Addr).block := fun k hk => hk
    refine ⟨((KeepsOthers.drew W).trans ((KeepsOthers.of_grownBy HG6.out (fun j o hj hoj => by obtain ⟨cs, hc⟩ := Kd.R_typed HO.out j hj; rw [hc] at hoj; cases hoj; rfl)).trans (KeepsOthers.setCell _ _ _))).from _, ⟨?_, fun _ => ?_⟩, ⟨_, blk_put BV6.out 0 _ rfl, ?_⟩, blk_far BN6.out (p := ⟨w.heap.size + 1, 0, none⟩) (hf _ (by omega)) _, blk_far BM6.out (p := ⟨w.heap.size + 1, 0, none⟩) (hf _ (by omega)) _, (HB2.out.trans HB6.out).setCell (p := ⟨w.heap.size + 1, 0, none⟩) (by show w.heap.size ≤ w.heap.size + 1; omega) _⟩
    · have := HG6.out.size
      simpa using this
    · exact (blk_far BM6.out (p := ⟨w.heap.size + 1, 0, none⟩) (hf _ (by omega)) _).trans BM2.out.symm
    · rw [List.map_append]
      exact Kd.R_set ho6 BV6.out (by decide) 0 _
  case done =>
    rintro D ys W hD rfl ⟨⟨v, hv, ho⟩, hn0, hm0, hB⟩ hK
    obtain ⟨A, c, ev⟩ := Kd.R_slice ho
    subst ev
    have hro : ∀ r, some D = some r → ∃ o : Obj, W.heap[r]? = some o ∧ o.isCells = false := fun r e => by cases e; exact ⟨_, hK, rfl⟩
    have c1 := (blk_cell hv 0).trans rfl
    have HK := Aside0.mk hK
    gi_wp2
    refine ⟨by simp, .inl ⟨_, _, rfl, run_takeDeferred HK.out, ?_⟩⟩
    refine ⟨.tuple #[.slice A ((up m m).map (octAt n)).length c, .int .i64 0], by simp [results, Try.f62, go_sem], _, rfl, R_ownS ho (grownBy_putObj' _ D (.deferred none)) hro, hB.trans (belowK_b (w := w) (Nat.le_refl _) _ D _ _ (by omega) HK.out rfl rfl)⟩
  case stop =>
    rintro D c pre W hD _ h _
    exact h.elim
end Go.Proofs.Ytiiphlfgdkjjiaa.Q
namespace Go.Proofs.Ytiiphlfgdkjjiaa.CrcP

/-- One turn of the register. -/
def cstep (c : Nat) : Nat := if c % 2 = 1 then (c / 2) ^^^ 2197175160 else c / 2
def citer : Nat → Nat → Nat
  | 0, c => c
  | k + 1, c => citer k (cstep c)
def ctab (i : Nat) : Nat := citer 8 i
def cbyte (c x : Nat) : Nat := (c / 256) ^^^ ctab ((c % 256) ^^^ x)
def crun (c : Nat) (b : List Nat) : Nat := b.foldl cbyte c
def cnot (c : Nat) : Nat := c ^^^ 4294967295
def cext (c : Nat) (b : List Nat) : Nat := cnot (crun (cnot c) b)
def csum (b : List Nat) : Nat := cext 0 b

theorem cstep_xor (a b : Nat) : cstep (a ^^^ b) = cstep a ^^^ cstep b := by
  have h2 : (a ^^^ b) % 2 = (a % 2) ^^^ (b % 2) := by
    have := Nat.xor_mod_two_pow (a := a) (b := b) (n := 1)
    simpa using this
  have hd : (a ^^^ b) / 2 = (a / 2) ^^^ (b / 2) := by
    have := Nat.xor_div_two_pow (a := a) (b := b) (n := 1)
    simpa using this
  unfold cstep
  rw [h2, hd]
  rcases Nat.mod_two_eq_zero_or_one a with ha | ha <;> rcases Nat.mod_two_eq_zero_or_one b with hb | hb <;> rw [ha, hb] <;> simp
  · ac_rfl
  · ac_rfl
  · have : (a / 2 ^^^ 2197175160) ^^^ (b / 2 ^^^ 2197175160) = (a/2 ^^^ b/2) ^^^ (2197175160 ^^^ 2197175160) := by ac_rfl
    rw [this]; simp
theorem citer_xor (k : Nat) : ∀ a b, citer k (a ^^^ b) = citer k a ^^^ citer k b := by
  induction k with
  | zero => intro a b; rfl
  | succ k ih => intro a b; simp only [citer, cstep_xor, ih]
theorem citer_add (j : Nat) : ∀ k a, citer (j + k) a = citer k (citer j a) := by
  induction j with
  | zero => intro k a; simp [citer]
  | succ j ih => intro k a; rw [Nat.add_right_comm]; simp only [citer, ih]
theorem cstep_lt {c : Nat} (h : c < 4294967296) : cstep c < 4294967296 := by
  unfold cstep
  split
  · exact Nat.xor_lt_two_pow (n := 32) (by omega) (by omega)
  · omega
theorem citer_lt (k : Nat) : ∀ {c}, c < 4294967296 → citer k c < 4294967296 := by
  induction k with
  | zero => intro c h; exact h
  | succ k ih => intro c h; exact ih (cstep_lt h)
theorem ctab_lt {i : Nat} (h : i < 256) : ctab i < 4294967296 := citer_lt 8 (by omega)
theorem cbyte_lt {c x : Nat} (h : c < 4294967296) (hx : x < 256) : cbyte c x < 4294967296 := by
  unfold cbyte
  exact Nat.xor_lt_two_pow (n := 32) (by omega) (ctab_lt (Nat.xor_lt_two_pow (n := 8) (by omega) (by omega)))
theorem crun_lt : ∀ (b : List Nat) (c : Nat), c < 4294967296 → (∀ x ∈ b, x < 256) → crun c b < 4294967296 := by
  intro b
  induction b with
  | nil => intro c h _; exact h
  | cons x b ih => intro c h hb; exact ih _ (cbyte_lt h (hb x (by simp))) (fun y hy => hb y (by simp [hy]))
theorem cnot_lt {c : Nat} (h : c < 4294967296) : cnot c < 4294967296 := Nat.xor_lt_two_pow (n := 32) (by omega) (by omega)
theorem cext_lt {b : List Nat} {c : Nat} (h : c < 4294967296) (hb : ∀ x ∈ b, x < 256) : cext c b < 4294967296 := cnot_lt (crun_lt b _ (cnot_lt h) hb)
theorem crun_append (c : Nat) (a b : List Nat) : crun c (a ++ b) = crun (crun c a) b := by unfold crun; exact List.foldl_append
theorem citer_even (k : Nat) : ∀ y, citer k (y * 2 ^ k) = y := by
  induction k with
  | zero => intro y; simp [citer]
  | succ k ih =>
    intro y
    have h : cstep (y * 2 ^ (k + 1)) = y * 2 ^ k := by
      unfold cstep
      rw [Nat.pow_succ, ← Nat.mul_assoc, Nat.mul_mod_left]
      simp
    simp only [citer, h, ih]
theorem split_byte (c : Nat) (k : Nat) : c = (c / 2 ^ k) * 2 ^ k ^^^ c % 2 ^ k := by
  have h := Nat.div_add_mod c (2 ^ k)
  apply Nat.eq_of_testBit_eq
  intro i
  rw [Nat.testBit_xor, Nat.testBit_mod_two_pow, Nat.testBit_mul_two_pow, Nat.testBit_div_two_pow]
  by_cases hi : i < k
  · simp [hi, Nat.not_le.2 hi]
  · have : k ≤ i := by omega
    simp [hi, this, Nat.sub_add_cancel this]
theorem cbyte_iter (c x : Nat) : cbyte c x = citer 8 (c ^^^ x) := by
  have hs := split_byte c 8
  unfold cbyte ctab
  have e : citer 8 c = c / 2 ^ 8 ^^^ citer 8 (c % 2 ^ 8) := by
    conv => lhs; rw [hs]
    rw [citer_xor 8, citer_even]
  rw [citer_xor 8 c x, e, citer_xor 8]
  simp only [Nat.reducePow]
  ac_rfl
end Go.Proofs.Ytiiphlfgdkjjiaa.CrcP
namespace Go.Proofs.Ytiiphlfgdkjjiaa.Q
open Go.RowKit Go.Proofs.YtiiphlfgdkjjiaaW.PrintWords Go.Proofs.YtiiphlfgdkjjiaaW.PrintLast Go.Proofs.YtiiphlfgdkjjiaaW.PrintMore
open Go.Proofs.Ytiiphlfgdkjjiaa.CrcP

theorem citer_succ (k c : Nat) : citer (k + 1) c = cstep (citer k c) := by rw [citer_add]; rfl
theorem step_int (c : Nat) (h : c < 4294967296) : bits .xor .u32 ((c : Int) / 2) (bits .and .u32 2197175160 (-bits .and .u32 (c : Int) 1 % 4294967296)) = ((cstep c : Nat) : Int) := by
  have h1 : bits .and .u32 (c : Int) 1 = ((c % 2 : Nat) : Int) := by
    have := u32_and_nat c 1 h (by omega)
    rw [show ((1 : Nat) : Int) = 1 from rfl] at this
    rw [this, Nat.and_one_is_mod]
  rw [h1]
  have hd : ((c : Int) / 2) = ((c / 2 : Nat) : Int) := by omega
  unfold cstep
  rcases Nat.mod_two_eq_zero_or_one c with hc | hc
  · rw [hc, if_neg (by decide)]
    have h2 : bits .and .u32 2197175160 (-((0 : Nat) : Int) % 4294967296) = ((0 : Nat) : Int) := by decide
    rw [h2, hd, u32_xor_nat _ _ (by omega) (by omega), Nat.xor_zero]
  · rw [hc, if_pos rfl]
    have h2 : bits .and .u32 2197175160 (-((1 : Nat) : Int) % 4294967296) = ((2197175160 : Nat) : Int) := by decide
    rw [h2, hd, u32_xor_nat _ _ (by omega) (by omega)]
theorem idx_int (c x : Nat) (hx : x < 256) : bits .xor .u8 ((c : Int) % 256) (x : Int) = ((c % 256 ^^^ x : Nat) : Int) := by
  have hd : ((c : Int) % 256) = ((c % 256 : Nat) : Int) := by omega
  rw [hd, u8_xor_nat _ _ (by omega) hx]
theorem turn_int (c x : Nat) (h : c < 4294967296) (hx : x < 256) : bits .xor .u32 ((c : Int) / 256) ((ctab (c % 256 ^^^ x) : Nat) : Int) = ((cbyte c x : Nat) : Int) := by
  have hd : ((c : Int) / 256) = ((c / 256 : Nat) : Int) := by omega
  rw [hd, u32_xor_nat _ _ (by omega) (ctab_lt (Nat.xor_lt_two_pow (n := 8) (by omega) (by omega)))]
  rfl
theorem not_int (c : Nat) (h : c < 4294967296) : bits .xor .u32 IntKind.u32.max (c : Int) = ((cnot c : Nat) : Int) := by
  rw [show IntKind.u32.max = 4294967295 from by decide]
  have := u32_xor_nat 4294967295 c (by omega) h
  rw [show ((4294967295 : Nat) : Int) = 4294967295 from rfl] at this
  rw [this]
  unfold cnot
  rw [Nat.xor_comm]
theorem xor_lt8 {a b : Nat} (h : a < 256) (h' : b < 256) : a ^^^ b < 256 := Nat.xor_lt_two_pow (n := 8) (by omega) (by omega)

/-- What block b holds while the table is made: the first k cells are the table's. -/
def TabTo (w : World) (b : Nat) (k : Nat) : Prop := ∃ cs : Array Value, w.heap[b]? = some (.cells cs 128 (0, 0)) ∧ cs.size = 256 ∧ ∀ j, j < k → cs[j]? = some (.int .u32 (ctab j : Nat))

theorem run_alloc_of {P : Program} {t : TypeId} {z : Value} (W : World) (hz : (zeroValue t).run P W = .ok z W) (o : Oper) (ho : o.op = .alloc t) (ρ : Operand → Value) :
    (execOp ρ o).run P W = .ok (.value (.pointer (some ⟨W.heap.size, 0, none⟩))) (W.alloc (.cells z.cells t (0, 0))) := by
  unfold execOp
  rw [ho]
  simp [Instr.alloc, newVar, newRow, hz]
theorem zero_tab (W : World) : (zeroValue 128).run Try.prog W = .ok (.agg (Array.replicate 256 (.int .u32 0))) W := by kernel_rfl
set_option maxHeartbeats 1000000 in
set_option maxRecDepth 100000 in
theorem table_any (w : World) : Calls Try.prog 83 #[] w fun e w' => ∃ b, e = .returned (.pointer (some ⟨b, 0, none⟩)) ∧ TabTo w' b 256 ∧ Below w.heap.size w w' := by
  go_enter Try.func83, Try.ntmps83
  go_wp2_with (first | ((with_reducible refine gate_dst (N := 1) rfl ?_); refine box_event ?hg (N := 1) ?hd (cs := Array.replicate 256 (.int .u32 0)) (t := 128) ?hr ?_; (case hd => rfl); (case hg => rfl); (case hr => exact run_alloc_of _ (zero_tab _) _ rfl _); intro gb hg w1 hbox hb))
  subst hg
  have HX := Lib.hid hbox
  clear hbox
  go_loopw [4] (fun i wr => ∃ k : Nat, k ≤ 256 ∧ i = .int .i64 k ∧ TabTo wr w.heap.size k ∧ Below w.heap.size w wr) (fun i _ => 256 - (intOf i).toNat)
  case atStart => exact ⟨0, by omega, rfl, ⟨_, HX.out, by simp, fun j hj => absurd hj (by omega)⟩, hb⟩
  case round =>
    clear HX hb
    obtain ⟨k, hk, rfl, hT, hB⟩ := hrel
    have HT := Lib.hid hT
    clear hT
    by_cases hlt : k < 256
    · go_wp2
      go_loop [3, 9] (fun c i => ∃ j : Nat, j ≤ 8 ∧ i = .int .i64 j ∧ c = .int .u32 (citer j k : Nat)) (fun _ i => 8 - (intOf i).toNat)
      case atStart => exact ⟨0, by omega, rfl, rfl⟩
      case round =>
        obtain ⟨j, hj, rfl, rfl⟩ := hrel
        by_cases hl : j < 8
        · go_wp2
          go_round
          case rel => exact ⟨j + 1, by omega, by go_num, by rw [step_int _ (citer_lt j (by omega)), citer_succ]⟩
          case measure => simp [intOf]; omega
        · obtain rfl : j = 8 := by omega
          obtain ⟨cs, hcs, hsz, hto⟩ := HT.out
          have hfr := blk_frozen hcs k
          have hce := (blk_cell hcs k).trans (Array.getElem?_eq_getElem (show k < cs.size by omega))
          have HC := Lib.hid hcs
          have HO := Lib.hid hto
          clear hcs hto HT
          go_wp2
          go_roundw
          case rel =>
            refine ⟨k + 1, by omega, by go_num, ⟨_, blk_set HC.out k _, by simp [hsz], fun j hj => ?_⟩, hB.setCell (p := ⟨w.heap.size, k, none⟩) (Nat.le_refl _) _⟩
            by_cases hjk : k = j
            · subst hjk
              simp [hsz, hlt]
              rfl
            · rw [Array.getElem?_setIfInBounds_ne hjk]
              exact HO.out j (by omega)
          case measure => simp [intOf]; omega
    · obtain rfl : k = 256 := by omega
      go_wp2
      go_ret
      exact ⟨_, rfl, HT.out, hB⟩

/-- What an array of octets at a block holds, frozen or not. -/
theorem C_of_block {w : World} {g : Nat} {t : TypeId} {fr : Nat × Nat} (l : List Int) (hl : l.length ≤ 9223372036854775807) (h : w.heap[g]? = some (.cells (l.map (Value.int .u8)).toArray t fr)) : Kd.C (Kd.int .u8) w (some ⟨g, 0, none⟩) l.length l := by
  refine Kd.C_of_reads (d := (0 : Int)) ⟨rfl, hl, fun _ => ⟨_, rfl, fun j hj => ?_⟩⟩
  rw [add_plain, cell_of_row w g j _ _ _ h]
  simp [hj]

/-- Octets are octets. -/
def octs (l : List Int) : Bool := l.all fun x => decide (0 ≤ x ∧ x < 256)
def nats (l : List Int) : List Nat := l.map Int.toNat
theorem octs_at {l : List Int} (h : octs l = true) (k : Nat) (hk : k < l.length) : ∃ x : Nat, l.getD k 0 = (x : Int) ∧ x < 256 ∧ (nats l).take (k + 1) = (nats l).take k ++ [x] := by
  have hm := List.all_eq_true.1 h l[k] (List.getElem_mem hk)
  have hm' : 0 ≤ l[k] ∧ l[k] < 256 := by simpa using hm
  refine ⟨l[k].toNat, ?_, by omega, ?_⟩
  · rw [List.getD_eq_getElem?_getD, List.getElem?_eq_getElem hk]
    simp; omega
  · rw [List.take_succ_eq_append_getElem (by simpa [nats] using hk)]
    simp [nats]
theorem octs_lt {l : List Int} (h : octs l = true) : ∀ x ∈ nats l, x < 256 := by
  intro x hx
  obtain ⟨y, hy, rfl⟩ := List.mem_map.1 hx
  have := List.all_eq_true.1 h y hy
  have : 0 ≤ y ∧ y < 256 := by simpa using this
  omega

set_option maxHeartbeats 1000000 in
set_option maxRecDepth 100000 in
theorem run_any (c : Nat) (hc : c < 4294967296) (A : Option Addr) (cap : Nat) (l : List Int) (w : World) (hr : Kd.C (Kd.int .u8) w A l.length l) (ho : octs l = true) :
    Calls Try.prog 81 #[.int .u32 c, .slice A l.length cap] w fun e w' => e = .returned (.int .u32 (crun c (nats l) : Nat)) ∧ Below w.heap.size w w' := by
  have hrd := Kd.reads_of_C (enc := Value.int .u8) (d := (0 : Int)) (h1 := fun _ => rfl) hr
  have hlen := hrd.2.1
  clear hr
  by_cases h0 : l.length = 0
  · have : l = [] := List.length_eq_zero_iff.1 h0
    subst this
    have hz : ((([] : List Int).length : Int) == 0) = true := rfl
    go_enter Try.func81, Try.ntmps81
    go_wp2
    go_ret
    exact ⟨rfl, Below.refl _ _⟩
  · obtain ⟨ad, rfl, hcell⟩ := hrd.2.2 (by omega)
    have HC := Lib.hid hcell
    have HO := Lib.hid ho
    have hz : ((l.length : Int) == 0) = false := by rw [beq_eq_false_iff_ne]; omega
    obtain ⟨n, hn⟩ : ∃ n, n = l.length := ⟨_, rfl⟩
    have HN := Lib.hid hn
    rw [← hn] at hz hlen h0 ⊢
    clear hcell hrd ho hn
    go_enter Try.func81, Try.ntmps81
    go_wp2_with (go_at_call 83; refine (table_any _).mono ?_; rintro e w1 ⟨b, rfl, hT, hB⟩; have HT := Lib.hid hT; clear hT)
    go_loopw [0, 15] (fun c' i wr => ∃ k : Nat, k ≤ n ∧ i = .int .i64 k ∧ c' = .int .u32 (crun c ((nats l).take k) : Nat) ∧ Below w.heap.size w wr ∧ Hid (TabTo wr b 256)) (fun _ i _ => n - (intOf i).toNat)
    case atStart => exact ⟨0, by omega, rfl, rfl, hB, HT⟩
    case round =>
      clear hB HT
      obtain ⟨k, hk, rfl, rfl, hB, HT⟩ := hrel
      have hlt' : crun c ((nats l).take k) < 4294967296 := crun_lt _ _ hc (fun x hx => octs_lt HO.out x (List.mem_of_mem_take hx))
      obtain ⟨q, hq⟩ : ∃ q, q = crun c ((nats l).take k) := ⟨_, rfl⟩
      have HQ := Lib.hid hq
      rw [← hq] at hlt' ⊢
      clear hq
      by_cases hlt : k < n
      · obtain ⟨x, hx1, hx2, hx3⟩ := octs_at HO.out k (by rw [← HN.out]; exact hlt)
        obtain ⟨cs, hcs, hsz, hto⟩ := HT.out
        have hcb := (blk_cell hcs (q % 256 ^^^ x)).trans (hto _ (xor_lt8 (by omega) hx2))
        have hca := pw_cell_below (by assumption) (HC.out k (by rw [← HN.out]; exact hlt))
        rw [hx1] at hca
        have hix := idx_int q x hx2
        have hil := xor_lt8 (show q % 256 < 256 by omega) hx2
        have HX1 := Lib.hid hx1
        have HX3 := Lib.hid hx3
        clear hx1 hx3 hcs hto hsz
        go_wp2
        go_roundw
        case rel =>
          refine ⟨k + 1, by omega, by go_num, ?_, hB, HT⟩
          rw [turn_int q x hlt' hx2, HX3.out, crun_append, ← HQ.out]
          rfl
        case measure => simp [intOf]; omega
      · obtain rfl : k = n := by omega
        go_wp2
        go_ret
        exact ⟨by rw [HQ.out, List.take_of_length_le (by simp [nats]; have := HN.out; omega)]; rfl, hB⟩

set_option maxHeartbeats 1000000 in
set_option maxRecDepth 100000 in
theorem extend_any (c : Nat) (hc : c < 4294967296) (A : Option Addr) (cap : Nat) (l : List Int) (w : World) (hr : Kd.C (Kd.int .u8) w A l.length l) (ho : octs l = true) :
    Calls Try.prog 77 #[.int .u32 c, .slice A l.length cap] w fun e w' => e = .returned (.int .u32 (cext c (nats l) : Nat)) ∧ Below w.heap.size w w' := by
  have hn := not_int c hc
  have hl := crun_lt _ _ (cnot_lt hc) (octs_lt ho)
  have hn2 := not_int _ hl
  have HN2 := Lib.hid hn2
  have HO := Lib.hid ho
  have HR := Lib.hid hr
  clear hn2 ho hr
  go_enter Try.func77, Try.ntmps77
  go_wp2_with fail
  refine (run_any (cnot c) (cnot_lt hc) A cap l _ HR.out HO.out).mono ?_
  rintro e w1 ⟨rfl, hB⟩
  have hn2 := HN2.out
  clear hn
  go_wp2_with fail
  go_ret
  exact ⟨rfl, hB⟩
theorem sum_any (A : Option Addr) (cap : Nat) (l : List Int) (w : World) (hr : Kd.C (Kd.int .u8) w A l.length l) (ho : octs l = true) :
    Calls Try.prog 63 #[.slice A l.length cap] w fun e w' => e = .returned (.int .u32 (csum (nats l) : Nat)) ∧ Below w.heap.size w w' := by
  have HO := Lib.hid ho
  have HR := Lib.hid hr
  clear ho hr
  go_enter Try.func63, Try.ntmps63
  go_wp2_with (go_at_call 77; refine (extend_any 0 (by decide) A cap l _ HR.out HO.out).mono ?_; rintro e w1 ⟨rfl, hB⟩)
  go_ret
  exact ⟨rfl, hB⟩

end Go.Proofs.Ytiiphlfgdkjjiaa.Q
