/- disk's Get; no condition but that the state may be where asked says so. -/
import Derived.Test.YtiiphlfgdkjjiaaZDisksDPut
namespace Go.Proofs.Ytiiphlfgdkjjiaa.Q
open Go.RowKit Go.Shelf Go.Proofs.YtiiphlfgdkjjiaaW.PrintWords Go.Proofs.YtiiphlfgdkjjiaaW.PrintLast Go.Proofs.YtiiphlfgdkjjiaaW.PrintMore
set_option linter.unusedVariables false
set_option linter.unusedSimpArgs false
attribute [local go_sem] Oper.semAt_some

/-- The last of the first j writes that is of the sector. -/
def gotn (l1 : List S61) (sec : Int) : Nat → Option (List Int)
  | 0 => none
  | j + 1 => if (rd_T61 l1 (j : Int)).f0 = sec then some (rd_T61 l1 (j : Int)).f1 else gotn l1 sec j
def got (l0 : List (List Int)) (l1 : List S61) (sec : Int) : List Int := (gotn l1 sec l1.length).getD (rd_L4 l0 sec)
theorem gotn_none {l1 : List S61} {sec : Int} {m : Nat} : ∀ k, k ≤ m → (∀ x ∈ bk m k, (rd_T61 l1 (x : Int)).f0 ≠ sec) → gotn l1 sec m = gotn l1 sec (m - k)
  | 0, _, _ => rfl
  | k + 1, hk, h => by
    rw [gotn_none k (by omega) (fun x hx => h x (by rw [bk_succ]; exact List.mem_append_left _ hx))]
    obtain ⟨r, hr⟩ : ∃ r, m - k = r + 1 := ⟨m - k - 1, by omega⟩
    rw [hr, gotn, if_neg (h r (by rw [bk_succ]; exact List.mem_append_right _ (by simp; omega))), show m - (k + 1) = r from by omega]
theorem got_none {l0 : List (List Int)} {l1 : List S61} {sec : Int} (h : ∀ x ∈ bk l1.length l1.length, (rd_T61 l1 ((x : Nat) : Int)).f0 ≠ sec) : got l0 l1 sec = rd_L4 l0 sec := by
  rw [got, gotn_none l1.length (Nat.le_refl _) h, Nat.sub_self]
  rfl
theorem got_some {l0 : List (List Int)} {l1 : List S61} {sec : Int} {k x : Nat} {pre : List Nat} (hk : k ≤ l1.length) (e : bk l1.length k = pre ++ [x]) (h : ∀ y ∈ pre, (rd_T61 l1 ((y : Nat) : Int)).f0 ≠ sec) (hx : (rd_T61 l1 ((x : Nat) : Int)).f0 = sec) : got l0 l1 sec = (rd_T61 l1 ((x : Nat) : Int)).f1 := by
  cases k with
  | zero => exact absurd (congrArg List.length e) (by simp [bk])
  | succ k =>
    rw [bk_succ] at e
    obtain ⟨e1, e2⟩ := List.append_inj' e rfl
    have e3 : l1.length - 1 - k = x := by simpa using e2
    obtain ⟨r, hr⟩ : ∃ r, l1.length - k = r + 1 := ⟨l1.length - k - 1, by omega⟩
    rw [got, gotn_none k (by omega) (by rw [e1]; exact h), hr, gotn]
    have hrx : r = x := by omega
    rw [hrx, if_pos hx]
    rfl
def disk_Get.f (k : Nat) (l0 : List (List Int)) (l1 : List S61) (sec : Int) : Option (List Int × Int) :=
  (disk_asked.f k l0 l1 sec).bind fun c => if c = 0 then (if okS l0 l1 = true ∧ 0 ≤ sec ∧ sec < (l0.length : Int) then some (got l0 l1 sec, 0) else none) else some ([], c)
/-- What a turn of something that is no cells leaves. -/
theorem cells_own {W W' : World} {B t : Nat} {cs : Array Value} {row : Option Nat} (h : W.heap[B]? = some (.cells cs t (0, 0))) (hg : W.grownBy W' row) (hrow : ∀ r, row = some r → ∃ o : Obj, W.heap[r]? = some o ∧ o.isCells = false) : W'.heap[B]? = some (.cells cs t (0, 0)) :=
  blk_grown h hg (fun e => by obtain ⟨o, ho, hc⟩ := hrow B e.symm; rw [h] at ho; injection ho with ho; rw [← ho] at hc; cases hc)
theorem R_own {e base : Nat} {v : Value} {xs : List Int} {W W' : World} {row : Option Nat} (h : (Kd.int .u8).R e W base (fun _ => True) v xs) (hg : W.grownBy W' row) (hrow : ∀ r, row = some r → ∃ o : Obj, W.heap[r]? = some o ∧ o.isCells = false) : (Kd.int .u8).R e W' base (fun _ => True) v xs := by
  refine Kd.R_grown2 h rfl hg (fun k hk e_ => ?_)
  obtain ⟨o, ho, hoc⟩ := hrow k hk
  obtain ⟨cells, hc⟩ := Kd.R_typed h k e_.symm
  rw [hc] at ho
  injection ho with ho
  rw [← ho] at hoc
  cases hoc
theorem keeps_below {W W' : World} (h : Below W.heap.size W W') : KeepsOthers W W' := ⟨h.size, fun k o hk _ => (h.block k (Array.getElem?_eq_some_iff.1 hk).1).trans hk⟩

/-- The writes' cells, told as functions. -/
theorem elems {A : Option Addr} {l1 : List S61} {w : World} (h : Kd.C kW w A l1.length l1) : ∃ v1 : Nat → Value, (∀ x, ∃ A1 c1, v1 x = .slice A1 (rd_T61 l1 (x : Int)).f1.length c1 ∧ (Kd.int .u8).C w A1 (rd_T61 l1 (x : Int)).f1.length (rd_T61 l1 (x : Int)).f1) ∧
    ∀ x, x < l1.length → ∃ ad : Addr, A = some ad ∧ ad.block < w.heap.size ∧ w.cell? (ad.add (x * 2)) = some (.int .i64 (rd_T61 l1 (x : Int)).f0) ∧ w.cell? ⟨(ad.add (x * 2)).block, (ad.add (x * 2)).off + 1, none⟩ = some (v1 x) := by
  have h1 : ∀ x : Nat, ∃ v : Value, (∃ A1 c1, v = .slice A1 (rd_T61 l1 (x : Int)).f1.length c1 ∧ (Kd.int .u8).C w A1 (rd_T61 l1 (x : Int)).f1.length (rd_T61 l1 (x : Int)).f1) ∧
      (x < l1.length → ∃ ad : Addr, A = some ad ∧ ad.block < w.heap.size ∧ w.cell? (ad.add (x * 2)) = some (.int .i64 (rd_T61 l1 (x : Int)).f0) ∧ w.cell? ⟨(ad.add (x * 2)).block, (ad.add (x * 2)).off + 1, none⟩ = some v) := by
    intro x
    by_cases hx : x < l1.length
    · obtain ⟨ad, A1, c1, e, h2, h3, h4, h5⟩ := at_T61 h (x : Int) (by omega) (by omega)
      rw [Int.toNat_natCast] at h2 h3
      have hlt := World.block_lt_of_cell? _ _ h2
      rw [blk_add] at hlt
      exact ⟨_, ⟨A1, c1, rfl, h5⟩, fun _ => ⟨ad, e, hlt, h2, h3⟩⟩
    · have hz : rd_T61 l1 (x : Int) = z61 := by
        rw [rd_T61, Int.toNat_natCast, List.getD_eq_getElem?_getD, List.getElem?_eq_none (by omega)]
        rfl
      rw [hz]
      exact ⟨.slice none 0 0, ⟨none, 0, rfl, Kd.C_nil _ _⟩, fun h => absurd h hx⟩
  exact ⟨fun x => Classical.choose (h1 x), fun x => (Classical.choose_spec (h1 x)).1, fun x hx => (Classical.choose_spec (h1 x)).2 hx⟩
theorem elem_len {l0 : List (List Int)} {l1 : List S61} (h : ∀ x ∈ l1, 0 ≤ x.f0 ∧ x.f0 < (l0.length : Int) ∧ x.f1.length = 64) (x : Nat) : (rd_T61 l1 (x : Int)).f1.length < 140737488355328 := by
  rw [rd_T61, Int.toNat_natCast, List.getD_eq_getElem?_getD]
  cases hx : l1[x]? with
  | none => show ([] : List Int).length < _; decide
  | some y => rw [Option.getD_some, (h y (List.mem_of_getElem? hx)).2.2]; decide

set_option maxHeartbeats 8000000 in
set_option maxRecDepth 100000 in
theorem disk_Get.calls (k : Nat) (A0_0 : Option Addr) (c0_0 : Nat) (l0_0 : List (List Int)) (A0_1 : Option Addr) (c0_1 : Nat) (l0_1 : List S61) (a1 : Int) (r1 : List Int) (r2 : Int) (w : World) (hr0_0 : Kd.C kB w A0_0 l0_0.length l0_0) (hc0_0 : l0_0.length ≤ c0_0) (hr0_1 : Kd.C kW w A0_1 l0_1.length l0_1) (hc0_1 : l0_1.length ≤ c0_1) (h : disk_Get.f k l0_0 l0_1 a1 = some (r1, r2)) :
    Calls Try.prog 27 #[.agg #[.slice A0_0 l0_0.length c0_0, .slice A0_1 l0_1.length c0_1], .int .i64 a1] w fun e w' => ∃ v0_ : Value, e = .returned (.tuple #[v0_, .int .i64 r2]) ∧ Kd.R (Kd.int .u8) 5 w' w.heap.size (fun _ => True) v0_ r1 ∧ Below w.heap.size w w' := by
  have hu := Try.underlying28
  have huw := Try.underlying61
  have HR0 := Aside0.mk hr0_0
  have HC0 := Aside0.mk hc0_0
  have HR1 := Aside0.mk hr0_1
  have HC1 := Aside0.mk hc0_1
  clear hr0_0 hc0_0 hr0_1 hc0_1
  unfold disk_Get.f at h
  replace h := Option.bind_eq_some_iff.mp h
  obtain ⟨t0, ht0, h⟩ := h
  have HT := Aside0.mk ht0
  have H := Aside0.mk h
  clear ht0 h
  obtain ⟨W4, hW4⟩ : ∃ W4, (((w.alloc (.cells #[.slice A0_0 l0_0.length c0_0, .slice A0_1 l0_1.length c0_1] 28)).alloc (.cells #[.int .i64 a1] 3)).alloc (.cells #[.slice none 0 0] 50)).alloc (.cells #[.int .i64 0] 29) = W4 := ⟨_, rfl⟩
  have BK2 := Aside0.mk (show W4.heap[w.heap.size]? = some (.cells #[.slice A0_0 l0_0.length c0_0, .slice A0_1 l0_1.length c0_1] 28 (0, 0)) from by rw [← hW4]; exact blk_alloc (blk_alloc (blk_alloc (blk_new _ _) _) _) _)
  have BK3 := Aside0.mk (show W4.heap[w.heap.size + 1]? = some (.cells #[.int .i64 a1] 3 (0, 0)) from by rw [← hW4]; have := blk_alloc (blk_alloc (blk_new (w.alloc (.cells #[.slice A0_0 l0_0.length c0_0, .slice A0_1 l0_1.length c0_1] 28)) (.cells #[.int .i64 a1] 3)) (.cells #[.slice none 0 0] 50)) (.cells #[.int .i64 0] 29); simpa only [World.size_alloc] using this)
  have BK4 := Aside0.mk (show W4.heap[w.heap.size + 1 + 1]? = some (.cells #[.slice none 0 0] 50 (0, 0)) from by rw [← hW4]; have := blk_alloc (blk_new ((w.alloc (.cells #[.slice A0_0 l0_0.length c0_0, .slice A0_1 l0_1.length c0_1] 28)).alloc (.cells #[.int .i64 a1] 3)) (.cells #[.slice none 0 0] 50)) (.cells #[.int .i64 0] 29); simpa only [World.size_alloc] using this)
  have BK5 := Aside0.mk (show W4.heap[w.heap.size + 1 + 1 + 1]? = some (.cells #[.int .i64 0] 29 (0, 0)) from by rw [← hW4]; have := blk_new (((w.alloc (.cells #[.slice A0_0 l0_0.length c0_0, .slice A0_1 l0_1.length c0_1] 28)).alloc (.cells #[.int .i64 a1] 3)).alloc (.cells #[.slice none 0 0] 50)) (.cells #[.int .i64 0] 29); simpa only [World.size_alloc] using this)
  have HB := Aside0.mk (show Below w.heap.size w W4 from by rw [← hW4]; exact below_alloc (below_alloc (below_alloc (below_alloc (Below.refl _ _) _) _) _) _)
  refine (callsIn_wide (n := 9)).1 ?_
  refine callsIn_of_wp_marks Try.func27 rfl trivial ?_ rfl
  simp only [Try.ntmps27, List.size_toArray, List.length_cons, List.length_nil, Nat.reduceAdd, Nat.reduceSub, Array.replicate_succ, Array.replicate_zero, List.push_toArray, List.append_toArray, List.nil_append, List.cons_append]
  have hz0 : W4.cell? ⟨w.heap.size, 0, none⟩ = some (.slice A0_0 l0_0.length c0_0) := (blk_cell BK2.out 0).trans rfl
  have hz1 : W4.cell? ⟨w.heap.size, 1, none⟩ = some (.slice A0_1 l0_1.length c0_1) := (blk_cell BK2.out 1).trans rfl
  have hz2 : W4.cell? ⟨w.heap.size + 1, 0, none⟩ = some (.int .i64 a1) := (blk_cell BK3.out 0).trans rfl
  gi_wp2
  refine ⟨trivial, (callsIn_wide.2 (disk_asked.calls k _ _ l0_0 _ _ l0_1 a1 t0 W4 (Kd.C_below HR0.out HB.out) HC0.out (Kd.C_below HR1.out HB.out) HC1.out HT.out)).mono ?_⟩
  rintro e w5 ⟨rfl, hb⟩
  clear hz0 hz1 hz2 hW4
  replace BK2 := Aside0.mk (blk_below BK2.out hb)
  replace BK3 := Aside0.mk (blk_below BK3.out hb)
  replace BK4 := Aside0.mk (blk_below BK4.out hb)
  replace BK5 := Aside0.mk (blk_below BK5.out hb)
  replace HB := Aside0.mk (below_step HB.out hb)
  clear hb
  by_cases c1 : t0 = 0
  · have c1b : (t0 != 0) = false := by simp [c1]
    have h := H.out
    rw [if_pos c1] at h
    by_cases c2 : okS l0_0 l0_1 = true ∧ 0 ≤ a1 ∧ a1 < (l0_0.length : Int)
    · rw [if_pos c2] at h
      obtain ⟨rfl, rfl⟩ : got l0_0 l0_1 a1 = r1 ∧ 0 = r2 := by simpa using h
      obtain ⟨c2, c3, c4⟩ := c2
      obtain ⟨ho1, ho2, ho3, ho4, ho5⟩ := okS_out c2
      clear H h c1 c2
      have hz1 : w5.cell? ⟨w.heap.size, 1, none⟩ = some (.slice A0_1 l0_1.length c0_1) := (blk_cell BK2.out 1).trans rfl
      gi_wp2
      refine ⟨trivial, (back_in Fence.wide 8 trivial rfl _ _ _ w5).mono ?_⟩
      rintro e w6 ⟨rfl, hw6⟩
      have BK6 := Aside0.mk (show w6.heap[w5.heap.size]? = some (.cells #[.slice A0_1 l0_1.length c0_1] 26 (0, 0)) from by rw [hw6]; exact blk_new _ _)
      have hal : Below w5.heap.size w5 w6 := by rw [hw6]; exact below_alloc (Below.refl _ _) _
      replace BK2 := Aside0.mk (blk_below BK2.out hal)
      replace BK3 := Aside0.mk (blk_below BK3.out hal)
      replace BK4 := Aside0.mk (blk_below BK4.out hal)
      replace BK5 := Aside0.mk (blk_below BK5.out hal)
      have hle5 := HB.out.size
      replace HB := Aside0.mk (below_step HB.out hal)
      clear hal hw6 hz1
      gi_wp2
      obtain ⟨v1, hv1, hel⟩ := elems HR1.out
      have hHB6 : Below w.heap.size w w6 := HB.out
      refine wpIn_rangeFunc_ownH (α := Nat) rfl (by omega) (gf := 74) (lb := #[.pointer (some ⟨w5.heap.size, 0, none⟩)]) rfl trivial (enters_of Try.func74 (by kernel_rfl) rfl)
        (back_stops Fence.wide 8 trivial rfl (by omega) w5.heap.size w6.heap.size A0_1 l0_1.length c0_1 (fun x => .int .i64 (rd_T61 l0_1 (x : Int)).f0) v1 (by omega) w6 (blk_lt BK6.out) (Nat.le_refl _) ((blk_cell BK6.out 0).trans rfl)
          (fun x hx => by
            obtain ⟨ad, e, hb, h1, h2⟩ := hel x hx
            exact ⟨ad, e, by have := hHB6.size; omega, (hHB6.cell (by rw [blk_add]; exact hb)).trans h1, (hHB6.cell (by show (ad.add (x * 2)).block < _; rw [blk_add]; exact hb)).trans h2⟩)) belowK_t (belowK_b (Nat.le_refl _)) (Below.refl _ _) (fun _ => rfl)
        (fun pre W => (∀ x ∈ pre, (rd_T61 l0_1 ((x : Nat) : Int)).f0 ≠ a1) ∧ Below w6.heap.size w6 W)
        (fun c pre W => (c = .ret ∧ ∃ pre' x, pre = pre' ++ [x] ∧ (∀ y ∈ pre', (rd_T61 l0_1 ((y : Nat) : Int)).f0 ≠ a1) ∧ (rd_T61 l0_1 ((x : Nat) : Int)).f0 = a1 ∧ ∃ v, W.heap[w.heap.size + 1 + 1]? = some (.cells #[v] 50 (0, 0)) ∧ (Kd.int .u8).R 5 W w.heap.size (fun _ => True) v (rd_T61 l0_1 ((x : Nat) : Int)).f1) ∧ W.heap[w.heap.size + 1 + 1 + 1]? = some (.cells #[.int .i64 0] 29 (0, 0)) ∧ Below w.heap.size w W)
        (OwnFrom.and (ownFrom_pure _ _) (ownFrom_below (Nat.le_refl _) (Nat.le_refl _)))
        (fun c pre X Y row hs hg hr => by
          obtain ⟨⟨hc, pre', x, e1, e2, e3, v, e4, e5⟩, e6, e7⟩ := hs
          have hr2 : ∀ r, row = some r → ∃ o : Obj, X.heap[r]? = some o ∧ o.isCells = false := fun r e => (hr r e).2
          exact ⟨⟨hc, pre', x, e1, e2, e3, v, cells_own e4 hg hr2, R_own e5 hg hr2⟩, cells_own e6 hg hr2, e7.grown hg e7.size (fun k e => by have := (hr k e).1; have := hHB6.size; omega)⟩)
        ⟨(fun x hx => by cases hx), Below.refl _ _⟩
        (fun x a' W => ∃ Bx, w6.heap.size ≤ Bx ∧ W.heap[Bx]? = some (.cells #[.int .i64 (rd_T61 l0_1 (x : Int)).f0, v1 x] 61 (0, 0)) ∧ a' = { tmps := #[.agg #[.slice A0_0 l0_0.length c0_0, .slice A0_1 l0_1.length c0_1], .int .i64 a1, .pointer (some ⟨w.heap.size, 0, none⟩), .pointer (some ⟨w.heap.size + 1, 0, none⟩), .pointer (some ⟨w.heap.size + 1 + 1, 0, none⟩), .pointer (some ⟨w.heap.size + 1 + 1 + 1, 0, none⟩), .int .i64 t0, undef, .pointer (some ⟨Bx, 0, none⟩), .agg #[.slice A0_0 l0_0.length c0_0, .slice A0_1 l0_1.length c0_1], .int .i64 a1, .int .i64 t0, .int .i64 t0, .bool false, undef, .pointer (some ⟨w.heap.size, 1, none⟩), .slice A0_1 l0_1.length c0_1, .func (.func 74) #[] #[.pointer (some ⟨w5.heap.size, 0, none⟩)], .int .i64 (x : Int), .agg #[.int .i64 (rd_T61 l0_1 (x : Int)).f0, v1 x], undef, undef, undef, undef, undef, undef, undef, undef, undef, undef, undef, undef, undef], defers := [] })
        (fun x a' _ X Y row hs hg hr => by obtain ⟨Bx, e1, e2, e3⟩ := hs; exact ⟨Bx, e1, cells_own e2 hg (fun r e => (hr r e).2), e3⟩)
        ?assign ?body ?done ?stop
      case assign =>
        rintro l pre x W K ⟨hp, hB1⟩ hK
        obtain ⟨A1, c1, ev, _⟩ := hv1 x
        rw [ev]
        gi_wp2
        exact hK _ _ ((KeepsOthers.alloc _ _).from _) ((Below.refl _ W).alloc hB1.size _) ⟨hp, hB1.alloc hB1.size _⟩ ⟨W.heap.size, hB1.size, by rw [ev]; exact blk_new _ _, by rw [ev]⟩
      case body =>
        rintro l pre x a' W hl ⟨r, hr⟩ ⟨hp, hB1⟩ ⟨Bx, hBx, bX, rfl⟩ hlt
        obtain ⟨A1, c1, ev, hC⟩ := hv1 x
        rw [ev] at bX ⊢
        have cX := (blk_cell bX 0).trans rfl
        have cX1 := (blk_cell bX 1).trans rfl
        have B3 := blk_below BK3.out hB1
        have cS := (blk_cell B3 0).trans rfl
        have hBW : Below w.heap.size w W := below_step hHB6 hB1
        by_cases hxy : (rd_T61 l0_1 (x : Int)).f0 = a1
        · have hxb : ((rd_T61 l0_1 (x : Int)).f0 == a1) = true := by simpa using hxy
          gi_wp2
          refine ⟨trivial, (CallsIn.inRound l (callsIn_wide.2 (clone_any A1 c1 (rd_T61 l0_1 (x : Int)).f1 W (Kd.C_below hC hBW) (elem_len ho5 x)))).mono ?_⟩
          rintro e w7 ⟨v7, rfl, ho, hb⟩
          obtain ⟨a7, d7, e7⟩ := Kd.R_slice ho
          subst e7
          have B4 := blk_below (blk_below BK4.out hB1) hb
          have B5 := blk_below (blk_below BK5.out hB1) hb
          have hr4 := (blk_cell B4 0).trans rfl
          have hr5 := (blk_cell B5 0).trans rfl
          have hg4 := blk_frozen B4 0
          have hg5 := blk_frozen B5 0
          have hB7 := below_step hBW hb
          have ho7 := Kd.R_lower ho hBW.size
          clear cX cX1 cS B3 bX
          gi_wp2
          refine ⟨((keeps_below hb).from _).trans (((KeepsOthers.setCell _ _ _).from _).trans ((KeepsOthers.setCell _ _ _).from _)), ⟨rfl, pre, x, rfl, hp, hxy, _, blk_far (blk_put B4 0 _ rfl) (p := ⟨w.heap.size + 1 + 1 + 1, 0, none⟩) (by show w.heap.size + 1 + 1 ≠ w.heap.size + 1 + 1 + 1; omega) _, ?_⟩, blk_put (blk_far B5 (p := ⟨w.heap.size + 1 + 1, 0, none⟩) (by show w.heap.size + 1 + 1 + 1 ≠ w.heap.size + 1 + 1; omega) _) 0 _ rfl, (hB7.setCell (p := ⟨w.heap.size + 1 + 1, 0, none⟩) (by show w.heap.size ≤ w.heap.size + 1 + 1; omega) _).setCell (p := ⟨w.heap.size + 1 + 1 + 1, 0, none⟩) (by show w.heap.size ≤ w.heap.size + 1 + 1 + 1; omega) _⟩
          exact Kd.R_set (Kd.R_set ho7 B4 (by decide) 0 _) (blk_far B5 (p := ⟨w.heap.size + 1 + 1, 0, none⟩) (by show w.heap.size + 1 + 1 + 1 ≠ w.heap.size + 1 + 1; omega) _) (by decide) 0 _
        · have hxb : ((rd_T61 l0_1 (x : Int)).f0 == a1) = false := by simpa using hxy
          gi_wp2
          exact ⟨KeepsFrom.refl _ _, Below.refl _ _, fun z hz => (List.mem_append.1 hz).elim (hp z) (fun e => by rw [List.mem_singleton.1 e]; exact hxy), hB1⟩
      case done =>
        rintro D ys W hD rfl ⟨hp, hB1⟩ hK
        have hBW : Below w.heap.size w W := below_step hHB6 hB1
        obtain ⟨ad, A2, c2, rfl, hE, hEl, hEC⟩ := at_L4 HR0.out a1 c3 c4
        have hE2 := (hBW.cell (World.block_lt_of_cell? _ _ hE)).trans hE
        have hz0 := (blk_cell (blk_below BK2.out hB1) 0).trans rfl
        have hz3 := (blk_cell (blk_below BK3.out hB1) 0).trans rfl
        have hpx := eq_true c3
        have hqx := eq_true c4
        have hcl := got_none (l0 := l0_0) hp
        have hlen : (rd_L4 l0_0 a1).length < 140737488355328 := by
          rw [rd_L4, List.getD_eq_getElem?_getD, List.getElem?_eq_getElem (by omega), Option.getD_some, ho4 _ (List.getElem_mem _)]
          decide
        gi_wp2
        refine ⟨trivial, (callsIn_wide.2 (clone_any A2 c2 (rd_L4 l0_0 a1) W (Kd.C_below hEC hBW) hlen)).mono ?_⟩
        rintro e w7 ⟨v7, rfl, ho, hb⟩
        obtain ⟨a7, d7, e7⟩ := Kd.R_slice ho
        subst e7
        have B4 := blk_below (blk_below BK4.out hB1) hb
        have B5 := blk_below (blk_below BK5.out hB1) hb
        have hr4 := (blk_cell B4 0).trans rfl
        have hr5 := (blk_cell B5 0).trans rfl
        have hg4 := blk_frozen B4 0
        have hg5 := blk_frozen B5 0
        have hB7 := below_step hBW hb
        have ho7 := Kd.R_lower ho hBW.size
        have hK7 := (keeps_below hb).same D _ hK rfl
        have B4b := blk_far (blk_put B4 0 (.slice a7 (rd_L4 l0_0 a1).length d7) rfl) (p := ⟨w.heap.size + 1 + 1 + 1, 0, none⟩) (by show w.heap.size + 1 + 1 ≠ w.heap.size + 1 + 1 + 1; omega) (.int .i64 0)
        have B5b := blk_put (blk_far B5 (p := ⟨w.heap.size + 1 + 1, 0, none⟩) (by show w.heap.size + 1 + 1 + 1 ≠ w.heap.size + 1 + 1; omega) (.slice a7 (rd_L4 l0_0 a1).length d7)) 0 (.int .i64 0) rfl
        have ho8 := Kd.R_set (Kd.R_set ho7 B4 (by decide) 0 (.slice a7 (rd_L4 l0_0 a1).length d7)) (blk_far B5 (p := ⟨w.heap.size + 1 + 1, 0, none⟩) (by show w.heap.size + 1 + 1 + 1 ≠ w.heap.size + 1 + 1; omega) (.slice a7 (rd_L4 l0_0 a1).length d7)) (by decide) 0 (.int .i64 0)
        have hK8 := (KeepsOthers.setCell (w7.setCell ⟨w.heap.size + 1 + 1, 0, none⟩ (.slice a7 (rd_L4 l0_0 a1).length d7)) ⟨w.heap.size + 1 + 1 + 1, 0, none⟩ (.int .i64 0)).same D _ ((KeepsOthers.setCell w7 ⟨w.heap.size + 1 + 1, 0, none⟩ (.slice a7 (rd_L4 l0_0 a1).length d7)).same D _ hK7 rfl) rfl
        have hB8 := (hB7.setCell (p := ⟨w.heap.size + 1 + 1, 0, none⟩) (by show w.heap.size ≤ w.heap.size + 1 + 1; omega) (.slice a7 (rd_L4 l0_0 a1).length d7)).setCell (p := ⟨w.heap.size + 1 + 1 + 1, 0, none⟩) (by show w.heap.size ≤ w.heap.size + 1 + 1 + 1; omega) (.int .i64 0)
        have hro : ∀ r, some D = some r → ∃ o : Obj, ((w7.setCell ⟨w.heap.size + 1 + 1, 0, none⟩ (.slice a7 (rd_L4 l0_0 a1).length d7)).setCell ⟨w.heap.size + 1 + 1 + 1, 0, none⟩ (.int .i64 0)).heap[r]? = some o ∧ o.isCells = false := fun r e => by cases e; exact ⟨_, hK8, rfl⟩
        have hc4 := (blk_cell (cells_own B4b (grownBy_putObj' _ D (.deferred none)) hro) 0).trans rfl
        have hc5 := (blk_cell (cells_own B5b (grownBy_putObj' _ D (.deferred none)) hro) 0).trans rfl
        clear hz0 hz3 hE hE2
        gi_wp2
        refine ⟨by simp, .inl ⟨_, _, rfl, run_takeDeferred hK8, ?_⟩⟩
        refine ⟨.tuple #[.slice a7 (rd_L4 l0_0 a1).length d7, .int .i64 0], by simp [results, Try.f27, go_sem, hc4, hc5], _, rfl, ?_, hB8.trans (belowK_b (w := w) (Nat.le_refl _) _ D _ _ (by have := hHB6.size; omega) hK8 rfl rfl)⟩
        rw [hcl]
        exact R_own ho8 (grownBy_putObj' _ D (.deferred none)) hro
      case stop =>
        rintro D c pre W hD ⟨k', hk', hpk⟩ ⟨⟨rfl, pre', x, hpre, hp, hx, v, hv, ho⟩, h5, hBW⟩ hK
        have hcl := got_some (l0 := l0_0) hk' (hpk.symm.trans hpre) hp hx
        have hro : ∀ r, some D = some r → ∃ o : Obj, W.heap[r]? = some o ∧ o.isCells = false := fun r e => by cases e; exact ⟨_, hK, rfl⟩
        have hc4 := (blk_cell (cells_own hv (grownBy_putObj' _ D (.deferred none)) hro) 0).trans rfl
        have hc5 := (blk_cell (cells_own h5 (grownBy_putObj' _ D (.deferred none)) hro) 0).trans rfl
        gi_wp2
        refine ⟨by simp, .inl ⟨_, _, rfl, run_takeDeferred hK, ?_⟩⟩
        refine ⟨.tuple #[v, .int .i64 0], by simp [results, Try.f27, go_sem, hc4, hc5], _, rfl, ?_, hBW.trans (belowK_b (w := w) (Nat.le_refl _) _ D _ _ (by have := hHB6.size; omega) hK rfl rfl)⟩
        rw [hcl]
        exact R_own ho (grownBy_putObj' _ D (.deferred none)) hro
    · rw [if_neg c2] at h
      exact absurd h (by simp)
  · have c1b : (t0 != 0) = true := by simp [c1]
    have h := H.out
    rw [if_neg c1] at h
    obtain ⟨rfl, rfl⟩ : [] = r1 ∧ t0 = r2 := by simpa using h
    clear H h c1
    have hr4 : w5.cell? ⟨w.heap.size + 1 + 1, 0, none⟩ = some (.slice none 0 0) := (blk_cell BK4.out 0).trans rfl
    have hr5 : w5.cell? ⟨w.heap.size + 1 + 1 + 1, 0, none⟩ = some (.int .i64 0) := (blk_cell BK5.out 0).trans rfl
    have hg4 := blk_frozen BK4.out 0
    have hg5 := blk_frozen BK5.out 0
    have BK4b := blk_far (blk_put BK4.out 0 (.slice none 0 0) rfl) (p := ⟨w.heap.size + 1 + 1 + 1, 0, none⟩) (by show w.heap.size + 1 + 1 ≠ w.heap.size + 1 + 1 + 1; omega) (.int .i64 t0)
    have BK5b := blk_put (blk_far BK5.out (p := ⟨w.heap.size + 1 + 1, 0, none⟩) (by show w.heap.size + 1 + 1 + 1 ≠ w.heap.size + 1 + 1; omega) (.slice none 0 0)) 0 (.int .i64 t0) rfl
    have hy4 := (blk_cell BK4b 0).trans rfl
    have hy5 := (blk_cell BK5b 0).trans rfl
    gi_wp2
    refine ⟨_, by simp [results, Try.f27, go_sem, hy4, hy5], _, rfl, Kd.R_nil _ _ _ _ _, (HB.out.setCell (p := ⟨w.heap.size + 1 + 1, 0, none⟩) (by show w.heap.size ≤ w.heap.size + 1 + 1; omega) _).setCell (p := ⟨w.heap.size + 1 + 1 + 1, 0, none⟩) (by show w.heap.size ≤ w.heap.size + 1 + 1 + 1; omega) _⟩
end Go.Proofs.Ytiiphlfgdkjjiaa.Q
