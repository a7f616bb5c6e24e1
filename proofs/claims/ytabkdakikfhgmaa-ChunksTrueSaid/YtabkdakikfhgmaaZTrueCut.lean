/- chunks.Cut: the pieces of octets; no condition but that the octets are octets. -/
import Derived.Lib.Hide
import Derived.Test.YtabkdakikfhgmaaZTrueCkSeq
import Derived.Test.YtabkdakikfhgmaaZTrueCrcA
import Derived.Test.YtabkdakikfhgmaaZTrueCln
import Derived.Test.YtabkdakikfhgmaaZTrueRound
namespace Go.Proofs.Ytabkdakikfhgmaa.Q
open Go.RowKit Go.Shelf Go.Proofs.YtabkdakikfhgmaaW.PrintWords Go.Proofs.YtabkdakikfhgmaaW.PrintLast Go.Proofs.YtabkdakikfhgmaaW.PrintMore
set_option linter.unusedVariables false
set_option linter.unusedSimpArgs false
attribute [local go_sem] Oper.semAt_some

/-- An operation of an ordered region within a round, by the step of one outside of it. -/
theorem list_round {P : Program} {ops : Array Oper} {Q : Exit → Act → World → Prop} {l n : Nat} {o : Oper} {rest : List Oper} {a : Act} {w : World} (N : Tmp) (hN : o.dst = some N) (hd : noDefer o = true) (hw : Region.wanted o (yielded ops a.tmps) = true)
    (h : if Region.wanted o (yielded ops a.tmps) = true then Oper.wp P o a w (wpListIn (Fence.wide.inRound l) n P ops Q rest) Q else wpListIn (Fence.wide.inRound l) n P ops Q rest (a.put o.dst undef) w) :
    wpListIn (Fence.wide.inRound l) n P ops Q (o :: rest) a w := by
  rw [if_pos hw] at h
  show (if Region.wanted o (yielded ops a.tmps) then _ else _)
  rw [if_pos hw]
  exact operIn_round hd h

theorem infoC : (Try.prog.info? 41).map (fun i => (i.zero, i.size, i.bytes)) = some (some (.agg #[(.int .i64 0), (.int .u32 0), (.int .i64 0), (.slice none 0 0)]), 4, 48) := by kernel_rfl
/-- How many pieces. -/
def cnt (len m : Nat) : Nat := (len + m - 1) / m
def offs (m len : Nat) (pre : List Nat) : Nat := (pre.map (plen m len)).sum
/-- The pieces at these places, told with a running offset. -/
def accR (l0 : List Int) (m : Nat) (s : Int) (pre : List Nat) : List S41 := (List.range pre.length).map fun j => ⟨(l0.length : Int), s, (offs m l0.length (pre.take j) : Int), (l0.drop (pre.getD j 0)).take m⟩
theorem accR_snoc (l0 : List Int) (m : Nat) (s : Int) (pre : List Nat) (x : Nat) : accR l0 m s (pre ++ [x]) = accR l0 m s pre ++ [⟨(l0.length : Int), s, (offs m l0.length pre : Int), (l0.drop x).take m⟩] := by
  unfold accR
  rw [List.length_append, List.length_singleton, List.range_succ, List.map_append]
  congr 1
  · refine List.map_congr_left fun j hj => ?_
    have hj' := List.mem_range.1 hj
    rw [List.take_append_of_le_length (by omega), List.getD_eq_getElem?_getD, List.getElem?_append_left hj', ← List.getD_eq_getElem?_getD]
  · simp
theorem offs_snoc (m len : Nat) (pre : List Nat) (x : Nat) : offs m len (pre ++ [x]) = offs m len pre + plen m len x := by simp [offs]
theorem offs_le (m len : Nat) : ∀ pre : List Nat, offs m len pre ≤ pre.length * m
  | [] => by simp [offs]
  | x :: pre => by
    have h := offs_le m len pre
    have h1 : offs m len (x :: pre) = plen m len x + offs m len pre := by simp [offs]
    have h2 : plen m len x ≤ m := Nat.min_le_left _ _
    rw [h1, List.length_cons, Nat.add_mul, Nat.one_mul]
    omega
theorem accR_length (l0 : List Int) (m : Nat) (s : Int) (pre : List Nat) : (accR l0 m s pre).length = pre.length := by simp [accR]
theorem cnt_ge (len m : Nat) (hm : 1 ≤ m) : len ≤ cnt len m * m := by
  have h := Nat.div_add_mod (len + m - 1) m
  have h2 := Nat.mod_lt (len + m - 1) (show 0 < m by omega)
  unfold cnt
  rw [Nat.mul_comm]
  omega
theorem cnt_lt (len m : Nat) (hm : 1 ≤ m) (k : Nat) (h : k * m < len) : k < cnt len m := by
  have h1 := cnt_ge len m hm
  exact Nat.lt_of_mul_lt_mul_right (Nat.lt_of_lt_of_le h h1)
theorem cnt_gt (len m : Nat) (hm : 1 ≤ m) (k : Nat) (h : k < cnt len m) : k * m < len := by
  unfold cnt at h
  have h1 := Nat.div_mul_le_self (len + m - 1) m
  have h2 : (k + 1) * m ≤ (len + m - 1) / m * m := Nat.mul_le_mul_right m h
  rw [Nat.add_mul, Nat.one_mul] at h2
  omega
theorem cnt_le (len m : Nat) (hm : 1 ≤ m) : cnt len m ≤ len := by
  rcases Nat.eq_zero_or_pos (cnt len m) with h | h
  · omega
  · have h1 := cnt_gt len m hm (cnt len m - 1) (by omega)
    have h2 : (cnt len m - 1) * 1 ≤ (cnt len m - 1) * m := Nat.mul_le_mul_left _ hm
    omega
def chunks_Cut.f (l0 : List Int) (a1 : Int) : Option (List S41 × Int) :=
  if (l0.length : Int) > 1048576 then some ([], 5) else if a1 < 1 then some ([], 4) else if a1 > 4096 then some ([], 4) else
    (crc_Sum.f l0).bind fun s => if l0.length = 0 then some ([⟨0, s, 0, []⟩], 0) else some (accR l0 a1.toNat s (us a1.toNat (cnt l0.length a1.toNat)), 0)

theorem S_of_lit {α : Type} (d : Kd α) {W : World} (base e : Nat) {xs : List α} {inner : List Value} (hrep : Reps (d.M W base (fun _ => False)) d.sz xs inner) (hbase : base ≤ W.heap.size) (hm : xs.length ≤ 9223372036854775807) : Kd.S d e (W.alloc (.cells inner.toArray e)) base (fun _ => True) (.slice (some ⟨W.heap.size, 0, none⟩) xs.length xs.length) xs := by
  refine Kd.S_bare ⟨fun k hk => trivial, inner, ?_, ?_⟩
  · have h2 := World.ownsRow_lit (base := base) (e := e) (size := d.sz) W inner.toArray xs.length hbase (by simpa [maxLen] using hm) (by simpa using hrep.1)
    show World.ownsRow _ base e d.sz _ _ _
    simpa using h2
  · exact hrep.imp_ (fun p c hp => d.M_mono (fun k hk => hk.1) (Kd.M_below (d.M_bound hp) (below_alloc (Below.refl _ _) _)))
theorem cells_ownC {W W' : World} {B t : Nat} {cs : Array Value} {row : Option Nat} (h : W.heap[B]? = some (.cells cs t (0, 0))) (hg : W.grownBy W' row) (hrow : ∀ r, row = some r → ∃ o : Obj, W.heap[r]? = some o ∧ o.isCells = false) : W'.heap[B]? = some (.cells cs t (0, 0)) :=
  blk_grown h hg (fun e => by obtain ⟨o, ho, hc⟩ := hrow B e.symm; rw [h] at ho; injection ho with ho; rw [← ho] at hc; cases hc)
theorem S_ownC {α : Type} {d : Kd α} {e base : Nat} {v : Value} {xs : List α} {ok : Nat → Prop} {W W' : World} {row : Option Nat} (h : Kd.S d e W base ok v xs) (hg : W.grownBy W' row) (hrow : ∀ r, row = some r → ∃ o : Obj, W.heap[r]? = some o ∧ o.isCells = false) : Kd.S d e W' base ok v xs :=
  Kd.S_mono (Kd.S_grown (Kd.S_bound h) hg (fun k hk e_ => by
    obtain ⟨_, _, _, q, _, cells, hc⟩ := hk
    obtain ⟨o, ho, hoc⟩ := hrow k e_.symm
    rw [hc] at ho
    injection ho with ho
    rw [← ho] at hoc
    cases hoc)) (fun k hk => hk.1)
theorem keeps_belowC {W W' : World} (h : Below W.heap.size W W') : KeepsOthers W W' := ⟨h.size, fun k o hk _ => (h.block k (Array.getElem?_eq_some_iff.1 hk).1).trans hk⟩
theorem plen_len (l0 : List Int) (m x : Nat) : ((l0.drop x).take m).length = plen m l0.length x := by simp [plen]
theorem piece_C {w : World} {ad : Addr} {l0 : List Int} (h : Kd.C (Kd.int .u8) w (some ad) l0.length l0) (m x : Nat) : Kd.C (Kd.int .u8) w (some (ad.add x)) ((l0.drop x).take m).length ((l0.drop x).take m) := by
  rcases Nat.lt_or_ge l0.length x with hx | hx
  · have e : (l0.drop x).take m = [] := by rw [List.drop_eq_nil_of_le (by omega), List.take_nil]
    rw [e]
    exact Kd.C_of_reads (d := (0 : Int)) ⟨rfl, by decide, fun h => absurd h (by decide)⟩
  · have h1 := Kd.C_mid (c := l0.length + x + 1) (lo := x) (hi := min (x + m) l0.length) h (by omega) (by omega) (by omega)
    rw [if_neg (by omega), List.drop_take] at h1
    have e : (l0.drop x).take (min (x + m) l0.length - x) = (l0.drop x).take m := by
      rw [List.take_eq_take_iff]
      simp only [List.length_drop]
      omega
    rw [e] at h1
    rw [show x * (Kd.int .u8).sz = x from Nat.mul_one x] at h1
    exact h1
theorem off_room (m len x N : Nat) (pre : List Nat) (hm : m ≤ 4096) (hN : N ≤ 1048576) (hp : pre.length < N) : offs m len pre + plen m len x ≤ 4294967296 := by
  have h1 := offs_le m len pre
  have h2 : plen m len x ≤ m := Nat.min_le_left _ _
  have h3 : pre.length * m ≤ pre.length * 4096 := Nat.mul_le_mul_left _ hm
  omega
set_option maxHeartbeats 8000000 in
set_option maxRecDepth 100000 in
theorem chunks_Cut.calls (A0 : Option Addr) (c0 : Nat) (l0 : List Int) (a1 : Int) (r1 : List S41) (r2 : Int) (w : World) (hr0 : Kd.C (Kd.int .u8) w A0 l0.length l0) (hc0 : l0.length ≤ c0) (h : chunks_Cut.f l0 a1 = some (r1, r2)) :
    Calls Try.prog 16 #[.slice A0 l0.length c0, .int .i64 a1] w fun e w' => ∃ v0_ : Value, e = .returned (.tuple #[v0_, .int .i64 r2]) ∧ Kd.S k41 41 w' w.heap.size (fun _ => True) v0_ r1 ∧ Below w.heap.size w w' := by
  have hu := Try.underlying41
  have HR := Aside0.mk hr0
  clear hr0
  unfold chunks_Cut.f at h
  by_cases c1 : (l0.length : Int) > 1048576
  · rw [if_pos c1] at h
    obtain ⟨rfl, rfl⟩ : [] = r1 ∧ 5 = r2 := by simpa using h
    have c1b : decide (1048576 < (l0.length : Int)) = true := decide_eq_true c1
    go_enter Try.func16, Try.ntmps16
    go_wp2
    refine bodyPost_ret (results_tmp2 rfl _ _ _) rfl ?_
    exact ⟨_, rfl, Kd.S_nil _ _ _ _ _, Below.refl _ _⟩
  rw [if_neg c1] at h
  have c1b : decide (1048576 < (l0.length : Int)) = false := decide_eq_false c1
  by_cases c2 : a1 < 1
  · rw [if_pos c2] at h
    obtain ⟨rfl, rfl⟩ : [] = r1 ∧ 4 = r2 := by simpa using h
    have c2b := decide_eq_true c2
    go_enter Try.func16, Try.ntmps16
    go_wp2
    refine bodyPost_ret (results_tmp2 rfl _ _ _) rfl ?_
    exact ⟨_, rfl, Kd.S_nil _ _ _ _ _, Below.refl _ _⟩
  rw [if_neg c2] at h
  have c2b := decide_eq_false c2
  by_cases c3 : a1 > 4096
  · rw [if_pos c3] at h
    obtain ⟨rfl, rfl⟩ : [] = r1 ∧ 4 = r2 := by simpa using h
    have c3b : decide (4096 < a1) = true := decide_eq_true c3
    go_enter Try.func16, Try.ntmps16
    go_wp2
    refine bodyPost_ret (results_tmp2 rfl _ _ _) rfl ?_
    exact ⟨_, rfl, Kd.S_nil _ _ _ _ _, Below.refl _ _⟩
  rw [if_neg c3] at h
  have c3b : decide (4096 < a1) = false := decide_eq_false c3
  obtain ⟨s, hs, h⟩ := Option.bind_eq_some_iff.mp h
  have HS := Aside0.mk hs
  clear hs
  obtain ⟨m, rfl⟩ := Int.eq_ofNat_of_zero_le (show 0 ≤ a1 by omega)
  by_cases c4 : l0.length = 0
  · obtain rfl : l0 = [] := List.length_eq_zero_iff.1 c4
    rw [if_pos (by rfl)] at h
    obtain ⟨rfl, rfl⟩ : [(⟨0, s, 0, []⟩ : S41)] = r1 ∧ 0 = r2 := by simpa using h
    have H := HS.out
    go_enter Try.func16, Try.ntmps16
    go_wp2_with fail
    refine (crc_Sum.calls A0 c0 [] s w HR.out hc0 HS.out).mono ?_
    rintro e w1 ⟨rfl, hb⟩
    have HB2 : Below w.heap.size w (w1.alloc (.cells #[.int .i64 0, .int .u32 s, .int .i64 0, .slice none 0 0] 41)) := below_alloc hb _
    go_wp2
    refine bodyPost_ret (results_tmp2 rfl _ _ _) rfl ?_
    have hs9 := S_of_lit k41 (W := w1.alloc (.cells #[.int .i64 0, .int .u32 s, .int .i64 0, .slice none 0 0] 41)) w.heap.size 41 (xs := [(⟨0, s, 0, []⟩ : S41)]) (inner := [.int .i64 0, .int .u32 s, .int .i64 0, .slice none 0 0]) (Reps.c4 (k41_mkM _ _ _ (⟨0, s, 0, []⟩ : S41) (Kd.R_nil _ _ _ _ _)) (Reps.none _ _)) HB2.size (by simp)
    rw [World.size_alloc] at hs9
    exact ⟨_, rfl, hs9, below_alloc HB2 _⟩
  rw [if_neg c4, Int.toNat_natCast] at h
  obtain ⟨rfl, rfl⟩ : accR l0 m s (us m (cnt l0.length m)) = r1 ∧ 0 = r2 := by simpa using h
  clear h
  refine (callsIn_wide (n := 9)).1 ?_
  refine callsIn_of_wp_marks Try.func16 rfl trivial ?_ rfl
  simp only [Try.ntmps16, List.size_toArray, List.length_cons, List.length_nil, Nat.reduceAdd, Nat.reduceSub, Array.replicate_succ, Array.replicate_zero, List.push_toArray, List.append_toArray, List.nil_append, List.cons_append]
  gi_wp2
  refine ⟨trivial, (callsIn_wide.2 (crc_Sum.calls A0 c0 l0 s w HR.out hc0 HS.out)).mono ?_⟩
  rintro e w1 ⟨rfl, hb⟩
  have c4b : ((l0.length : Int) == 0) = false := by simpa using c4
  gi_wp2
  obtain ⟨W3, hW3⟩ : ∃ W3, W3 = (w1.alloc (.cells #[.int .i64 (l0.length : Int), .int .u32 s, .int .i64 0, .slice none 0 0] 41)).alloc (.cells #[.slice none 0 0] 37) := ⟨_, rfl⟩
  have hs3 : W3.heap.size = w1.heap.size + 2 := by rw [hW3]; simp
  rw [← hW3]
  refine ⟨trivial, (chunk_in Fence.wide 8 trivial rfl A0 l0.length c0 m (by omega) W3).mono ?_⟩
  rintro e w4 ⟨rfl, hw4⟩
  have hal : Below W3.heap.size W3 w4 := by rw [hw4]; exact below_alloc (below_alloc (Below.refl _ _) _) _
  have BKC := Aside0.mk (show w4.heap[w1.heap.size]? = some (.cells #[.int .i64 (l0.length : Int), .int .u32 s, .int .i64 0, .slice none 0 0] 41 (0, 0)) from blk_below (by rw [hW3]; exact blk_alloc (blk_new _ _) _) hal)
  have BKO := Aside0.mk (show w4.heap[w1.heap.size + 1]? = some (.cells #[.slice none 0 0] 37 (0, 0)) from blk_below (by rw [hW3]; have := blk_new (w1.alloc (.cells #[.int .i64 (l0.length : Int), .int .u32 s, .int .i64 0, .slice none 0 0] 41)) (.cells #[.slice none 0 0] 37); simpa only [World.size_alloc] using this) hal)
  have BKS := Aside0.mk (show w4.heap[w1.heap.size + 2]? = some (.cells #[.slice A0 l0.length c0] 22 (0, 0)) from by rw [hw4, ← hs3]; exact blk_alloc (blk_new _ _) _)
  have BKN := Aside0.mk (show w4.heap[w1.heap.size + 3]? = some (.cells #[.int .i64 (m : Int)] 3 (0, 0)) from by rw [hw4, show w1.heap.size + 3 = W3.heap.size + 1 from by rw [hs3]]; have := blk_new (W3.alloc (.cells #[.slice A0 l0.length c0] 22)) (.cells #[.int .i64 (m : Int)] 3); simpa only [World.size_alloc] using this)
  have HB := Aside0.mk (show Below w.heap.size w w4 from below_step (by rw [hW3]; exact below_alloc (below_alloc hb _) _) hal)
  have hs4 : w4.heap.size = w1.heap.size + 4 := by rw [hw4]; simp [hs3]
  have hsb := hb.size
  rw [hs3]
  clear hal hw4 hW3 hs3 hb
  have HR4 := Kd.C_below HR.out HB.out
  obtain ⟨ad, rfl⟩ : ∃ ad, A0 = some ad := by
    obtain ⟨ad, _, e, _⟩ := Kd.C_get HR.out (0 : Int) 0 (by omega) (by omega)
    exact ⟨ad, e⟩
  have hm1 : 1 ≤ m := by omega
  have hm2 : m ≤ 4096 := by omega
  have hl1 : l0.length ≤ 1048576 := by omega
  have hNle := cnt_le l0.length m hm1
  have hHB := HB.out
  gi_wp2
  refine wpIn_rangeFunc_ownH (α := Nat) rfl (by omega) (gf := 29) (lb := #[.pointer (some ⟨w1.heap.size + 2, 0, none⟩), .pointer (some ⟨w1.heap.size + 3, 0, none⟩)]) rfl trivial (enters_of Try.func29 (by kernel_rfl) rfl)
    (chunk_stops Fence.wide 8 trivial rfl (by omega) (w1.heap.size + 2) (w1.heap.size + 3) ad l0.length c0 m hm1 hm2 hc0 hl1 (cnt l0.length m) (cnt_ge _ _ hm1) (cnt_lt _ _ hm1) (cnt_gt _ _ hm1) w4 ((blk_cell BKS.out 0).trans rfl) ((blk_cell BKN.out 0).trans rfl)) KpC2.trans (fun W l o o' hl _ _ _ => KpC2.put (w := w4) (by omega) (by omega) hl) (Below.refl _ _) (fun _ => rfl)
    (fun pre W => (∃ v, W.heap[w1.heap.size + 1]? = some (.cells #[v] 37 (0, 0)) ∧ Kd.S k41 41 W w.heap.size (fun k => k ≠ w1.heap.size) v (accR l0 m s pre)) ∧ (∃ vd, W.heap[w1.heap.size]? = some (.cells #[.int .i64 (l0.length : Int), .int .u32 s, .int .i64 (offs m l0.length pre : Nat), vd] 41 (0, 0))) ∧ W.heap[w1.heap.size + 2]? = some (.cells #[.slice (some ad) l0.length c0] 22 (0, 0)) ∧ W.heap[w1.heap.size + 3]? = some (.cells #[.int .i64 (m : Int)] 3 (0, 0)) ∧ Below w.heap.size w W)
    (fun _ _ _ => False)
    (fun pre X Y row hs hg hr => by
      obtain ⟨⟨v, e4, e5⟩, ⟨vd, e6⟩, e8, e9, e7⟩ := hs
      have hr2 : ∀ r, row = some r → ∃ o : Obj, X.heap[r]? = some o ∧ o.isCells = false := fun r e => (hr r e).2
      exact ⟨⟨v, cells_ownC e4 hg hr2, S_ownC e5 hg hr2⟩, ⟨vd, cells_ownC e6 hg hr2⟩, cells_ownC e8 hg hr2, cells_ownC e9 hg hr2, e7.grown hg e7.size (fun k e => by have := (hr k e).1; omega)⟩)
    (fun c pre X Y row hs hg hr => hs.elim)
    ⟨⟨_, BKO.out, Kd.S_nil _ _ _ _ _⟩, ⟨_, BKC.out⟩, BKS.out, BKN.out, HB.out⟩
    (fun x a' W => a' = { tmps := #[.slice (some ad) l0.length c0, .int .i64 (m : Int), undef, undef, .slice none 0 0, .int .i64 0, .pointer (some ⟨w1.heap.size, 0, none⟩), .pointer (some ⟨w1.heap.size + 1, 0, none⟩), pval ad m l0.length x, .slice (some ad) l0.length c0, .int .i64 (l0.length : Int), .bool false, .int .i64 (m : Int), .bool false, .bool false, .int .i64 (m : Int), .bool false, .bool false, .slice (some ad) l0.length c0, .int .i64 (l0.length : Int), .slice (some ad) l0.length c0, .int .u32 s, .agg #[.int .i64 (l0.length : Int), .int .u32 s, .int .i64 0, .slice none 0 0], .pointer (some ⟨w1.heap.size, 0, none⟩), .int .i64 (l0.length : Int), .bool false, undef, undef, .slice (some ad) l0.length c0, .int .i64 (m : Int), .func (.func 29) #[] #[.pointer (some ⟨w1.heap.size + 2, 0, none⟩), .pointer (some ⟨w1.heap.size + 3, 0, none⟩)], pval ad m l0.length x, undef, undef, undef, undef, undef, undef, undef, undef, undef, undef, undef, undef, undef, undef], defers := [] })
    (fun x a' _ X Y row hs hg hr => hs)
    ?assign ?body ?done ?stop
  case assign =>
    rintro l pre x W K hI hK
    gi_wp2
    exact hK _ _ (KeepsFrom.refl _ _) (KpC2.refl _ _ _) hI rfl
  case body =>
    rintro l pre x a' W hl ⟨r, hr⟩ ⟨⟨v, hv, ho⟩, ⟨vd, hvd⟩, hs0, hn0, hB⟩ rfl hlt
    have hor := off_room m l0.length x _ pre hm2 (by omega) hlt
    have hPC := piece_C (Kd.C_below HR.out hB) m x
    obtain ⟨p, hp⟩ : ∃ p, p = (l0.drop x).take m := ⟨_, rfl⟩
    have hq : plen m l0.length x = p.length := by rw [hp, plen_len]
    have HP := Aside0.mk hp
    rw [← hp] at hPC
    have HPC := Aside0.mk hPC
    obtain ⟨A, c, ev⟩ := Kd.S_slice ho
    subst ev
    have HO := Aside0.mk ho
    have BC := Aside0.mk hvd
    have BO := Aside0.mk hv
    have BS := Aside0.mk hs0
    have BN := Aside0.mk hn0
    have HB1 := Aside0.mk hB
    obtain ⟨off, hoff⟩ : ∃ off, off = offs m l0.length pre := ⟨_, rfl⟩
    have HOFF := Aside0.mk hoff
    unfold pval
    rw [hq] at hor ⊢
    rw [← hoff] at hor BC
    have hpl : p.length ≤ 4096 := by rw [← hq]; exact Nat.le_trans (Nat.min_le_left _ _) hm2
    clear hp hPC ho hvd hv hs0 hn0 hoff hq hB
    gi_wp2
    refine ⟨trivial, (CallsIn.inRound l (callsIn_wide.2 (clone_any (some (ad.add x)) p.length p W HPC.out (by omega)))).mono ?_⟩
    rintro e w7 ⟨v7, rfl, ho7, hb7⟩
    obtain ⟨A7, d7, e7⟩ := Kd.R_slice ho7
    subst e7
    have BC7 := Aside0.mk (blk_below BC.out hb7)
    have BO7 := Aside0.mk (blk_below BO.out hb7)
    have BS7 := Aside0.mk (blk_below BS.out hb7)
    have BN7 := Aside0.mk (blk_below BN.out hb7)
    have HO7 := Aside0.mk ho7
    have HB7 := Aside0.mk hb7
    have hz0 := (blk_cell BC7.out 0).trans rfl
    have hz1 := (blk_cell BC7.out 1).trans rfl
    have hz2 := (blk_cell BC7.out 2).trans rfl
    have hz3 := (blk_cell BC7.out 3).trans rfl
    have hz4 := (blk_cell BO7.out 0).trans rfl
    have hf3 := blk_frozen BC7.out 3
    have hf2 := blk_frozen BC7.out 2
    have hf0 := blk_frozen BO7.out 0
    have hWlt : w1.heap.size < W.heap.size := blk_lt BC.out
    have hle7 := hb7.size
    have hwW := HB1.out.size
    obtain ⟨W8, hW8⟩ : ∃ W8, W8 = w7.setCell ⟨w1.heap.size, 3, none⟩ (.slice A7 p.length d7) := ⟨_, rfl⟩
    have HW8 := Aside0.mk hW8
    have hs8 : W8.heap.size = w7.heap.size := by rw [hW8]; simp
    have hlen2 : (accR l0 m s pre).length < 1048576 := by have := accR_length l0 m s pre; omega
    have hapart : ∀ k, some k = (Value.slice A7 p.length d7).ownBlock → W.heap.size ≤ k := fun k hk => Kd.R_base ho7 k hk.symm
    have hmem : ∀ k, (Value.slice A (accR l0 m s pre).length c).ownBlock = some k → k < W.heap.size := Kd.S_lt HO.out
    have hO8 : Kd.S k41 41 W8 w.heap.size (fun k => k ≠ w1.heap.size ∧ ¬ some k = (Value.slice A7 p.length d7).ownBlock) (.slice A (accR l0 m s pre).length c) (accR l0 m s pre) := by
      rw [hW8]
      exact Kd.S_mono (Kd.S_far (p := ⟨w1.heap.size, 3, none⟩) (Kd.S_old HO.out hb7) (fun k hk => hk.1) _) (fun k hk => ⟨hk.1, fun e_ => by have := hapart k e_; have := hk.2; omega⟩)
    have hM8 : k41.M W8 w.heap.size (fun k => some k = (Value.slice A7 p.length d7).ownBlock) (⟨(l0.length : Int), s, (off : Int), p⟩ : S41) [.int .i64 (l0.length : Int), .int .u32 s, .int .i64 (off : Int), .slice A7 p.length d7] := by
      rw [hW8]
      exact k41_mkM _ _ _ (⟨(l0.length : Int), s, (off : Int), p⟩ : S41) (Kd.R_lower (Kd.R_mono (Kd.R_tight rfl (Kd.R_set ho7 BC7.out (by decide) 3 _)) (fun _ h_ => h_)) hwW)
    have BC8 := Aside0.mk (show W8.heap[w1.heap.size]? = some (.cells #[.int .i64 (l0.length : Int), .int .u32 s, .int .i64 (off : Int), .slice A7 p.length d7] 41 (0, 0)) from by rw [hW8]; exact blk_put BC7.out 3 _ rfl)
    have BO8 := Aside0.mk (show W8.heap[w1.heap.size + 1]? = some (.cells #[.slice A (accR l0 m s pre).length c] 37 (0, 0)) from by rw [hW8]; exact blk_far BO7.out (p := ⟨w1.heap.size, 3, none⟩) (by show w1.heap.size + 1 ≠ w1.heap.size; omega) _)
    have BS8 := Aside0.mk (show W8.heap[w1.heap.size + 2]? = some (.cells #[.slice (some ad) l0.length c0] 22 (0, 0)) from by rw [hW8]; exact blk_far BS7.out (p := ⟨w1.heap.size, 3, none⟩) (by show w1.heap.size + 2 ≠ w1.heap.size; omega) _)
    have BN8 := Aside0.mk (show W8.heap[w1.heap.size + 3]? = some (.cells #[.int .i64 (m : Int)] 3 (0, 0)) from by rw [hW8]; exact blk_far BN7.out (p := ⟨w1.heap.size, 3, none⟩) (by show w1.heap.size + 3 ≠ w1.heap.size; omega) _)
    have HB8 := Aside0.mk (show Below w.heap.size w W8 from by rw [hW8]; exact (below_step HB1.out hb7).setCell (p := ⟨w1.heap.size, 3, none⟩) (by show w.heap.size ≤ w1.heap.size; exact hsb) _)
    have HK8 := Aside0.mk (show KeepsOthers W W8 from by rw [hW8]; exact (keeps_belowC hb7).trans (KeepsOthers.setCell _ _ _))
    have HO8 := Aside0.mk hO8
    have HM8 := Aside0.mk hM8
    have hS8 : w.heap.size ≤ W8.heap.size := by omega
    have hF8 : ∀ k, W8.heap.size ≤ k → k ≠ w1.heap.size := fun k hk => by omega
    have hA8 : ∀ k, some k = (Value.slice A7 p.length d7).ownBlock → k ≠ w1.heap.size ∧ some k ≠ (Value.slice A (accR l0 m s pre).length c).ownBlock := fun k hk => ⟨by have := hapart k hk; omega, fun e_ => by have := hapart k hk; have := hmem k e_.symm; omega⟩
    clear ho7 hb7 hO8 hM8 hapart hmem hW8
    gi_wp2_with (first | (refine list_round 38 rfl rfl rfl ?_; rw [← show W8 = w7.setCell ⟨w1.heap.size, 3, none⟩ (.slice A7 p.length d7) from HW8.out]; refine Kd.S_append_step (W := W8) k41 (w0 := w) w.heap.size (by rfl) (.tmp 35) (.tmp 37) 37 41 (.agg #[(.int .i64 0), (.int .u32 0), (.int .i64 0), (.slice none 0 0)]) 48 rfl Try.underlying37 infoC rfl (by show 0 < 4; decide) (by omega) (.slice A (accR l0 m s pre).length c) (accR l0 m s pre) (⟨(l0.length : Int), s, (off : Int), p⟩ : S41) [.int .i64 (l0.length : Int), .int .u32 s, .int .i64 (off : Int), .slice A7 p.length d7] (fun k => k ≠ w1.heap.size) (fun k => some k = (Value.slice A7 p.length d7).ownBlock) (by rfl) (by rw [hs8]; rfl) HM8.out hA8 hF8 HO8.out HB8.out hS8 (by omega) ?_; intro v9 w9 hs9 hb9 hg9 _; obtain ⟨A9, c9, e9⟩ := Kd.S_slice hs9; subst e9; have HS9 := Aside0.mk hs9; have HB9 := Aside0.mk hb9; have HG9 := Aside0.mk hg9; clear hs9 hb9 hg9 hz0 hz1 hz2 hz3 hz4 hf3 hf2 hf0; have BC9 := Aside0.mk (blk_grown BC8.out HG9.out (Kd.S_away HO8.out (fun k hk => hk.1))); have BO9 := Aside0.mk (blk_grown BO8.out HG9.out (Kd.S_ne HO8.out BO8.out (by decide))); have BS9 := Aside0.mk (blk_grown BS8.out HG9.out (Kd.S_ne HO8.out BS8.out (by decide))); have BN9 := Aside0.mk (blk_grown BN8.out HG9.out (Kd.S_ne HO8.out BN8.out (by decide))); have hz2 := (blk_cell BC9.out 2).trans rfl; have hz4 := (blk_cell BO9.out 0).trans rfl; have hf2 := blk_frozen BC9.out 2; have hf0 := blk_frozen BO9.out 0))
    have hrow : accR l0 m s (pre ++ [x]) = accR l0 m s pre ++ [(⟨(l0.length : Int), s, (off : Int), p⟩ : S41)] := by rw [accR_snoc, HP.out, HOFF.out]
    have hoffs : ((offs m l0.length (pre ++ [x]) : Nat) : Int) = (off : Int) + (p.length : Int) := by rw [offs_snoc, ← HOFF.out, ← plen_len, ← HP.out]; omega
    have hl9 : (accR l0 m s pre ++ [(⟨(l0.length : Int), s, (off : Int), p⟩ : S41)]).length = (accR l0 m s pre).length + 1 := by simp
    have hS9 := HS9.out
    rw [hl9] at hS9
    have hle9 : w7.heap.size ≤ w9.heap.size := by have := HG9.out.size; omega
    have n1 : w1.heap.size + 2 ≠ w1.heap.size + 1 := by omega
    have n2 : w1.heap.size + 2 ≠ w1.heap.size := by omega
    have n3 : w1.heap.size + 3 ≠ w1.heap.size + 1 := by omega
    have n4 : w1.heap.size + 3 ≠ w1.heap.size := by omega
    have n5 : w1.heap.size + 1 ≠ w1.heap.size := by omega
    have BSe := blk_far (blk_far BS9.out (p := ⟨w1.heap.size + 1, 0, none⟩) n1 (.slice A9 ((accR l0 m s pre).length + 1) c9)) (p := ⟨w1.heap.size, 2, none⟩) n2 (.int .i64 ((off : Int) + (p.length : Int)))
    have BNe := blk_far (blk_far BN9.out (p := ⟨w1.heap.size + 1, 0, none⟩) n3 (.slice A9 ((accR l0 m s pre).length + 1) c9)) (p := ⟨w1.heap.size, 2, none⟩) n4 (.int .i64 ((off : Int) + (p.length : Int)))
    have BOe := blk_far (blk_put BO9.out 0 (.slice A9 ((accR l0 m s pre).length + 1) c9) rfl) (p := ⟨w1.heap.size, 2, none⟩) n5 (.int .i64 ((off : Int) + (p.length : Int)))
    have BCe := blk_put (blk_far BC9.out (p := ⟨w1.heap.size + 1, 0, none⟩) n5.symm (.slice A9 ((accR l0 m s pre).length + 1) c9)) 2 (.int .i64 ((off : Int) + (p.length : Int))) rfl
    refine ⟨((HK8.out.trans (KeepsOthers.of_grownBy HG9.out (fun j o hj hoj => by obtain ⟨cs, hc⟩ := Kd.S_typed HO8.out j hj; rw [hc] at hoj; cases hoj; rfl))).trans ((KeepsOthers.setCell _ _ _).trans (KeepsOthers.setCell _ _ _))).from _, ⟨by simp only [World.size_setCell]; omega, fun _ => BSe.trans BS.out.symm, fun _ => BNe.trans BN.out.symm⟩, ⟨_, BOe, ?_⟩, ⟨.slice A7 p.length d7, ?_⟩, BSe, BNe, (HB9.out.setCell (p := ⟨w1.heap.size + 1, 0, none⟩) (by show w.heap.size ≤ w1.heap.size + 1; omega) _).setCell (p := ⟨w1.heap.size, 2, none⟩) hsb _⟩
    · rw [hrow]
      exact Kd.S_far (p := ⟨w1.heap.size, 2, none⟩) (Kd.S_set hS9 BO9.out (by decide) 0 _) (fun k hk => hk) _
    · rw [hoffs]
      exact BCe
  case done =>
    rintro D ys W hD rfl ⟨⟨v, hv, ho⟩, _, _, _, hB⟩ hK
    obtain ⟨A, c, ev⟩ := Kd.S_slice ho
    subst ev
    have hro : ∀ r, some D = some r → ∃ o : Obj, W.heap[r]? = some o ∧ o.isCells = false := fun r e => by cases e; exact ⟨_, hK, rfl⟩
    have c1 := (blk_cell hv 0).trans rfl
    have HK := Aside0.mk hK
    have HO := Aside0.mk ho
    have HB1 := Aside0.mk hB
    clear hK ho hB
    gi_wp2
    refine ⟨by simp, .inl ⟨_, _, rfl, run_takeDeferred HK.out, ?_⟩⟩
    exact ⟨.tuple #[.slice A (accR l0 m s (us m (cnt l0.length m))).length c, .int .i64 0], by simp [results, Try.f16, go_sem], _, rfl, Kd.S_mono (S_ownC HO.out (grownBy_putObj' _ D (.deferred none)) hro) (fun _ _ => trivial), HB1.out.trans (belowK_b (w := w) (Nat.le_refl _) _ D _ _ (by omega) HK.out rfl rfl)⟩
  case stop =>
    rintro D c pre W hD _ h _
    exact h.elim
end Go.Proofs.Ytabkdakikfhgmaa.Q
