/- super.Encode: a block's sector; no condition. -/
import Derived.ArgAppend
import Derived.Lib.SmallJoins
import Derived.Test.YtiiphlfgdkjjiaaZDisksSChk
import Derived.Test.YtiiphlfgdkjjiaaZDisksSPut
import Derived.Test.YtiiphlfgdkjjiaaZDisksWTab
namespace Go.Proofs.Ytiiphlfgdkjjiaa.Q
open Go.RowKit Go.Proofs.YtiiphlfgdkjjiaaW.PrintWords Go.Proofs.YtiiphlfgdkjjiaaW.PrintLast Go.Proofs.YtiiphlfgdkjjiaaW.PrintMore
open Go.Proofs.Ytiiphlfgdkjjiaa.CrcP
set_option linter.unusedVariables false
set_option linter.unusedSimpArgs false

section
variable {P : Program} {ops : Array Oper} {rest : List Oper} {o : Oper} {a : Act} {Q : Exit → Act → World → Prop}
/-- append(s, x...), s full: it moves. -/
theorem R_append_full {w0 W : World} (base : Nat) (hgd : o.guard = none) (s x : Operand) (t e : TypeId) (bytes : Nat)
    (ho : o.op = .call { callee := .builtin .append, args := #[s, x], argTypes := #[t, t] })
    (ht : P.underlying t = some (.slice e)) (hinfo : (P.info? e).map (fun i => (i.zero, i.size, i.bytes)) = some (some (.int .u8 0), 1, bytes)) (hb0 : 0 < bytes)
    (b : Addr) (xs ys : List Int) (nx ny : Nat) (hnx : xs.length = nx) (hny : ys.length = ny) (A : Option Addr) (c cs : Nat) (hs : a.eval s = .slice (some b) nx cs) (hcs : cs < xs.length + ys.length) (hx : a.eval x = .slice A ny c) (hp : 0 < xs.length) (hy : 0 < ys.length)
    (HX : (Kd.int .u8).C W (some b) xs.length xs) (HY : (Kd.int .u8).C W A ys.length ys) (HB : Below base w0 W) (hbase : base ≤ W.heap.size) (hl : (xs.length + ys.length) * bytes ≤ 140737488355328)
    (h : ∀ v1 w1, (Kd.int .u8).R e w1 base (fun _ => True) v1 (xs ++ ys) → Below base w0 w1 → W.grownBy w1 none → wpList P ops Q rest (a.put o.dst v1) w1) :
    wpList P ops Q (o :: rest) a W := by
  subst hnx hny
  obtain ⟨i0, hi, hzz⟩ := Option.map_eq_some_iff.1 hinfo
  simp only [Prod.mk.injEq] at hzz
  obtain ⟨hz0, hz1, hz2⟩ := hzz
  have hX := Kd.reads_of_C (enc := Value.int .u8) (d := (0 : Int)) (h1 := fun _ => rfl) HX
  have hY := Kd.reads_of_C (enc := Value.int .u8) (d := (0 : Int)) (h1 := fun _ => rfl) HY
  obtain ⟨b', e1, hcx⟩ := hX.2.2 hp
  injection e1 with e1
  subst e1
  obtain ⟨ad, rfl, hcy⟩ := hY.2.2 hy
  have cells : ∀ (zs : List Int) (q : Addr), (∀ j, j < zs.length → W.cell? (q.add j) = some (.int .u8 (zs.getD j 0))) → ∀ j u, (zs.map (Value.int .u8))[j]? = some u → W.cell? (q.add j) = some u := by
    intro zs q hc j u hj
    rw [List.getElem?_map] at hj
    obtain ⟨z, hz, rfl⟩ := Option.map_eq_some_iff.1 hj
    obtain ⟨hlt, hzv⟩ := List.getElem?_eq_some_iff.1 hz
    rw [hc j hlt, List.getD_eq_getElem?_getD, hz]
    rfl
  have hlen : xs.length + ys.length ≤ 140737488355328 := Nat.le_trans (Nat.le_mul_of_pos_right _ hb0) hl
  refine wpList_append_grows W hgd s x t ho e i0 (.int .u8 0) 1 bytes ht hi hz0 hz1 hz2 rfl (by decide) (some b) xs.length cs (xs.map (Value.int .u8)) hs (by simp) (by simp) (fun b_ hb_ j u hj => by injection hb_ with hb_; subst hb_; exact cells xs _ hcx j u hj) ad ys.length c (ys.map (Value.int .u8)) hx (by simp) (cells ys _ hcy) (fun u hu => by obtain ⟨z, _, rfl⟩ := List.mem_map.1 hu; rfl) hcs (by simp only [maxLen]; omega) hl ?_
  intro v' w' hown hg
  have hown2 : w'.ownsRow base e 1 v' (xs ++ ys).length (encs (Value.int .u8) (xs ++ ys)) := by
    rw [List.length_append]
    have := own_weaken hown hbase
    rw [← List.map_append] at this
    exact this
  exact h v' w' (Kd.R_of_own hown2 (fun _ _ => trivial)) (HB.grown hg hbase (fun k e_ => by cases e_)) hg
end

def markL : List Int := [116, 115, 98, 49]
theorem beOf_length (n m : Nat) : (beOf n m).length = m := by unfold beOf; rw [List.length_map, up_length]
theorem beOf_octs (n m : Nat) : octs (beOf n m) = true := by
  unfold octs beOf
  rw [List.all_eq_true]
  intro x hx
  obtain ⟨s, _, rfl⟩ := List.mem_map.1 hx
  unfold octAt
  exact decide_eq_true (by omega)
theorem octs_app {a b : List Int} (ha : octs a = true) (hb : octs b = true) : octs (a ++ b) = true := by
  unfold octs at *
  rw [List.all_append, ha, hb]; rfl
/-- The head of a block's sector: the mark, and the first k numbers. -/
def encTo (a0 a1 a2 a3 a4 : Nat) (k : Nat) : List Int := markL ++ ([a0, a1, a2, a3, a4].take k).flatMap (fun n => beOf n 8)
variable {a0 a1 a2 a3 a4 : Nat}
theorem flat_length : ∀ (l : List Nat), (l.flatMap (fun n => beOf n 8)).length = 8 * l.length
  | [] => rfl
  | x :: l => by rw [List.flatMap_cons, List.length_append, beOf_length, flat_length l, List.length_cons]; omega
theorem flat_octs : ∀ (l : List Nat), octs (l.flatMap (fun n => beOf n 8)) = true
  | [] => rfl
  | x :: l => by rw [List.flatMap_cons]; exact octs_app (beOf_octs _ _) (flat_octs l)
theorem encTo_length {k : Nat} (hk : k ≤ 5) : (encTo a0 a1 a2 a3 a4 k).length = 4 + 8 * k := by
  unfold encTo
  rw [List.length_append, flat_length, List.length_take]
  show 4 + 8 * min k 5 = _
  omega
theorem encTo_octs (k : Nat) : octs (encTo a0 a1 a2 a3 a4 k) = true := octs_app (by decide) (flat_octs _)
theorem encTo_succ {k : Nat} (hk : k < 5) : encTo a0 a1 a2 a3 a4 (k + 1) = encTo a0 a1 a2 a3 a4 k ++ beOf ([a0, a1, a2, a3, a4].getD k 0) 8 := by
  have hl : k < [a0, a1, a2, a3, a4].length := hk
  unfold encTo
  rw [List.take_succ_eq_append_getElem hl, List.flatMap_append, List.append_assoc, List.getD_eq_getElem?_getD, List.getElem?_eq_getElem hl]
  simp
/-- A block's sector. -/
def sect (a0 a1 a2 a3 a4 : Nat) : List Int := encTo a0 a1 a2 a3 a4 5 ++ beOf (csum (nats (encTo a0 a1 a2 a3 a4 5))) 4 ++ List.replicate 16 0
theorem sect_length : (sect a0 a1 a2 a3 a4).length = 64 := by
  unfold sect
  rw [List.length_append, List.length_append, encTo_length (Nat.le_refl _), beOf_length, List.length_replicate]
def super_Encode.f (a0 a1 a2 a3 a4 : Int) : Option (List Int × Int) := some (if blkOk a0 a1 a2 a3 a4 = true then (sect a0.toNat a1.toNat a2.toNat a3.toNat a4.toNat, 0) else ([], 4))

set_option maxHeartbeats 8000000 in
set_option maxRecDepth 100000 in
theorem super_Encode.calls (a0 a1 a2 a3 a4 : Int) (r1 : List Int) (r2 : Int) (w : World) (h : super_Encode.f a0 a1 a2 a3 a4 = some (r1, r2)) :
    Calls Try.prog 34 #[.agg #[.int .i64 a0, .int .i64 a1, .int .i64 a2, .int .i64 a3, .int .i64 a4]] w fun e w' => ∃ v0_ : Value, e = .returned (.tuple #[v0_, .int .i64 r2]) ∧ Kd.R (Kd.int .u8) 5 w' w.heap.size (fun _ => True) v0_ r1 ∧ Below w.heap.size w w' := by
  have hu := Try.underlying33
  have hua := Try.underlying103
  have H := Aside0.mk (Option.some.inj h)
  clear h
  go_enter Try.func34, Try.ntmps34
  go_wp2_with fail
  refine (super_Check.calls a0 a1 a2 a3 a4 _ _ rfl).mono ?_
  rintro e w1 ⟨rfl, hb⟩
  have BK := Aside0.mk (blk_below (blk_new w (.cells #[.int .i64 a0, .int .i64 a1, .int .i64 a2, .int .i64 a3, .int .i64 a4] 33)) hb)
  have HB := Aside0.mk (below_step (below_alloc (Below.refl w.heap.size w) (.cells #[.int .i64 a0, .int .i64 a1, .int .i64 a2, .int .i64 a3, .int .i64 a4] 33)) hb)
  clear hb
  by_cases hok : blkOk a0 a1 a2 a3 a4 = true
  · have h := H.out
    rw [if_pos hok] at h ⊢
    obtain ⟨rfl, rfl⟩ : _ = r1 ∧ 0 = r2 := by simpa using h
    obtain ⟨⟨p0, q0⟩, ⟨p1, q1⟩, ⟨p2, q2⟩, ⟨p3, q3⟩, ⟨p4, q4⟩⟩ := blkOk_out hok
    obtain ⟨a0, rfl⟩ := Int.eq_ofNat_of_zero_le p0
    obtain ⟨a1, rfl⟩ := Int.eq_ofNat_of_zero_le p1
    obtain ⟨a2, rfl⟩ := Int.eq_ofNat_of_zero_le p2
    obtain ⟨a3, rfl⟩ := Int.eq_ofNat_of_zero_le p3
    obtain ⟨a4, rfl⟩ := Int.eq_ofNat_of_zero_le p4
    clear h H hok p0 p1 p2 p3 p4
    have kc := Go.Joins.run_convert_bytes_const_at (P := Try.prog) w1 50 5 #[.int .u8 116, .int .u8 115, .int .u8 98, .int .u8 49] 4 4 w1.heap.size rfl Try.underlying50 Try.underlying5
    go_wp2_with fail
    obtain ⟨gm, hgm⟩ : ∃ gm, gm = w1.heap.size := ⟨_, rfl⟩
    obtain ⟨W1, hW1⟩ : ∃ W1, W1 = w1.alloc (.cells #[.int .u8 116, .int .u8 115, .int .u8 98, .int .u8 49] 5 (4, 5)) := ⟨_, rfl⟩
    have hb1 : Below w1.heap.size w1 W1 := by rw [hW1]; exact below_alloc (Below.refl _ _) _
    have HM1 := Aside0.mk (show Kd.C (Kd.int .u8) W1 (some ⟨gm, 0, none⟩) 4 markL from by rw [hW1, hgm]; exact C_of_block (w := w1.alloc (.cells #[.int .u8 116, .int .u8 115, .int .u8 98, .int .u8 49] 5 (4, 5))) (g := w1.heap.size) markL (by decide) (blk_new _ _))
    have BK1 := Aside0.mk (blk_below BK.out hb1)
    have HB1 := Aside0.mk (below_step HB.out hb1)
    rw [← hW1, ← hgm]
    clear hW1 hgm hb1 kc BK HB
    refine (fields_any _ _).mono ?_
    rintro e w2 ⟨rfl, hb⟩
    have BK2 := Aside0.mk (blk_below BK1.out hb)
    have HM2 := Aside0.mk (Kd.C_below HM1.out hb)
    have HB2 := Aside0.mk (below_step HB1.out hb)
    clear hb BK1 HM1 HB1
    unfold ptrs
    go_wp2_with fail
    go_loopw [5, 20] (fun out i wr => ∃ k : Nat, k ≤ 5 ∧ i = .int .i64 k ∧ ∃ (A : Option Addr) (c : Nat), out = .slice A (4 + 8 * k) c ∧ Hid (Kd.C (Kd.int .u8) wr A (4 + 8 * k) (encTo a0 a1 a2 a3 a4 k)) ∧ Hid (k = 0 → A = some ⟨gm, 0, none⟩ ∧ c = 4) ∧ Hid (0 < k → (Kd.int .u8).R 5 wr w.heap.size (fun _ => True) (.slice A (4 + 8 * k) c) (encTo a0 a1 a2 a3 a4 k)) ∧ Hid (wr.heap[w.heap.size]? = some (.cells #[.int .i64 a0, .int .i64 a1, .int .i64 a2, .int .i64 a3, .int .i64 a4] 33 (0, 0))) ∧ Hid (Below w.heap.size w wr)) (fun _ i _ => 5 - (intOf i).toNat)
    case atStart => exact ⟨0, by omega, rfl, _, _, rfl, HM2.out, fun _ => ⟨rfl, rfl⟩, fun h_ => absurd h_ (by omega), BK2.out, HB2.out⟩
    case round =>
      clear HM2 BK2 HB2
      obtain ⟨k, hk, rfl, A, c, rfl, HC, HA, HR, BK, HB⟩ := hrel
      have c0 : wr.cell? ⟨w.heap.size, 0, none⟩ = some (.int .i64 a0) := (blk_cell BK 0).trans rfl
      have c1 : wr.cell? ⟨w.heap.size, 1, none⟩ = some (.int .i64 a1) := (blk_cell BK 1).trans rfl
      have c2 : wr.cell? ⟨w.heap.size, 2, none⟩ = some (.int .i64 a2) := (blk_cell BK 2).trans rfl
      have c3 : wr.cell? ⟨w.heap.size, 3, none⟩ = some (.int .i64 a3) := (blk_cell BK 3).trans rfl
      have c4 : wr.cell? ⟨w.heap.size, 4, none⟩ = some (.int .i64 a4) := (blk_cell BK 4).trans rfl
      by_cases hlt : k < 5
      · rcases (by omega : k = 0 ∨ k = 1 ∨ k = 2 ∨ k = 3 ∨ k = 4) with rfl | rfl | rfl | rfl | rfl
        · have hix : ∀ W : World, (Instr.index 103 (.agg #[.pointer (some ⟨w.heap.size, 0, none⟩), .pointer (some ⟨w.heap.size, 1, none⟩), .pointer (some ⟨w.heap.size, 2, none⟩), .pointer (some ⟨w.heap.size, 3, none⟩), .pointer (some ⟨w.heap.size, 4, none⟩)]) (.int .i64 0)).run Try.prog W = .ok (.pointer (some ⟨w.heap.size, 0, none⟩)) W := ptrs_at w.heap.size 0 (by omega)
          obtain ⟨rfl, rfl⟩ := (show 0 = 0 → A = some ⟨gm, 0, none⟩ ∧ c = 4 from HA) rfl
          clear HA
          go_wp2_with fail
          refine (put_any a0 8 (by omega) (by omega) (by show a0 < 18446744073709551616; omega) _).mono ?_
          rintro e w3 ⟨v3, rfl, ho3, hb3⟩
          obtain ⟨A3, c3', e3⟩ := Kd.R_slice ho3
          rw [beOf_length] at e3
          subst e3
          have HP := Aside0.mk (Kd.R_reads' ho3).2.2
          have BK3 := Aside0.mk (blk_below BK hb3)
          have HB3 := Aside0.mk (below_step HB hb3)
          have HC3 := Aside0.mk (Kd.C_below HC hb3)
          clear ho3 hb3 c0 c1 c2 c3 c4 HC HR
          go_wp2_with (first
            | ((with_reducible refine gate_dst (N := 33) rfl ?_); refine R_append_full (w0 := w) w.heap.size rfl (.tmp 31) (.tmp 32) 50 5 1 rfl Try.underlying50 info5 (by decide) ⟨gm, 0, none⟩ markL (beOf a0 8) 4 8 rfl (beOf_length _ _) A3 c3' 4 rfl (by rw [beOf_length]; decide) rfl (by decide) (by rw [beOf_length]; decide) HC3.out HP.out HB3.out HB3.out.size (by rw [beOf_length]; decide) ?_
               intro v4 w4 ho4 hb4 hg4
               have BK4 := Lib.hid (blk_grown BK3.out hg4 (fun e_ => by cases e_))
               have ho5 : (Kd.int .u8).R 5 w4 w.heap.size (fun _ => True) v4 (encTo a0 a1 a2 a3 a4 1) := by rw [show 1 = 0 + 1 from rfl, encTo_succ (by omega)]; exact ho4
               obtain ⟨A4, c4', e4⟩ := Kd.R_slice ho5
               rw [encTo_length (by omega)] at e4
               subst e4
               have HR4 := Lib.hid ho5
               have HB4 := Lib.hid hb4
               clear ho4 hb4 hg4 ho5))
          go_roundw
          case rel => exact ⟨1, by omega, rfl, A4, c4', rfl, Lib.hid (by have h_ := (Kd.R_reads' HR4).2.2; rw [encTo_length (by omega)] at h_; exact h_), fun h_ => absurd h_ (by omega), fun _ => HR4, BK4, HB4⟩
          case measure => simp [intOf]
        · have hix : ∀ W : World, (Instr.index 103 (.agg #[.pointer (some ⟨w.heap.size, 0, none⟩), .pointer (some ⟨w.heap.size, 1, none⟩), .pointer (some ⟨w.heap.size, 2, none⟩), .pointer (some ⟨w.heap.size, 3, none⟩), .pointer (some ⟨w.heap.size, 4, none⟩)]) (.int .i64 1)).run Try.prog W = .ok (.pointer (some ⟨w.heap.size, 1, none⟩)) W := ptrs_at w.heap.size 1 (by omega)
          clear HA
          go_wp2_with fail
          refine (put_any a1 8 (by omega) (by omega) (by show a1 < 18446744073709551616; omega) _).mono ?_
          rintro e w3 ⟨v3, rfl, ho3, hb3⟩
          obtain ⟨A3, c3', e3⟩ := Kd.R_slice ho3
          rw [beOf_length] at e3
          subst e3
          have HP := Aside0.mk (Kd.R_reads' ho3).2.2
          have BK3 := Aside0.mk (blk_below BK hb3)
          have HB3 := Aside0.mk (below_step HB hb3)
          have HR3 := Aside0.mk (Kd.R_below ((show 0 < 1 → (Kd.int .u8).R 5 wr w.heap.size (fun _ => True) (.slice A (4 + 8 * 1) c) (encTo a0 a1 a2 a3 a4 1) from HR) (by omega)) hb3)
          rw [beOf_length] at HP
          clear ho3 hb3 c0 c1 c2 c3 c4 HC HR
          go_wp2_with (first
            | ((with_reducible refine gate_dst (N := 33) rfl ?_); refine Kd.R_append_rows (Kd.int .u8) (w0 := w) w.heap.size rfl (.tmp 31) (.tmp 32) 50 5 (.int .u8 0) 1 rfl Try.underlying50 info5 rfl (by decide) (by decide) (.slice A 12 c) (encTo a0 a1 a2 a3 a4 1) (beOf a1 8) A3 8 c3' (fun _ => True) (fun _ => False) rfl rfl HR3.out HP.out (fun _ _ h_ => h_) (fun _ h_ => h_.elim) (fun _ _ => trivial) HB3.out HB3.out.size (by rw [encTo_length (by omega)]; decide) ?_
               intro v4 w4 ho4 hb4 hg4 _
               have BK4 := Lib.hid (blk_grown BK3.out hg4 (Kd.R_ne HR3.out BK3.out (by decide)))
               have ho5 : (Kd.int .u8).R 5 w4 w.heap.size (fun _ => True) v4 (encTo a0 a1 a2 a3 a4 2) := by rw [show 2 = 1 + 1 from rfl, encTo_succ (by omega)]; exact ho4
               obtain ⟨A4, c4', e4⟩ := Kd.R_slice ho5
               rw [encTo_length (by omega)] at e4
               subst e4
               have HR4 := Lib.hid ho5
               have HB4 := Lib.hid hb4
               clear ho4 hb4 hg4 ho5))
          go_roundw
          case rel => exact ⟨2, by omega, rfl, A4, c4', rfl, Lib.hid (by have h_ := (Kd.R_reads' HR4).2.2; rw [encTo_length (by omega)] at h_; exact h_), fun h_ => absurd h_ (by omega), fun _ => HR4, BK4, HB4⟩
          case measure => simp [intOf]
        · have hix : ∀ W : World, (Instr.index 103 (.agg #[.pointer (some ⟨w.heap.size, 0, none⟩), .pointer (some ⟨w.heap.size, 1, none⟩), .pointer (some ⟨w.heap.size, 2, none⟩), .pointer (some ⟨w.heap.size, 3, none⟩), .pointer (some ⟨w.heap.size, 4, none⟩)]) (.int .i64 2)).run Try.prog W = .ok (.pointer (some ⟨w.heap.size, 2, none⟩)) W := ptrs_at w.heap.size 2 (by omega)
          clear HA
          go_wp2_with fail
          refine (put_any a2 8 (by omega) (by omega) (by show a2 < 18446744073709551616; omega) _).mono ?_
          rintro e w3 ⟨v3, rfl, ho3, hb3⟩
          obtain ⟨A3, c3', e3⟩ := Kd.R_slice ho3
          rw [beOf_length] at e3
          subst e3
          have HP := Aside0.mk (Kd.R_reads' ho3).2.2
          have BK3 := Aside0.mk (blk_below BK hb3)
          have HB3 := Aside0.mk (below_step HB hb3)
          have HR3 := Aside0.mk (Kd.R_below ((show 0 < 2 → (Kd.int .u8).R 5 wr w.heap.size (fun _ => True) (.slice A (4 + 8 * 2) c) (encTo a0 a1 a2 a3 a4 2) from HR) (by omega)) hb3)
          rw [beOf_length] at HP
          clear ho3 hb3 c0 c1 c2 c3 c4 HC HR
          go_wp2_with (first
            | ((with_reducible refine gate_dst (N := 33) rfl ?_); refine Kd.R_append_rows (Kd.int .u8) (w0 := w) w.heap.size rfl (.tmp 31) (.tmp 32) 50 5 (.int .u8 0) 1 rfl Try.underlying50 info5 rfl (by decide) (by decide) (.slice A 20 c) (encTo a0 a1 a2 a3 a4 2) (beOf a2 8) A3 8 c3' (fun _ => True) (fun _ => False) rfl rfl HR3.out HP.out (fun _ _ h_ => h_) (fun _ h_ => h_.elim) (fun _ _ => trivial) HB3.out HB3.out.size (by rw [encTo_length (by omega)]; decide) ?_
               intro v4 w4 ho4 hb4 hg4 _
               have BK4 := Lib.hid (blk_grown BK3.out hg4 (Kd.R_ne HR3.out BK3.out (by decide)))
               have ho5 : (Kd.int .u8).R 5 w4 w.heap.size (fun _ => True) v4 (encTo a0 a1 a2 a3 a4 3) := by rw [show 3 = 2 + 1 from rfl, encTo_succ (by omega)]; exact ho4
               obtain ⟨A4, c4', e4⟩ := Kd.R_slice ho5
               rw [encTo_length (by omega)] at e4
               subst e4
               have HR4 := Lib.hid ho5
               have HB4 := Lib.hid hb4
               clear ho4 hb4 hg4 ho5))
          go_roundw
          case rel => exact ⟨3, by omega, rfl, A4, c4', rfl, Lib.hid (by have h_ := (Kd.R_reads' HR4).2.2; rw [encTo_length (by omega)] at h_; exact h_), fun h_ => absurd h_ (by omega), fun _ => HR4, BK4, HB4⟩
          case measure => simp [intOf]
        · have hix : ∀ W : World, (Instr.index 103 (.agg #[.pointer (some ⟨w.heap.size, 0, none⟩), .pointer (some ⟨w.heap.size, 1, none⟩), .pointer (some ⟨w.heap.size, 2, none⟩), .pointer (some ⟨w.heap.size, 3, none⟩), .pointer (some ⟨w.heap.size, 4, none⟩)]) (.int .i64 3)).run Try.prog W = .ok (.pointer (some ⟨w.heap.size, 3, none⟩)) W := ptrs_at w.heap.size 3 (by omega)
          clear HA
          go_wp2_with fail
          refine (put_any a3 8 (by omega) (by omega) (by show a3 < 18446744073709551616; omega) _).mono ?_
          rintro e w3 ⟨v3, rfl, ho3, hb3⟩
          obtain ⟨A3, c3', e3⟩ := Kd.R_slice ho3
          rw [beOf_length] at e3
          subst e3
          have HP := Aside0.mk (Kd.R_reads' ho3).2.2
          have BK3 := Aside0.mk (blk_below BK hb3)
          have HB3 := Aside0.mk (below_step HB hb3)
          have HR3 := Aside0.mk (Kd.R_below ((show 0 < 3 → (Kd.int .u8).R 5 wr w.heap.size (fun _ => True) (.slice A (4 + 8 * 3) c) (encTo a0 a1 a2 a3 a4 3) from HR) (by omega)) hb3)
          rw [beOf_length] at HP
          clear ho3 hb3 c0 c1 c2 c3 c4 HC HR
          go_wp2_with (first
            | ((with_reducible refine gate_dst (N := 33) rfl ?_); refine Kd.R_append_rows (Kd.int .u8) (w0 := w) w.heap.size rfl (.tmp 31) (.tmp 32) 50 5 (.int .u8 0) 1 rfl Try.underlying50 info5 rfl (by decide) (by decide) (.slice A 28 c) (encTo a0 a1 a2 a3 a4 3) (beOf a3 8) A3 8 c3' (fun _ => True) (fun _ => False) rfl rfl HR3.out HP.out (fun _ _ h_ => h_) (fun _ h_ => h_.elim) (fun _ _ => trivial) HB3.out HB3.out.size (by rw [encTo_length (by omega)]; decide) ?_
               intro v4 w4 ho4 hb4 hg4 _
               have BK4 := Lib.hid (blk_grown BK3.out hg4 (Kd.R_ne HR3.out BK3.out (by decide)))
               have ho5 : (Kd.int .u8).R 5 w4 w.heap.size (fun _ => True) v4 (encTo a0 a1 a2 a3 a4 4) := by rw [show 4 = 3 + 1 from rfl, encTo_succ (by omega)]; exact ho4
               obtain ⟨A4, c4', e4⟩ := Kd.R_slice ho5
               rw [encTo_length (by omega)] at e4
               subst e4
               have HR4 := Lib.hid ho5
               have HB4 := Lib.hid hb4
               clear ho4 hb4 hg4 ho5))
          go_roundw
          case rel => exact ⟨4, by omega, rfl, A4, c4', rfl, Lib.hid (by have h_ := (Kd.R_reads' HR4).2.2; rw [encTo_length (by omega)] at h_; exact h_), fun h_ => absurd h_ (by omega), fun _ => HR4, BK4, HB4⟩
          case measure => simp [intOf]
        · have hix : ∀ W : World, (Instr.index 103 (.agg #[.pointer (some ⟨w.heap.size, 0, none⟩), .pointer (some ⟨w.heap.size, 1, none⟩), .pointer (some ⟨w.heap.size, 2, none⟩), .pointer (some ⟨w.heap.size, 3, none⟩), .pointer (some ⟨w.heap.size, 4, none⟩)]) (.int .i64 4)).run Try.prog W = .ok (.pointer (some ⟨w.heap.size, 4, none⟩)) W := ptrs_at w.heap.size 4 (by omega)
          clear HA
          go_wp2_with fail
          refine (put_any a4 8 (by omega) (by omega) (by show a4 < 18446744073709551616; omega) _).mono ?_
          rintro e w3 ⟨v3, rfl, ho3, hb3⟩
          obtain ⟨A3, c3', e3⟩ := Kd.R_slice ho3
          rw [beOf_length] at e3
          subst e3
          have HP := Aside0.mk (Kd.R_reads' ho3).2.2
          have BK3 := Aside0.mk (blk_below BK hb3)
          have HB3 := Aside0.mk (below_step HB hb3)
          have HR3 := Aside0.mk (Kd.R_below ((show 0 < 4 → (Kd.int .u8).R 5 wr w.heap.size (fun _ => True) (.slice A (4 + 8 * 4) c) (encTo a0 a1 a2 a3 a4 4) from HR) (by omega)) hb3)
          rw [beOf_length] at HP
          clear ho3 hb3 c0 c1 c2 c3 c4 HC HR
          go_wp2_with (first
            | ((with_reducible refine gate_dst (N := 33) rfl ?_); refine Kd.R_append_rows (Kd.int .u8) (w0 := w) w.heap.size rfl (.tmp 31) (.tmp 32) 50 5 (.int .u8 0) 1 rfl Try.underlying50 info5 rfl (by decide) (by decide) (.slice A 36 c) (encTo a0 a1 a2 a3 a4 4) (beOf a4 8) A3 8 c3' (fun _ => True) (fun _ => False) rfl rfl HR3.out HP.out (fun _ _ h_ => h_) (fun _ h_ => h_.elim) (fun _ _ => trivial) HB3.out HB3.out.size (by rw [encTo_length (by omega)]; decide) ?_
               intro v4 w4 ho4 hb4 hg4 _
               have BK4 := Lib.hid (blk_grown BK3.out hg4 (Kd.R_ne HR3.out BK3.out (by decide)))
               have ho5 : (Kd.int .u8).R 5 w4 w.heap.size (fun _ => True) v4 (encTo a0 a1 a2 a3 a4 5) := by rw [show 5 = 4 + 1 from rfl, encTo_succ (by omega)]; exact ho4
               obtain ⟨A4, c4', e4⟩ := Kd.R_slice ho5
               rw [encTo_length (by omega)] at e4
               subst e4
               have HR4 := Lib.hid ho5
               have HB4 := Lib.hid hb4
               clear ho4 hb4 hg4 ho5))
          go_roundw
          case rel => exact ⟨5, by omega, rfl, A4, c4', rfl, Lib.hid (by have h_ := (Kd.R_reads' HR4).2.2; rw [encTo_length (by omega)] at h_; exact h_), fun h_ => absurd h_ (by omega), fun _ => HR4, BK4, HB4⟩
          case measure => simp [intOf]
      · obtain rfl : k = 5 := by omega
        have hr := (show 0 < 5 → (Kd.int .u8).R 5 wr w.heap.size (fun _ => True) (.slice A 44 c) (encTo a0 a1 a2 a3 a4 5) from HR) (by omega)
        have HR1 := Aside0.mk hr
        have hsm := sum_any A c (encTo a0 a1 a2 a3 a4 5) wr (Kd.R_reads' hr).2.2 (encTo_octs 5)
        rw [encTo_length (Nat.le_refl _)] at hsm
        have HSM := Aside0.mk hsm
        obtain ⟨s, hs⟩ : ∃ s, s = csum (nats (encTo a0 a1 a2 a3 a4 5)) := ⟨_, rfl⟩
        have hs32 : s < 4294967296 := by rw [hs]; exact cext_lt (by decide) (octs_lt (encTo_octs 5))
        have HS := Aside0.mk hs
        have HB1 := Aside0.mk HB
        clear HC HA HR hr hsm hs c0 c1 c2 c3 c4 BK HB
        rw [show 4 + 8 * 5 = 44 from rfl] at *
        go_wp2_with fail
        refine HSM.out.mono ?_
        rintro e w3 ⟨rfl, hb3⟩
        rw [← HS.out]
        have HR2 := Aside0.mk (Kd.R_below HR1.out hb3)
        have HB2 := Aside0.mk (below_step HB1.out hb3)
        clear hb3 HSM
        go_wp2_with fail
        refine (put_any s 4 (by omega) (by omega) (by show s < 4294967296; omega) _).mono ?_
        rintro e w4 ⟨v4, rfl, ho4, hb4⟩
        obtain ⟨A4, c4', e4⟩ := Kd.R_slice ho4
        rw [beOf_length] at e4
        subst e4
        have hp := (Kd.R_reads' ho4).2.2
        rw [beOf_length] at hp
        have HP := Aside0.mk hp
        have HR3 := Aside0.mk (Kd.R_below HR2.out hb4)
        have HB3 := Aside0.mk (below_step HB2.out hb4)
        clear ho4 hb4 hp
        go_wp2_with (first
          | ((with_reducible refine gate_dst (N := 44) rfl ?_); refine Kd.R_append_rows (Kd.int .u8) (w0 := w) w.heap.size rfl (.tmp 42) (.tmp 43) 50 5 (.int .u8 0) 1 rfl Try.underlying50 info5 rfl (by decide) (by decide) (.slice A 44 c) (encTo a0 a1 a2 a3 a4 5) (beOf s 4) A4 4 c4' (fun _ => True) (fun _ => False) rfl rfl HR3.out HP.out (fun _ _ h_ => h_) (fun _ h_ => h_.elim) (fun _ _ => trivial) HB3.out HB3.out.size (by rw [encTo_length (by omega)]; decide) ?_
             intro v5 w5 ho5 hb5 hg5 _
             obtain ⟨A5, c5', e5⟩ := Kd.R_slice ho5
             have hl5 : (encTo a0 a1 a2 a3 a4 5 ++ beOf s 4).length = 48 := by rw [List.length_append, encTo_length (by omega), beOf_length]
             rw [hl5] at e5
             subst e5
             have HR5 := Aside0.mk ho5
             have HB5 := Aside0.mk hb5
             have HL5 := Aside0.mk hl5
             clear ho5 hb5 hg5 hl5)
          | ((with_reducible refine gate_dst (N := 49) rfl ?_); refine Kd.R_append_zeros (Kd.int .u8) (w0 := w) w.heap.size rfl (.tmp 45) (.tmp 48) 50 3 5 (.int .u8 0) 1 rfl Try.underlying50 Try.underlying3 info5 rfl (by decide) (by omega) (.slice A5 48 c5') (encTo a0 a1 a2 a3 a4 5 ++ beOf s 4) 0 16 (fun _ => True) rfl rfl rfl (fun _ _ => trivial) HR5.out (by omega) HB5.out HB5.out.size (by rw [HL5.out]; decide) ?_
             intro v6 w6 ho6 hb6 hg6 _
             have HR6 := Aside0.mk ho6
             have HB6 := Aside0.mk hb6
             clear ho6 hb6 hg6))
        go_ret2
        exact ⟨_, rfl, by have := HR6.out; rw [HS.out] at this; exact this, HB6.out⟩
  · have h := H.out
    rw [if_neg hok] at h ⊢
    obtain ⟨h1, h2⟩ := Prod.mk.inj h
    subst h1 h2
    clear h H hok
    go_wp2_with fail
    go_ret2
    exact ⟨_, rfl, Kd.R_nil _ _ _ _ _, HB.out⟩
end Go.Proofs.Ytiiphlfgdkjjiaa.Q
