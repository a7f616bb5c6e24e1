/- transeptref06.Encode: a block's sector by the page; no condition. -/
import Derived.Test.YtiiphlfgdkjjiaaZDisksSEnc
import Derived.Test.YtiiphlfgdkjjiaaZDisksSRef02
import Derived.Test.YtiiphlfgdkjjiaaZDisksQ38
import Derived.Test.YtiiphlfgdkjjiaaZDisksQ37
import Derived.Test.YtiiphlfgdkjjiaaZDisksQ15
namespace Go.Proofs.Ytiiphlfgdkjjiaa.Q
open Go.RowKit Go.Proofs.YtiiphlfgdkjjiaaW.PrintWords Go.Proofs.YtiiphlfgdkjjiaaW.PrintLast Go.Proofs.YtiiphlfgdkjjiaaW.PrintMore
open Go.Proofs.Ytiiphlfgdkjjiaa.CrcP
set_option linter.unusedVariables false
set_option linter.unusedSimpArgs false

theorem shr_octR (n s : Nat) (h : n < 18446744073709551616) : shr .u64 (n : Int) (s : Int) % 256 = octAt n s := by
  have := shr_oct n s h
  rw [IntKind.wrap_u8] at this
  unfold shr
  rw [Int.toNat_natCast]
  exact this
theorem octets_l0 {n size : Nat} (hn : n < 18446744073709551616) (h8 : size ≤ 8) : ∀ (m k i : Nat), i + m = size → m + 1 ≤ k → transeptref01_Octets.l0 k (n : Int) ((up size i).map (octAt n)) ((size : Int) - 1 - (i : Int)) = some (beOf n size) := by
  intro m
  induction m with
  | zero =>
    intro k i hi hk
    obtain ⟨k, rfl⟩ : ∃ j, k = j + 1 := ⟨k - 1, by omega⟩
    rw [transeptref01_Octets.l0, if_neg (by omega), show i = size by omega]
    rfl
  | succ m ih =>
    intro k i hi hk
    obtain ⟨k, rfl⟩ : ∃ j, k = j + 1 := ⟨k - 1, by omega⟩
    have hw : wrap64 (8 * ((size : Int) - 1 - (i : Int))) = ((8 * (size - 1 - i) : Nat) : Int) := by unfold wrap64; omega
    have hw2 : wrap64 ((size : Int) - 1 - (i : Int) - 1) = (size : Int) - 1 - ((i + 1 : Nat) : Int) := by unfold wrap64; omega
    rw [transeptref01_Octets.l0, if_pos (by omega), hw, if_pos (Int.natCast_nonneg _), if_pos (by rw [List.length_map, up_length]; omega), shr_octR n _ hn, hw2]
    have := ih k (i + 1) (by omega) (by omega)
    rw [up_succ, List.map_append] at this
    exact this
theorem octets_f {n size : Nat} (hn : n < 18446744073709551616) (h8 : size ≤ 8) : transeptref01_Octets.f 20 (n : Int) (size : Int) = some (beOf n size) := by
  have := octets_l0 hn h8 size 20 0 (by omega) (by omega)
  unfold transeptref01_Octets.f
  rw [show wrap64 ((size : Int) - 1) = (size : Int) - 1 - ((0 : Nat) : Int) from by unfold wrap64; omega]
  exact this
theorem refcheck_l0 {l : List Int} (h8 : l.length ≤ 8) : ∀ (m k i : Nat), i + m = l.length → m + 1 ≤ k → transeptref06_Check.l0 k l (i : Int) = some (if (l.drop i).all numOk = true then 0 else 4) := by
  intro m
  induction m with
  | zero =>
    intro k i hi hk
    obtain ⟨k, rfl⟩ : ∃ j, k = j + 1 := ⟨k - 1, by omega⟩
    rw [transeptref06_Check.l0, if_neg (by omega), List.drop_of_length_le (by omega)]
    rfl
  | succ m ih =>
    intro k i hi hk
    obtain ⟨k, rfl⟩ : ∃ j, k = j + 1 := ⟨k - 1, by omega⟩
    have hlt : i < l.length := by omega
    have hd : l.drop i = l[i] :: l.drop (i + 1) := List.drop_eq_getElem_cons hlt
    have hrd : rd l (i : Int) = l[i] := by rw [rd, Int.toNat_natCast, List.getD_eq_getElem?_getD, List.getElem?_eq_getElem hlt]; rfl
    have hw : wrap64 ((i : Int) + 1) = ((i + 1 : Nat) : Int) := by unfold wrap64; omega
    rw [transeptref06_Check.l0, if_pos (by omega), if_pos (Int.natCast_nonneg _), hrd, hw, hd, List.all_cons]
    have hn := ih k (i + 1) (by omega) (by omega)
    by_cases h0 : l[i] < 0
    · have hx : numOk l[i] = false := by unfold numOk; rw [decide_eq_false (by omega)]; rfl
      rw [if_pos h0, hx, Bool.false_and]; rfl
    · rw [if_neg h0]
      by_cases h1 : l[i] > 1099511627776
      · have hx : numOk l[i] = false := by unfold numOk; rw [decide_eq_false (show ¬ l[i] ≤ 1099511627776 by omega), Bool.and_false]
        rw [if_pos h1, hx, Bool.false_and]; rfl
      · have hx : numOk l[i] = true := by unfold numOk; rw [decide_eq_true (by omega), decide_eq_true (by omega)]; rfl
        rw [if_neg h1, hx, Bool.true_and]
        exact hn
theorem refcheck_f (a0 a1 a2 a3 a4 : Int) : transeptref06_Check.f 20 a0 a1 a2 a3 a4 = some (if blkOk a0 a1 a2 a3 a4 = true then 0 else 4) := by
  unfold transeptref06_Check.f
  rw [show transeptref06_numbers.f a0 a1 a2 a3 a4 = some [a0, a1, a2, a3, a4] from rfl, Option.bind_some]
  exact refcheck_l0 (l := [a0, a1, a2, a3, a4]) (show 5 ≤ 8 by omega) 5 20 0 rfl (by omega)
theorem refsum_f {l : List Int} (ho : octs l = true) : transeptref02_Sum.f l = some ((csum (nats l) : Nat) : Int) := by
  unfold transeptref02_Sum.f transeptref02_Extend.f
  rw [if_pos ⟨ho, by decide, by decide⟩]
  rfl
theorem five_rd {a0 a1 a2 a3 a4 : Nat} (k : Nat) (h : k < 5) : rd [(a0 : Int), a1, a2, a3, a4] (k : Int) = (([a0, a1, a2, a3, a4].getD k 0 : Nat) : Int) := by
  rcases (by omega : k = 0 ∨ k = 1 ∨ k = 2 ∨ k = 3 ∨ k = 4) with rfl | rfl | rfl | rfl | rfl <;> rfl
theorem five_le {a0 a1 a2 a3 a4 : Nat} (k : Nat) (h0 : (a0 : Int) ≤ 1099511627776) (h1 : (a1 : Int) ≤ 1099511627776) (h2 : (a2 : Int) ≤ 1099511627776) (h3 : (a3 : Int) ≤ 1099511627776) (h4 : (a4 : Int) ≤ 1099511627776) : (([a0, a1, a2, a3, a4].getD k 0 : Nat) : Int) ≤ 1099511627776 := by
  rcases (by omega : k = 0 ∨ k = 1 ∨ k = 2 ∨ k = 3 ∨ k = 4 ∨ 5 ≤ k) with rfl | rfl | rfl | rfl | rfl | h
  · exact h0
  · exact h1
  · exact h2
  · exact h3
  · exact h4
  · rw [List.getD_eq_getElem?_getD, List.getElem?_eq_none (show 5 ≤ k from h)]; decide
theorem rows_far {W : World} {b1 b2 : Nat} {v1 v2 : Value} {xs ys : List Int} (h1 : (Kd.int .u8).R 5 W b1 (fun _ => True) v1 xs) (h2 : (Kd.int .i64).R 3 W b2 (fun _ => True) v2 ys) : ∀ k, v1.ownBlock = some k → some k ≠ v2.ownBlock := by
  intro k hk he
  obtain ⟨cs, hc⟩ := Kd.R_typed h1 k hk
  obtain ⟨ds, hd⟩ := Kd.R_typed h2 k he.symm
  rw [hc] at hd
  injection hd with hd
  injection hd with _ h_ _
  exact absurd h_ (by decide)
def transeptref06_Encode.f (a0 a1 a2 a3 a4 : Int) : Option (List Int × Int) := super_Encode.f a0 a1 a2 a3 a4

set_option maxHeartbeats 8000000 in
set_option maxRecDepth 100000 in
theorem transeptref06_Encode.calls (a0 a1 a2 a3 a4 : Int) (r1 : List Int) (r2 : Int) (w : World) (h : transeptref06_Encode.f a0 a1 a2 a3 a4 = some (r1, r2)) :
    Calls Try.prog 41 #[.agg #[.int .i64 a0, .int .i64 a1, .int .i64 a2, .int .i64 a3, .int .i64 a4]] w fun e w' => ∃ v0_ : Value, e = .returned (.tuple #[v0_, .int .i64 r2]) ∧ Kd.R (Kd.int .u8) 5 w' w.heap.size (fun _ => True) v0_ r1 ∧ Below w.heap.size w w' := by
  have hu := Try.underlying23
  have H := Aside0.mk (Option.some.inj h)
  clear h
  go_enter Try.func41, Try.ntmps41
  go_wp2_with fail
  refine (transeptref06_Check.calls 20 a0 a1 a2 a3 a4 _ _ (refcheck_f a0 a1 a2 a3 a4)).mono ?_
  rintro e w1 ⟨rfl, hb⟩
  have BK := Aside0.mk (blk_below (blk_new w (.cells #[.int .i64 a0, .int .i64 a1, .int .i64 a2, .int .i64 a3, .int .i64 a4] 23)) hb)
  have HB := Aside0.mk (below_step (below_alloc (Below.refl w.heap.size w) (.cells #[.int .i64 a0, .int .i64 a1, .int .i64 a2, .int .i64 a3, .int .i64 a4] 23)) hb)
  clear hb
  by_cases hok : blkOk a0 a1 a2 a3 a4 = true
  · have h := H.out
    rw [if_pos hok] at h ⊢
    obtain ⟨rfl, rfl⟩ : _ = r1 ∧ 0 = r2 := by simpa using h
    obtain ⟨⟨p0, q0⟩, ⟨p1, q1⟩, ⟨p2, q2⟩, ⟨p3, q3⟩, ⟨p4, q4⟩⟩ := blkOk_out hok
    obtain ⟨a0, rfl⟩ := Int.eq_ofNat_of_zero_le p0
    obtain ⟨a1, rfl⟩ := Int.eq_ofNat_of_zero_le p1
    obtain ⟨a2, rfl⟩ := Int.eq_ofNat_of_zero_le p2
    obtain ⟨a3, rfl⟩ := Int.eq_ofNat_of_zero_le p3
    obtain ⟨a4, rfl⟩ := Int.eq_ofNat_of_zero_le p4
    clear h H hok p0 p1 p2 p3 p4
    have kc := Go.Joins.run_convert_bytes_const_at (P := Try.prog) w1 50 5 #[.int .u8 116, .int .u8 115, .int .u8 98, .int .u8 49] 4 4 w1.heap.size rfl Try.underlying50 Try.underlying5
    have BKA := Aside0.mk (blk_alloc BK.out (.cells #[.int .u8 116, .int .u8 115, .int .u8 98, .int .u8 49] 5 (4, 5)))
    have c0 := (blk_cell BKA.out 0).trans rfl
    have c1 := (blk_cell BKA.out 1).trans rfl
    have c2 := (blk_cell BKA.out 2).trans rfl
    have c3 := (blk_cell BKA.out 3).trans rfl
    have c4 := (blk_cell BKA.out 4).trans rfl
    go_wp2_with fail
    clear c0 c1 c2 c3 c4 kc
    obtain ⟨gm, hgm⟩ : ∃ gm, gm = w1.heap.size := ⟨_, rfl⟩
    obtain ⟨W1, hW1⟩ : ∃ W1, W1 = w1.alloc (.cells #[.int .u8 116, .int .u8 115, .int .u8 98, .int .u8 49] 5 (4, 5)) := ⟨_, rfl⟩
    have hb1 : Below w1.heap.size w1 W1 := by rw [hW1]; exact below_alloc (Below.refl _ _) _
    have HM1 := Aside0.mk (show Kd.C (Kd.int .u8) W1 (some ⟨gm, 0, none⟩) 4 markL from by rw [hW1, hgm]; exact C_of_block (w := w1.alloc (.cells #[.int .u8 116, .int .u8 115, .int .u8 98, .int .u8 49] 5 (4, 5))) (g := w1.heap.size) markL (by decide) (blk_new _ _))
    have HB1 := Aside0.mk (below_step HB.out hb1)
    rw [← hW1, ← hgm]
    clear hW1 hgm hb1 BK HB BKA
    refine (transeptref06_numbers.calls a0 a1 a2 a3 a4 _ _ rfl).mono ?_
    rintro e w2 ⟨v2, rfl, ho, hb⟩
    obtain ⟨A5, c5, e5⟩ := Kd.R_slice ho
    subst e5
    obtain ⟨bs, hbs⟩ : ∃ bs, bs = W1.heap.size := ⟨_, rfl⟩
    rw [← hbs] at ho
    have HN2 := Aside0.mk ho
    clear hbs
    have HM2 := Aside0.mk (Kd.C_below HM1.out hb)
    have HB2 := Aside0.mk (below_step HB1.out hb)
    rw [show ([(a0 : Int), a1, a2, a3, a4] : List Int).length = 5 from rfl] at HN2 ⊢
    clear hb ho HM1 HB1
    go_wp2_with fail
    go_loopw [4, 6] (fun out i wr => ∃ k : Nat, k ≤ 5 ∧ i = .int .i64 k ∧ ∃ (A : Option Addr) (c : Nat), out = .slice A (4 + 8 * k) c ∧ Hid (Kd.C (Kd.int .u8) wr A (4 + 8 * k) (encTo a0 a1 a2 a3 a4 k)) ∧ Hid (k = 0 → A = some ⟨gm, 0, none⟩ ∧ c = 4) ∧ Hid (0 < k → (Kd.int .u8).R 5 wr w.heap.size (fun _ => True) (.slice A (4 + 8 * k) c) (encTo a0 a1 a2 a3 a4 k)) ∧ Hid ((Kd.int .i64).R 3 wr bs (fun _ => True) (.slice A5 5 c5) [(a0 : Int), a1, a2, a3, a4]) ∧ Hid (Below w.heap.size w wr)) (fun _ i _ => 5 - (intOf i).toNat)
    case atStart => exact ⟨0, by omega, rfl, _, _, rfl, HM2.out, fun _ => ⟨rfl, rfl⟩, fun h_ => absurd h_ (by omega), HN2.out, HB2.out⟩
    case round =>
      clear HM2 HN2 HB2
      obtain ⟨k, hk, rfl, A, c, rfl, HC, HA, HR, HN, HB⟩ := hrel
      by_cases hlt : k < 5
      · have hlen5 : ([(a0 : Int), a1, a2, a3, a4] : List Int).length = 5 := rfl
        obtain ⟨x, hx⟩ : ∃ x : Nat, x = [a0, a1, a2, a3, a4].getD k 0 := ⟨_, rfl⟩
        have hxr : rd [(a0 : Int), a1, a2, a3, a4] (k : Int) = (x : Int) := by
          rw [hx]; exact five_rd k hlt
        have hx2 : (x : Int) ≤ 1099511627776 := by rw [hx]; exact five_le k q0 q1 q2 q3 q4
        obtain ⟨ad, e', hcx⟩ := Kd.at_int (Kd.R_reads' (show (Kd.int .i64).R 3 wr bs (fun _ => True) (.slice A5 5 c5) [(a0 : Int), a1, a2, a3, a4] from HN)).2.2 (k : Int) (Int.natCast_nonneg _) (by omega)
        subst e'
        rw [Int.toNat_natCast, hxr] at hcx
        have HX := Aside0.mk hx
        have HO := Aside0.mk (octets_f (n := x) (size := 8) (by omega) (by omega))
        clear hx hxr hlen5
        go_wp2_with fail
        refine (transeptref01_Octets.calls 20 (x : Int) 8 _ _ HO.out).mono ?_
        rintro e w3 ⟨v3, rfl, ho3, hb3⟩
        obtain ⟨A3, c3', e3⟩ := Kd.R_slice ho3
        rw [beOf_length] at e3
        subst e3
        have hp := (Kd.R_reads' ho3).2.2
        rw [beOf_length] at hp
        have HP := Aside0.mk hp
        have HB3 := Aside0.mk (below_step HB hb3)
        have HN3 := Aside0.mk (Kd.R_below HN hb3)
        have HC3 := Aside0.mk (Kd.C_below HC hb3)
        have HR3 := Aside0.mk (fun h_ : 0 < k => Kd.R_below ((show 0 < k → (Kd.int .u8).R 5 wr w.heap.size (fun _ => True) (.slice A (4 + 8 * k) c) (encTo a0 a1 a2 a3 a4 k) from HR) h_) hb3)
        clear ho3 hb3 hcx HC HR HN HO hp
        by_cases hk0 : k = 0
        · subst hk0
          obtain ⟨rfl, rfl⟩ := (show 0 = 0 → A = some ⟨gm, 0, none⟩ ∧ c = 4 from HA) rfl
          clear HA HR3
          go_wp2_with (first
            | ((with_reducible refine gate_dst (N := 27) rfl ?_); refine R_append_full (w0 := w) w.heap.size rfl (.tmp 20) (.tmp 26) 50 5 1 rfl Try.underlying50 info5 (by decide) ⟨gm, 0, none⟩ markL (beOf x 8) 4 8 rfl (beOf_length _ _) A3 c3' 4 rfl (by rw [beOf_length]; decide) rfl (by decide) (by rw [beOf_length]; decide) HC3.out (by rw [beOf_length]; exact HP.out) HB3.out HB3.out.size (by rw [beOf_length]; decide) ?_
               intro v4 w4 ho4 hb4 hg4
               have HN4 := Aside0.mk (Kd.R_grown2 HN3.out rfl hg4 (fun k hk => by cases hk))
               have ho5 : (Kd.int .u8).R 5 w4 w.heap.size (fun _ => True) v4 (encTo a0 a1 a2 a3 a4 1) := by rw [show 1 = 0 + 1 from rfl, encTo_succ (by omega), ← HX.out]; exact ho4
               obtain ⟨A4, c4', e4⟩ := Kd.R_slice ho5
               rw [encTo_length (by omega)] at e4
               subst e4
               have HR4 := Lib.hid ho5
               have HB4 := Lib.hid hb4
               clear ho4 hb4 hg4 ho5))
          go_roundw
          case rel => exact ⟨1, by omega, rfl, A4, c4', rfl, Lib.hid (by have h_ := (Kd.R_reads' HR4).2.2; rw [encTo_length (by omega)] at h_; exact h_), fun h_ => absurd h_ (by omega), fun _ => HR4, HN4.out, HB4⟩
          case measure => simp [intOf]
        · have hkp : 0 < k := by omega
          have HR5 := Aside0.mk (HR3.out hkp)
          have hl64 : ((encTo a0 a1 a2 a3 a4 k).length + (beOf x 8).length) * 1 ≤ 140737488355328 := by rw [encTo_length hk, beOf_length]; omega
          have hlen4 : 4 + 8 * (k + 1) = 4 + 8 * k + 8 := by omega
          have hw4 : wrap64 ((k : Int) + 1) = ((k + 1 : Nat) : Int) := by unfold wrap64; omega
          have HL64 := Aside0.mk hl64
          have HLEN4 := Aside0.mk hlen4
          clear HA HR3 HC3 hl64 hlen4
          go_wp2_with (first
            | ((with_reducible refine gate_dst (N := 27) rfl ?_); refine Kd.R_append_rows (Kd.int .u8) (w0 := w) w.heap.size rfl (.tmp 20) (.tmp 26) 50 5 (.int .u8 0) 1 rfl Try.underlying50 info5 rfl (by decide) (by decide) (.slice A (4 + 8 * k) c) (encTo a0 a1 a2 a3 a4 k) (beOf x 8) A3 8 c3' (fun _ => True) (fun _ => False) rfl rfl HR5.out HP.out (fun _ _ h_ => h_) (fun _ h_ => h_.elim) (fun _ _ => trivial) HB3.out HB3.out.size HL64.out ?_
               intro v4 w4 ho4 hb4 hg4 _
               have HN4 := Aside0.mk (Kd.R_grown2 HN3.out rfl hg4 (rows_far HR5.out HN3.out))
               have ho5 : (Kd.int .u8).R 5 w4 w.heap.size (fun _ => True) v4 (encTo a0 a1 a2 a3 a4 (k + 1)) := by rw [encTo_succ hlt, ← HX.out]; exact ho4
               obtain ⟨A4, c4', e4⟩ := Kd.R_slice ho5
               rw [encTo_length hlt] at e4
               subst e4
               have HR4 := Lib.hid ho5
               have HB4 := Lib.hid hb4
               clear ho4 hb4 hg4 ho5))
          go_roundw
          case rel => exact ⟨k + 1, hlt, by go_num, A4, c4', rfl, Lib.hid (by have h_ := (Kd.R_reads' HR4).2.2; rw [encTo_length hlt] at h_; exact h_), fun h_ => absurd h_ (Nat.succ_ne_zero _), fun _ => HR4, HN4.out, HB4⟩
          case measure => simp [intOf]; omega
      · obtain rfl : k = 5 := by omega
        have hr := (show 0 < 5 → (Kd.int .u8).R 5 wr w.heap.size (fun _ => True) (.slice A 44 c) (encTo a0 a1 a2 a3 a4 5) from HR) (by omega)
        have HR1 := Aside0.mk hr
        have hcap := (Kd.R_reads' hr).2.1
        have hsm := transeptref02_Sum.calls A c (encTo a0 a1 a2 a3 a4 5) _ wr (Kd.R_reads' hr).2.2 (by rw [encTo_length (Nat.le_refl _)]; exact hcap) (refsum_f (encTo_octs 5))
        rw [encTo_length (Nat.le_refl _)] at hsm
        have HSM := Aside0.mk hsm
        obtain ⟨s, hs⟩ : ∃ s, s = csum (nats (encTo a0 a1 a2 a3 a4 5)) := ⟨_, rfl⟩
        have hs32 : s < 4294967296 := by rw [hs]; exact cext_lt (by decide) (octs_lt (encTo_octs 5))
        have HS := Aside0.mk hs
        have HB1 := Aside0.mk HB
        have HO := Aside0.mk (octets_f (n := s) (size := 4) (by omega) (by omega))
        clear HC HA HR hr hsm hs HB HN
        rw [show 4 + 8 * 5 = 44 from rfl] at *
        go_wp2_with fail
        refine HSM.out.mono ?_
        rintro e w3 ⟨rfl, hb3⟩
        rw [← HS.out]
        have hb3b := hb3.below
        obtain ⟨⟨dn, rfl⟩⟩ := hb3
        have HR2 := Aside0.mk (Kd.R_drewN HR1.out dn)
        have HB2 := Aside0.mk (below_step HB1.out hb3b)
        clear HSM hcap hb3b
        go_wp2_with fail
        refine (transeptref01_Octets.calls 20 (s : Int) 4 _ _ HO.out).mono ?_
        rintro e w4 ⟨v4, rfl, ho4, hb4⟩
        obtain ⟨A4, c4', e4⟩ := Kd.R_slice ho4
        rw [beOf_length] at e4
        subst e4
        have hp := (Kd.R_reads' ho4).2.2
        rw [beOf_length] at hp
        have HP := Aside0.mk hp
        have HR3 := Aside0.mk (Kd.R_below HR2.out hb4)
        have HB3 := Aside0.mk (below_step HB2.out hb4)
        clear ho4 hb4 hp HO
        go_wp2_with (first
          | ((with_reducible refine gate_dst (N := 33) rfl ?_); refine Kd.R_append_rows (Kd.int .u8) (w0 := w) w.heap.size rfl (.tmp 28) (.tmp 32) 50 5 (.int .u8 0) 1 rfl Try.underlying50 info5 rfl (by decide) (by decide) (.slice A 44 c) (encTo a0 a1 a2 a3 a4 5) (beOf s 4) A4 4 c4' (fun _ => True) (fun _ => False) rfl rfl HR3.out HP.out (fun _ _ h_ => h_) (fun _ h_ => h_.elim) (fun _ _ => trivial) HB3.out HB3.out.size (by rw [encTo_length (by omega)]; decide) ?_
             intro v5 w5 ho5 hb5 hg5 _
             obtain ⟨A5', c5', e5⟩ := Kd.R_slice ho5
             have hl5 : (encTo a0 a1 a2 a3 a4 5 ++ beOf s 4).length = 48 := by rw [List.length_append, encTo_length (by omega), beOf_length]
             rw [hl5] at e5
             subst e5
             have HR5 := Aside0.mk ho5
             have HB5 := Aside0.mk hb5
             have HL5 := Aside0.mk hl5
             clear ho5 hb5 hg5 hl5)
          | ((with_reducible refine gate_dst (N := 38) rfl ?_); refine Kd.R_append_zeros (Kd.int .u8) (w0 := w) w.heap.size rfl (.tmp 34) (.tmp 37) 50 3 5 (.int .u8 0) 1 rfl Try.underlying50 Try.underlying3 info5 rfl (by decide) (by omega) (.slice A5' 48 c5') (encTo a0 a1 a2 a3 a4 5 ++ beOf s 4) 0 16 (fun _ => True) rfl rfl rfl (fun _ _ => trivial) HR5.out (by omega) HB5.out HB5.out.size (by rw [HL5.out]; decide) ?_
             intro v6 w6 ho6 hb6 hg6 _
             have HR6 := Aside0.mk ho6
             have HB6 := Aside0.mk hb6
             clear ho6 hb6 hg6))
        go_ret2
        exact ⟨_, rfl, by have := HR6.out; rw [HS.out] at this; exact this, HB6.out⟩
  · have h := H.out
    rw [if_neg hok] at h ⊢
    obtain ⟨h1, h2⟩ := Prod.mk.inj h
    subst h1 h2
    clear h H hok
    go_wp2_with fail
    go_ret2
    exact ⟨_, rfl, Kd.R_nil _ _ _ _ _, HB.out⟩
end Go.Proofs.Ytiiphlfgdkjjiaa.Q
