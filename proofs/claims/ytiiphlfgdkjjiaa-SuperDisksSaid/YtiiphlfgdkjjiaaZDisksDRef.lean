/- The page's Crash; no condition but that the state may be where Check says so. -/
import Derived.Test.YtiiphlfgdkjjiaaZDisksDRefOwn
import Derived.Test.YtiiphlfgdkjjiaaZDisksDLand
import Derived.Test.YtiiphlfgdkjjiaaZDisksQ22
namespace Go.Proofs.Ytiiphlfgdkjjiaa.Q
open Go.RowKit Go.Proofs.YtiiphlfgdkjjiaaW.PrintWords Go.Proofs.YtiiphlfgdkjjiaaW.PrintLast Go.Proofs.YtiiphlfgdkjjiaaW.PrintMore
set_option linter.unusedVariables false
set_option linter.unusedSimpArgs false
attribute [local go_sem] max2_int min2_int max_two min_two

def transeptref04_Crash.f (k : Nat) (l0 : List (List Int)) (l1 : List Wp) (keep : List Bool) (torn cut : Int) : Option (List (List Int) × List Wp × Int) :=
  (transeptref04_Check.f k l0 l1).bind fun c => if c = 0 then (if okS l0 (toWs l1) = true then some (landed (csize keep torn cut) (toWs l1) l0 (min l1.length keep.length), [], 0) else none) else some ([], [], 9)
theorem toWs_ok {l0 : List (List Int)} {l1 : List Wp} (h : okS l0 (toWs l1) = true) : 1 ≤ l0.length ∧ l0.length ≤ 1024 ∧ l1.length ≤ 4096 ∧ (∀ b ∈ l0, b.length = 64) ∧ (∀ x ∈ l1, 0 ≤ x.f0 ∧ x.f0 < (l0.length : Int) ∧ x.f1.length = 64) ∧ (∀ x ∈ toWs l1, 0 ≤ x.f0 ∧ x.f0 < (l0.length : Int) ∧ x.f1.length = 64) := by
  obtain ⟨h1, h2, h3, h4, h5⟩ := okS_out h
  rw [toWs_length] at h3
  exact ⟨h1, h2, h3, h4, fun x hx => h5 (toW x) (List.mem_map_of_mem hx), h5⟩
theorem toWs_at {l1 : List Wp} {j : Nat} (h : j < l1.length) : (toWs l1)[j]'(by rw [toWs_length]; exact h) = ⟨l1[j].f0, l1[j].f1⟩ := by simp [toWs, toW]
theorem landed_zero {size : Nat → Nat} {l1 : List Wr} {l0 : List (List Int)} {j : Nat} (hs : size j = 0) : landed size l1 l0 (j + 1) = landed size l1 l0 j := by
  rw [landed]
  split
  · rename_i x hx
    rw [hs, List.take_zero, List.nil_append, List.drop_zero, rd_L4]
    apply List.ext_getElem?
    intro i
    rw [List.getElem?_set]
    split
    · rename_i he
      subst he
      split
      · rename_i hl
        rw [List.getD_eq_getElem?_getD, List.getElem?_eq_getElem hl]
        rfl
      · rename_i hl
        rw [List.getElem?_eq_none (by omega)]
    · rfl
  · rfl
theorem csize_torn {keep : List Bool} {torn cut : Int} {j : Nat} (h : j < keep.length) (hk : keep.getD j false = true) (ht : (j : Int) = torn) : (if (0 : Int) < (if 64 < cut then 64 else cut) then (if 64 < cut then 64 else cut) else 0) = (csize keep torn cut j : Int) := by
  have e : csize keep torn cut j = (if 64 < (if cut < 0 then 0 else cut) then 64 else (if cut < 0 then 0 else cut)).toNat := by
    unfold csize
    rw [if_neg (show ¬ keep.length ≤ j by omega), if_neg (show ¬ keep.getD j false = false by rw [hk]; simp), if_pos ht]
  rw [e]
  repeat' split
  all_goals omega
theorem csize_full {keep : List Bool} {torn cut : Int} {j : Nat} (h : j < keep.length) (hk : keep.getD j false = true) (ht : ¬ (j : Int) = torn) : 64 = csize keep torn cut j := by
  unfold csize
  rw [if_neg (by omega), if_neg (by rw [hk]; simp), if_neg ht]
theorem set_self (C : List (List Int)) (i : Nat) : C.set i (C.getD i []) = C := by
  apply List.ext_getElem?
  intro k
  rw [List.getElem?_set]
  split
  · rename_i he
    subst he
    split
    · rename_i hl
      rw [List.getD_eq_getElem?_getD, List.getElem?_eq_getElem hl]
      rfl
    · rename_i hl
      rw [List.getElem?_eq_none (by omega)]
  · rfl
theorem row_zero {C : List (List Int)} {i : Int} {d old : List Int} (h : old = rd_L4 C i) : C.set i.toNat (d.take 0 ++ old.drop 0) = C := by
  rw [List.take_zero, List.nil_append, List.drop_zero, h]
  exact set_self C i.toNat
theorem row_len {d old : List Int} {q : Nat} (hd : d.length = 64) (ho : old.length = 64) (hq : q ≤ 64) : (d.take q ++ old.drop q).length = 64 := by
  rw [List.length_append, List.length_take, List.length_drop]
  omega
theorem row_at {C : List (List Int)} {i : Int} {b : List Int} (h0 : 0 ≤ i) (h1 : i < (C.length : Int)) : (C.set i.toNat b).getD i.toNat [] = b := by
  rw [List.getD_eq_getElem?_getD, List.getElem?_set_self (by omega)]
  rfl
theorem row_set {d old : List Int} {q : Nat} (hd : d.length = 64) (ho : old.length = 64) (hq : q < 64) : (d.take q ++ old.drop q).set q (d.getD q 0) = d.take (q + 1) ++ old.drop (q + 1) := by
  have hl : (d.take q).length = q := by rw [List.length_take]; omega
  rw [List.set_append_right _ _ (by omega), hl, Nat.sub_self, List.take_succ_eq_append_getElem (by omega), List.append_assoc]
  congr 1
  rw [List.drop_eq_getElem_cons (show q < old.length by omega), List.set_cons_zero, List.getD_eq_getElem?_getD, List.getElem?_eq_getElem (by omega)]
  rfl

set_option maxHeartbeats 8000000 in
set_option maxRecDepth 100000 in
theorem transeptref04_Crash.calls (k : Nat) (A0_0 : Option Addr) (c0_0 : Nat) (l0_0 : List (List Int)) (A0_1 : Option Addr) (c0_1 : Nat) (l0_1 : List Wp) (A1 : Option Addr) (c1 : Nat) (l1 : List Bool) (a2 : Int) (a3 : Int) (r1 : List (List Int)) (r2 : List Wp) (r3 : Int) (w : World) (hr0_0 : Kd.C kB w A0_0 l0_0.length l0_0) (hc0_0 : l0_0.length ≤ c0_0) (hr0_1 : Kd.C kP w A0_1 l0_1.length l0_1) (hc0_1 : l0_1.length ≤ c0_1) (hr1 : Kd.C Kd.bool w A1 l1.length l1) (hc1 : l1.length ≤ c1) (h : transeptref04_Crash.f k l0_0 l0_1 l1 a2 a3 = some (r1, r2, r3)) :
    Calls Try.prog 23 #[.agg #[.slice A0_0 l0_0.length c0_0, .slice A0_1 l0_1.length c0_1], .slice A1 l1.length c1, .int .i64 a2, .int .i64 a3] w fun e w' => ∃ v0_ v1_ : Value, e = .returned (.tuple #[.agg #[v0_, v1_], .int .i64 r3]) ∧ Kd.S kB 50 w' w.heap.size (fun _ => True) v0_ r1 ∧ Kd.S kP 55 w' w.heap.size (fun _ => True) v1_ r2 ∧ Below w.heap.size w w' := by
  have hu := Try.underlying42
  have huw := Try.underlying55
  unfold transeptref04_Crash.f at h
  obtain ⟨t0, ht, h⟩ := Option.bind_eq_some_iff.mp h
  have HR0 := Aside0.mk hr0_0
  have HR1 := Aside0.mk hr0_1
  have HC0 := Aside0.mk hc0_0
  have HC1 := Aside0.mk hc0_1
  have HRK := Aside0.mk hr1
  have HT := Aside0.mk ht
  have H := Aside0.mk h
  clear hr0_0 hr0_1 ht h hr1 hc0_0 hc0_1
  go_enter Try.func23, Try.ntmps23
  go_wp2_with (first
    | ((with_reducible refine gate_dst (N := 4) rfl ?_); refine box_event ?hg (N := 4) ?hd (cs := #[.slice A0_0 l0_0.length c0_0, .slice A0_1 l0_1.length c0_1]) (t := 42) ?hr ?_; (case hd => rfl); (case hg => rfl); (case hr => first | (go_simp; done) | (go_simp; rfl)); intro gs hgs w1 hbox hb; have HB := Aside0.mk hb; have BKS := Aside0.mk hbox; clear hb hbox hgs)
    | ((with_reducible refine gate_dst (N := 8) rfl ?_); refine box_event ?hg (N := 8) ?hd (cs := #[.slice none 0 0, .slice none 0 0]) (t := 42) ?hr ?_; (case hd => rfl); (case hg => rfl); (case hr => first | (go_simp; done) | (go_simp; rfl)); intro gr hgr w2 hbox hb; have GR := Aside0.mk (by have := HB.out.size; omega : w.heap.size ≤ gr); replace BKS := Aside0.mk (blk_below BKS.out hb); replace HB := Aside0.mk (below_step HB.out hb); have BKR := Aside0.mk hbox; clear hb hbox hgr; have hz0 := (blk_cell BKS.out 0).trans rfl; have hz1 := (blk_cell BKS.out 1).trans rfl))
  refine (transeptref04_Check.calls k _ _ l0_0 _ _ l0_1 t0 _ (Kd.C_below HR0.out HB.out) HC0.out (Kd.C_below HR1.out HB.out) HC1.out HT.out).mono ?_
  rintro e w4 ⟨rfl, hb⟩
  clear hz0 hz1
  replace BKS := Aside0.mk (blk_below BKS.out hb)
  replace BKR := Aside0.mk (blk_below BKR.out hb)
  replace HB := Aside0.mk (below_step HB.out hb)
  clear hb
  have h := H.out
  clear H
  rcases Decidable.em (¬ t0 = 0) with c1_ | c1_
  · rw [if_neg c1_] at h
    have c1b : (t0 != 0) = true := by simp [c1_]
    obtain ⟨rfl, rfl, rfl⟩ : [] = r1 ∧ [] = r2 ∧ 9 = r3 := by simpa using h
    have hr0 : w4.cell? ⟨gr, 0, none⟩ = some (.slice none 0 0) := (blk_cell BKR.out 0).trans rfl
    have hr1 : w4.cell? ⟨gr, 1, none⟩ = some (.slice none 0 0) := (blk_cell BKR.out 1).trans rfl
    have hf0 := blk_frozen BKR.out 0
    have hf1 := blk_frozen BKR.out 1
    go_wp2_with fail
    refine bodyPost_ret (results_ct rfl _ _ gr 42 #[.slice none 0 0, .slice none 0 0] (0, 0) _ rfl (put2 BKR.out) Try.underlying42 rfl (by kernel_rfl)) rfl ?_
    exact ⟨_, _, rfl, Kd.S_nil _ _ _ _ _, Kd.S_nil _ _ _ _ _, below2 HB.out GR.out _ _⟩
  replace c1_ : t0 = 0 := Decidable.not_not.1 c1_
  have c1b : (t0 != 0) = false := by simp [c1_]
  rw [if_pos c1_] at h
  have hok : okS l0_0 (toWs l0_1) = true := by
    by_cases c2 : okS l0_0 (toWs l0_1) = true
    · exact c2
    · rw [if_neg c2] at h; exact absurd h (by simp)
  rw [if_pos hok] at h
  obtain ⟨rfl, rfl, rfl⟩ : landed (csize l1 a2 a3) (toWs l0_1) l0_0 (min l0_1.length l1.length) = r1 ∧ [] = r2 ∧ 0 = r3 := by simpa using h
  obtain ⟨ho1, ho2, ho3, ho4, ho5, ho6⟩ := toWs_ok hok
  have HO4 := Aside0.mk ho4
  have HO5 := Aside0.mk ho5
  have HO6 := Aside0.mk ho6
  have hz0 : w4.cell? ⟨gs, 0, none⟩ = some (.slice A0_0 l0_0.length c0_0) := (blk_cell BKS.out 0).trans rfl
  have hz1 : w4.cell? ⟨gs, 1, none⟩ = some (.slice A0_1 l0_1.length c0_1) := (blk_cell BKS.out 1).trans rfl
  clear h c1_
  go_wp2_with fail
  refine (rown_any A0_0 c0_0 l0_0 A0_1 c0_1 l0_1 _ (Kd.C_below HR0.out HB.out) (Kd.C_below HR1.out HB.out) ho2 ho3 (fun x hx => by rw [HO4.out x hx]; omega) (fun x hx => by rw [(HO5.out x hx).2.2]; omega)).mono ?_
  rintro e w5 ⟨v0, v1, rfl, ⟨p, hp0, hp1⟩, hb⟩
  obtain ⟨a0, d0, e0⟩ := Kd.S_slice hp0
  subst e0
  obtain ⟨a1, d1, e1⟩ := Kd.S_slice hp1
  subst e1
  clear hz0 hz1 ho4 ho5 ho6 BKS
  have HP0 := Aside0.mk (Kd.S_lower hp0 HB.out.size)
  have HP1 := Aside0.mk (Kd.S_lower hp1 HB.out.size)
  replace BKR := Aside0.mk (blk_below BKR.out hb)
  replace HB := Aside0.mk (below_step HB.out hb)
  clear hp0 hp1 hb
  obtain ⟨n, hn⟩ : ∃ n, n = l0_0.length := ⟨_, rfl⟩
  obtain ⟨m, hm⟩ : ∃ m, m = l0_1.length := ⟨_, rfl⟩
  obtain ⟨kl, hkl⟩ : ∃ kl, kl = l1.length := ⟨_, rfl⟩
  have HN := Aside0.mk hn
  have HM := Aside0.mk hm
  have HKL := Aside0.mk hkl
  have hnb : n ≤ 1024 := by omega
  have hmb : m ≤ 4096 := by omega
  clear ho1 ho2 ho3
  rw [← hn, ← hm, ← hkl]
  rw [← hn] at HP0
  rw [← hm] at HP1
  clear hn hm hkl
  go_wp2_with fail
  obtain ⟨gt, hgt⟩ : ∃ gt, gt = w5.heap.size := ⟨_, rfl⟩
  obtain ⟨wt, hwt⟩ : ∃ wt, wt = w5.alloc (.cells #[.slice a0 n d0, .slice a1 m d1] 42) := ⟨_, rfl⟩
  have BKT := Aside0.mk (show wt.heap[gt]? = some (.cells #[.slice a0 n d0, .slice a1 m d1] 42 (0, 0)) from by rw [hwt, hgt]; exact blk_new _ _)
  have GT := Aside0.mk (show w.heap.size ≤ gt from by rw [hgt]; exact HB.out.size)
  have NT := Aside0.mk (show gr ≠ gt from by have := blk_lt BKR.out; omega)
  replace BKR := Aside0.mk (show wt.heap[gr]? = some (.cells #[.slice none 0 0, .slice none 0 0] 42 (0, 0)) from by rw [hwt]; exact blk_alloc BKR.out _)
  replace HP0 := Aside0.mk (show Kd.S kB 50 wt w.heap.size p (.slice a0 n d0) l0_0 from by rw [hwt]; exact Kd.S_alloc HP0.out _)
  replace HP1 := Aside0.mk (show Kd.S kP 55 wt w.heap.size (fun k => ¬ p k) (.slice a1 m d1) l0_1 from by rw [hwt]; exact Kd.S_alloc HP1.out _)
  replace HB := Aside0.mk (show Below w.heap.size w wt from by rw [hwt]; exact below_alloc HB.out _)
  rw [← hwt, ← hgt]
  clear hgt hwt
  go_loopw [11] (fun i wr => ∃ j : Nat, j ≤ min m kl ∧ i = .int .i64 j ∧ Hid (Kd.S kB 50 wr w.heap.size p (.slice a0 n d0) (landed (csize l1 a2 a3) (toWs l0_1) l0_0 j)) ∧ Hid (Kd.S kP 55 wr w.heap.size (fun k => ¬ p k) (.slice a1 m d1) l0_1) ∧ Hid (wr.heap[gt]? = some (.cells #[.slice a0 n d0, .slice a1 m d1] 42 (0, 0))) ∧ Hid (wr.heap[gr]? = some (.cells #[.slice none 0 0, .slice none 0 0] 42 (0, 0))) ∧ Hid (Below w.heap.size w wr)) (fun i _ => min m kl - (intOf i).toNat)
  case atStart => exact ⟨0, by omega, rfl, Lib.hid HP0.out, Lib.hid HP1.out, Lib.hid BKT.out, Lib.hid BKR.out, Lib.hid HB.out⟩
  case round =>
    clear HP0 HP1 BKT BKR HB
    obtain ⟨j, hj, rfl, HP0, HP1, BKT, BKR, HB⟩ := hrel
    by_cases hlt : j < m
    · by_cases hlk : j < kl
      · have hlen : j < l0_1.length := by rw [← HM.out]; exact hlt
        obtain ⟨x, hx⟩ : ∃ x, x = l0_1[j] := ⟨_, rfl⟩
        obtain ⟨hx0, hxn, hx64⟩ := HO5.out x (by rw [hx]; exact List.getElem_mem hlen)
        rw [← HN.out] at hxn
        obtain ⟨C, hC⟩ : ∃ C, C = landed (csize l1 a2 a3) (toWs l0_1) l0_0 j := ⟨_, rfl⟩
        have hcl64 : C.length = n := by rw [hC, landed_length, HN.out]
        obtain ⟨nn, hnn⟩ : ∃ nn, nn = csize l1 a2 a3 j := ⟨_, rfl⟩
        have hs64 : nn ≤ 64 := by rw [hnn]; exact csize_le _ _ _ _
        rw [← hC] at HP0
        obtain ⟨old, hold⟩ : ∃ old, old = rd_L4 C x.f0 := ⟨_, rfl⟩
        have hrl : old.length = 64 := by
          have hlt2 : x.f0.toNat < (landed (csize l1 a2 a3) (toWs l0_1) l0_0 j).length := by rw [landed_length, ← HN.out]; omega
          rw [hold, rd_L4, hC, List.getD_eq_getElem?_getD, List.getElem?_eq_getElem hlt2]
          exact landed_all HO4.out HO6.out (csize_le _ _ _) j _ (List.getElem_mem hlt2)
        have hnext : landed (csize l1 a2 a3) (toWs l0_1) l0_0 (j + 1) = C.set x.f0.toNat (x.f1.take nn ++ old.drop nn) := by
          rw [landed_at (by rw [toWs_length]; exact hlen), toWs_at hlen, ← hx, ← hC, hnn, hold]
        have HNEXT := Aside0.mk hnext
        obtain ⟨ak, csk, eA, _, hK, hkc⟩ := Kd.C_get (Kd.C_below HRK.out HB) false (j : Int) (by omega) (by rw [← HKL.out]; omega)
        rw [Int.toNat_natCast] at hK hkc
        have hK' : csk = [Value.bool (l1.getD j false)] := hK
        subst hK'
        have hk0 : wr.cell? (ak.add j) = some (.bool (l1.getD j false)) := by have := hkc 0 _ rfl; rwa [show j * (Kd.bool).sz + 0 = j from by show j * 1 + 0 = j; omega] at this
        subst eA
        have hz1 : wr.cell? ⟨gt, 1, none⟩ = some (.slice a1 m d1) := (blk_cell BKT 1).trans rfl
        have hkl2 : kl ≤ c1 := by rw [HKL.out]; exact hc1
        cases hkb : l1.getD j false with
        | false =>
          rw [hkb] at hk0
          have hz : csize l1 a2 a3 j = 0 := by rw [csize, if_neg (by rw [← HKL.out]; omega), if_pos hkb]
          have hsame : landed (csize l1 a2 a3) (toWs l0_1) l0_0 (j + 1) = C := by rw [landed_zero hz, hC]
          clear hK hkc
          go_wp2_with fail
          go_roundw
          case rel => exact ⟨j + 1, by omega, by go_num, by rw [hsame]; exact HP0, HP1, BKT, BKR, HB⟩
          case measure => simp [intOf]; omega
        | true =>
          rw [hkb] at hk0
          clear hkc hnext
          obtain ⟨g1, e1, eo, _, _, _, _⟩ := Kd.S_form HP1 (by omega)
          rw [← HM.out] at eo
          injection eo with ea _ ec
          subst ea ec
          obtain ⟨g0, e0, eo, hg0b, hg0l, cg0, hcg0⟩ := Kd.S_form HP0 (by omega)
          rw [hcl64] at eo
          injection eo with ea _ ec
          subst ea ec
          obtain ⟨cs, hcl, hM, hcc, hfr⟩ := Kd.R_elem (Kd.S_R HP1) z55 (j : Int) (by omega) (by omega)
          rw [Int.toNat_natCast, List.getD_eq_getElem?_getD, List.getElem?_eq_getElem hlen, Option.getD_some, ← hx] at hM
          obtain ⟨v1, rfl, hR1⟩ := k55_openM hM
          obtain ⟨A1', c1', ev⟩ := Kd.R_slice hR1
          subst ev
          rw [hx64] at hR1
          rw [Int.toNat_natCast] at hcc
          have hc0 : wr.cell? ⟨g1, j * 2, none⟩ = some (.int .i64 x.f0) := hcc 0 _ rfl
          have hc1 : wr.cell? ⟨g1, j * 2 + 1, none⟩ = some (.slice A1' 64 c1') := by have := hcc 1 _ rfl; rw [hx64] at this; exact this
          clear hcl hcc hfr hg0b hg0l hcg0
          have htorn : (j : Int) = a2 → (if (0 : Int) < (if 64 < a3 then 64 else a3) then (if 64 < a3 then 64 else a3) else 0) = (nn : Int) := fun ht => by rw [hnn]; exact csize_torn (by rw [← HKL.out]; exact hlk) hkb ht
          have hfull : ¬ (j : Int) = a2 → 64 = nn := fun ht => by rw [hnn]; exact csize_full (by rw [← HKL.out]; exact hlk) hkb ht
          clear hnn
          have HX := Aside0.mk hx
          have HOLD := Aside0.mk hold
          have HC := Aside0.mk hC
          have HRL := Aside0.mk (fun q (hq : q ≤ 64) => row_len (q := q) hx64 hrl hq)
          have HROW := Aside0.mk (fun q => row_at (C := C) (b := x.f1.take q ++ old.drop q) hx0 (by rw [hcl64]; exact hxn))
          have HKB := Aside0.mk hkb
          clear hx hold hC hM hkb
          have hpx := eq_true hx0
          have hqx := eq_true hxn
          by_cases hto : (j : Int) = a2
          case' pos =>
            have htl := htorn hto
            have hto2 : ((j : Int) == a2) = true := by simp [hto]
            clear htorn hfull hto
            go_wp2_with fail
          case' neg =>
            have HTL := Aside0.mk (hfull hto)
            have hto2 : ((j : Int) == a2) = false := by simp [hto]
            clear htorn hfull hto
            go_wp2_with fail
            rw [show (Value.int .i64 64) = .int .i64 (nn : Int) from by rw [← HTL.out]; rfl]
            have htl := True.intro
          all_goals (
            clear htl hto2
            obtain ⟨ge, hge⟩ : ∃ ge, ge = wr.heap.size := ⟨_, rfl⟩
            obtain ⟨wi, hwi⟩ : ∃ wi, wi = wr.alloc (.cells #[.int .i64 x.f0, .slice A1' 64 c1'] 55) := ⟨_, rfl⟩
            have HBWI := Aside0.mk (show Below wr.heap.size wr wi from by rw [hwi]; exact below_alloc (Below.refl _ _) _)
            have BKEI := Aside0.mk (show wi.heap[ge]? = some (.cells #[.int .i64 x.f0, .slice A1' 64 c1'] 55 (0, 0)) from by rw [hwi, hge]; exact blk_new _ _)
            have BKTI := Aside0.mk (blk_below BKT HBWI.out)
            have BKRI := Aside0.mk (blk_below BKR HBWI.out)
            have HPC := Aside0.mk (show Kd.S kB 50 wi w.heap.size p (.slice (some ⟨g0, 0, none⟩) n d0) (C.set x.f0.toNat (x.f1.take 0 ++ old.drop 0)) from by rw [row_zero HOLD.out]; exact Kd.S_below HP0 HBWI.out)
            have HPW := Aside0.mk (Kd.S_below HP1 HBWI.out)
            have HPD := Aside0.mk (Kd.R_below hR1 HBWI.out)
            have HBI := Aside0.mk (HB.trans (HBWI.out.mono HB.size))
            rw [← hwi, ← hge]
            clear hwi hge HBWI HP0 HP1 hR1 BKT BKR HB hc0 hc1 hk0 hz1
            go_loopw [14] (fun v wi => ∃ q : Nat, q ≤ nn ∧ v = .int .i64 q ∧ Hid (Kd.S kB 50 wi w.heap.size p (.slice (some ⟨g0, 0, none⟩) n d0) (C.set x.f0.toNat (x.f1.take q ++ old.drop q))) ∧ Hid (Kd.S kP 55 wi w.heap.size (fun k => ¬ p k) (.slice (some ⟨g1, 0, none⟩) m d1) l0_1) ∧ Hid ((Kd.int .u8).R 5 wi w.heap.size (fun k => ¬ p k ∧ k ≠ g1) (.slice A1' 64 c1') x.f1) ∧ Hid (wi.heap[gt]? = some (.cells #[.slice (some ⟨g0, 0, none⟩) n d0, .slice (some ⟨g1, 0, none⟩) m d1] 42 (0, 0))) ∧ Hid (wi.heap[gr]? = some (.cells #[.slice none 0 0, .slice none 0 0] 42 (0, 0))) ∧ Hid (wi.heap[ge]? = some (.cells #[.int .i64 x.f0, .slice A1' 64 c1'] 55 (0, 0))) ∧ Hid (Below w.heap.size w wi)) (fun v _ => nn - (intOf v).toNat)
            case atStart => exact ⟨0, by omega, rfl, HPC.out, HPW.out, HPD.out, BKTI.out, BKRI.out, BKEI.out, HBI.out⟩
            case round =>
              clear HPC HPW HPD BKTI BKRI BKEI HBI
              obtain ⟨q, hq, rfl, HPC, HPW, HPD, BKT, BKR, BKE, HB⟩ := hrel
              by_cases hqn : q < nn
              · have hq64 : q < 64 := by omega
                obtain ⟨ce, hcl, hM, hcc, hfr⟩ := Kd.R_elem (Kd.S_R HPC) ([] : List Int) x.f0 hx0 hxn
                obtain ⟨v2, rfl, hR2⟩ := hM
                rw [HROW.out q] at hR2
                obtain ⟨gi, c2', e2, hgib, hgil, cgi, hcgi⟩ := Kd.R_form hR2 (by rw [HRL.out q (by omega)]; decide)
                rw [HRL.out q (by omega)] at e2
                subst e2
                have he0 : wr.cell? ⟨g0, x.f0.toNat, none⟩ = some (.slice (some ⟨gi, 0, none⟩) 64 c2') := by have := hcc 0 _ rfl; rwa [show x.f0.toNat * (kB).sz + 0 = x.f0.toNat from by show x.f0.toNat * 1 + 0 = _; omega] at this
                have hlc2 := (Kd.R_reads' hR2).2.1
                have hlc1 := (Kd.R_reads' HPD).2.1
                obtain ⟨ad, cs, eA, _, hK, hdc⟩ := Kd.C_get (Kd.R_reads' HPD).2.2 (0 : Int) (q : Int) (by omega) (by rw [hx64]; omega)
                rw [Int.toNat_natCast] at hK hdc
                have hK' : cs = [Value.int .u8 (x.f1.getD q 0)] := hK
                subst hK'
                have hd0 : wr.cell? (ad.add q) = some (.int .u8 (x.f1.getD q 0)) := by have := hdc 0 _ rfl; rwa [show q * (Kd.int .u8).sz + 0 = q from by show q * 1 + 0 = q; omega] at this
                obtain ⟨y, hy⟩ : ∃ y, y = x.f1.getD q 0 := ⟨_, rfl⟩
                rw [← hy] at hd0
                have HY := Aside0.mk hy
                clear hK hy
                subst eA
                clear hcl hcc hfr hdc hR2 hcgi hgib hgil
                have HPCD := Aside0.mk (Kd.S_drew HPC)
                have HPWD := Aside0.mk (Kd.S_drew HPW)
                have HPDD := Aside0.mk (Kd.R_drew HPD)
                have BKTD := Aside0.mk (blk_drew BKT)
                have BKRD := Aside0.mk (blk_drew BKR)
                have BKED := Aside0.mk (blk_drew BKE)
                have HBD := Aside0.mk (below_drew1 HB)
                have CE := Aside0.mk (show wr.drew.cell? ⟨g0, x.f0.toNat, none⟩ = some (.slice (some ⟨gi, 0, none⟩) 64 c2') from he0)
                have CD := Aside0.mk (show wr.drew.cell? (ad.add q) = some (.int .u8 y) from hd0)
                clear HPC HPW HPD BKT BKR BKE HB he0 hd0
                go_wp2_with fail
                have hq1 := eq_true (show (q : Int) < 64 by omega)
                refine start_ (n := 14) (S := fun w' => w'.cell? ⟨gt, 0, none⟩ = some (.slice (some ⟨g0, 0, none⟩) n d0) ∧ w'.cell? ⟨ge, 0, none⟩ = some (.int .i64 x.f0) ∧ w'.cell? ⟨g0, x.f0.toNat, none⟩ = some (.slice (some ⟨gi, 0, none⟩) 64 c2') ∧ w'.cell? ⟨ge, 1, none⟩ = some (.slice (some ad) 64 c1') ∧ w'.cell? (ad.add q) = some (.int .u8 y)) (ds := [13]) #[false, false, false, false, false, false, false, false, false, false, false, false, false, false] (by kernel_rfl) rfl rfl ⟨(blk_cell BKTD.out 0).trans rfl, (blk_cell BKED.out 0).trans rfl, CE.out, (blk_cell BKED.out 1).trans rfl, CD.out⟩ (fun hHeld => ?_)
                refine pure_ (i := 0) (N := some 55) (v := ?_) (a' := ?_) #[true, false, false, false, false, false, false, false, false, false, false, false, false, false] rfl rfl (by kernel_rfl) (fun _ _ _ h => h) (Or.inl ⟨by rfl, ?_⟩) ?_ ?_
                rotate_left
                · intro w'
                  go_simp
                  with_reducible rfl
                rotate_left
                · simp only [Act.put, List.setIfInBounds_toArray, List.set_cons_zero, List.set_cons_succ, i64_w, i32_w]
                  rfl
                refine pure_ (i := 2) (N := some 57) (v := ?_) (a' := ?_) #[true, false, true, false, false, false, false, false, false, false, false, false, false, false] rfl rfl (by kernel_rfl) (fun _ _ _ h => h) (Or.inl ⟨by rfl, ?_⟩) ?_ ?_
                rotate_left
                · intro w'
                  go_simp
                  with_reducible rfl
                rotate_left
                · simp only [Act.put, List.setIfInBounds_toArray, List.set_cons_zero, List.set_cons_succ, i64_w, i32_w]
                  rfl
                refine pure_ (i := 6) (N := some 61) (v := ?_) (a' := ?_) #[true, false, true, false, false, false, true, false, false, false, false, false, false, false] rfl rfl (by kernel_rfl) (fun _ _ _ h => h) (Or.inl ⟨by rfl, ?_⟩) ?_ ?_
                rotate_left
                · intro w'
                  go_simp
                  with_reducible rfl
                rotate_left
                · simp only [Act.put, List.setIfInBounds_toArray, List.set_cons_zero, List.set_cons_succ, i64_w, i32_w]
                  rfl
                refine pure_ (i := 7) (N := some 62) (v := ?_) (a' := ?_) #[true, false, true, false, false, false, true, true, false, false, false, false, false, false] rfl rfl (by kernel_rfl) (fun _ _ _ h => h) (Or.inl ⟨by rfl, ?_⟩) ?_ ?_
                rotate_left
                · intro w'
                  go_simp
                  with_reducible rfl
                rotate_left
                · simp only [Act.put, List.setIfInBounds_toArray, List.set_cons_zero, List.set_cons_succ, i64_w, i32_w]
                  rfl
                refine pure_ (i := 9) (N := some 64) (v := ?_) (a' := ?_) #[true, false, true, false, false, false, true, true, false, true, false, false, false, false] rfl rfl (by kernel_rfl) (fun _ _ _ h => h) (Or.inl ⟨by rfl, ?_⟩) ?_ ?_
                rotate_left
                · intro w'
                  go_simp
                  with_reducible rfl
                rotate_left
                · simp only [Act.put, List.setIfInBounds_toArray, List.set_cons_zero, List.set_cons_succ, i64_w, i32_w]
                  rfl
                refine take_ (i := 1) (N := some 56) (v := ?_) (a' := ?_) #[true, true, true, false, false, false, true, true, false, true, false, false, false, false] rfl rfl (by kernel_rfl) (fun _ _ _ h => h) (Or.inl ⟨by rfl, ?_⟩) hHeld ?_ ?_
                rotate_left
                · rintro w' ⟨s0, s1, s2, s3, s4⟩
                  go_simp
                  with_reducible rfl
                rotate_left
                · simp only [Act.put, List.setIfInBounds_toArray, List.set_cons_zero, List.set_cons_succ, i64_w, i32_w]
                  rfl
                refine take_ (i := 3) (N := some 58) (v := ?_) (a' := ?_) #[true, true, true, true, false, false, true, true, false, true, false, false, false, false] rfl rfl (by kernel_rfl) (fun _ _ _ h => h) (Or.inl ⟨by rfl, ?_⟩) hHeld ?_ ?_
                rotate_left
                · rintro w' ⟨s0, s1, s2, s3, s4⟩
                  go_simp
                  with_reducible rfl
                rotate_left
                · simp only [Act.put, List.setIfInBounds_toArray, List.set_cons_zero, List.set_cons_succ, i64_w, i32_w]
                  rfl
                refine pure_ (i := 4) (N := some 59) (v := ?_) (a' := ?_) #[true, true, true, true, true, false, true, true, false, true, false, false, false, false] rfl rfl (by kernel_rfl) (fun _ _ _ h => h) (Or.inl ⟨by rfl, ?_⟩) ?_ ?_
                rotate_left
                · intro w'
                  go_simp
                  with_reducible rfl
                rotate_left
                · simp only [Act.put, List.setIfInBounds_toArray, List.set_cons_zero, List.set_cons_succ, i64_w, i32_w]
                  rfl
                refine take_ (i := 5) (N := some 60) (v := ?_) (a' := ?_) #[true, true, true, true, true, true, true, true, false, true, false, false, false, false] rfl rfl (by kernel_rfl) (fun _ _ _ h => h) (Or.inl ⟨by rfl, ?_⟩) hHeld ?_ ?_
                rotate_left
                · rintro w' ⟨s0, s1, s2, s3, s4⟩
                  go_simp
                  with_reducible rfl
                rotate_left
                · simp only [Act.put, List.setIfInBounds_toArray, List.set_cons_zero, List.set_cons_succ, i64_w, i32_w]
                  rfl
                refine take_ (i := 8) (N := some 63) (v := ?_) (a' := ?_) #[true, true, true, true, true, true, true, true, true, true, false, false, false, false] rfl rfl (by kernel_rfl) (fun _ _ _ h => h) (Or.inl ⟨by rfl, ?_⟩) hHeld ?_ ?_
                rotate_left
                · rintro w' ⟨s0, s1, s2, s3, s4⟩
                  go_simp
                  with_reducible rfl
                rotate_left
                · simp only [Act.put, List.setIfInBounds_toArray, List.set_cons_zero, List.set_cons_succ, i64_w, i32_w]
                  rfl
                refine pure_ (i := 10) (N := some 65) (v := ?_) (a' := ?_) #[true, true, true, true, true, true, true, true, true, true, true, false, false, false] rfl rfl (by kernel_rfl) (fun _ _ _ h => h) (Or.inl ⟨by rfl, ?_⟩) ?_ ?_
                rotate_left
                · intro w'
                  go_simp
                  with_reducible rfl
                rotate_left
                · simp only [Act.put, List.setIfInBounds_toArray, List.set_cons_zero, List.set_cons_succ, i64_w, i32_w]
                  rfl
                refine take_ (i := 11) (N := some 66) (v := ?_) (a' := ?_) #[true, true, true, true, true, true, true, true, true, true, true, true, false, false] rfl rfl (by kernel_rfl) (fun _ _ _ h => h) (Or.inl ⟨by rfl, ?_⟩) hHeld ?_ ?_
                rotate_left
                · rintro w' ⟨s0, s1, s2, s3, s4⟩
                  go_simp
                  with_reducible rfl
                rotate_left
                · simp only [Act.put, List.setIfInBounds_toArray, List.set_cons_zero, List.set_cons_succ, i64_w, i32_w]
                  rfl
                refine pure_ (i := 12) (N := some 67) (v := ?_) (a' := ?_) #[true, true, true, true, true, true, true, true, true, true, true, true, true, false] rfl rfl (by kernel_rfl) (fun _ _ _ h => h) (Or.inl ⟨by rfl, ?_⟩) ?_ ?_
                rotate_left
                · intro w'
                  go_simp
                  with_reducible rfl
                rotate_left
                · simp only [Act.put, List.setIfInBounds_toArray, List.set_cons_zero, List.set_cons_succ, i64_w, i32_w]
                  rfl
                refine last_ (i := 13) (N := none) #[true, true, true, true, true, true, true, true, true, true, true, true, true, true] rfl rfl (by kernel_rfl) (by decide) (fun K hK => ?_)
                obtain ⟨oki, ce2, hcl2, hM2, hcc2, hoki, hback⟩ := Kd.S_borrow HPCD.out ([] : List Int) x.f0 hx0 hxn
                obtain ⟨v3, rfl, hR3⟩ := hM2
                rw [HROW.out q] at hR3
                have hv3 : v3 = .slice (some ⟨gi, 0, none⟩) 64 c2' := by have h1 := hcc2 0 _ rfl; rw [add_at, Nat.zero_add, show x.f0.toNat * (kB).sz + 0 = x.f0.toNat from by show x.f0.toNat * 1 + 0 = _; omega, CE.out] at h1; exact (Option.some.inj h1).symm
                subst hv3
                obtain ⟨cb, hcbl, hMb, hcbc, hfrb⟩ := Kd.R_elem hR3 (0 : Int) (q : Int) (by omega) (by omega)
                rw [Int.toNat_natCast] at hcbc hfrb
                obtain ⟨ub, hub⟩ : ∃ ub, cb[0]? = some ub := ⟨cb[0]'(by rw [hcbl]; show 0 < 1; decide), List.getElem?_eq_getElem _⟩
                have hcw : wr.drew.cell? ⟨gi, q, none⟩ = some ub := by have := hcbc 0 _ hub; rwa [show q * (Kd.int .u8).sz + 0 = q from by show q * 1 + 0 = q; omega] at this
                have hfw : wr.drew.frozen? ⟨gi, q, none⟩ = false := by have := hfrb 0; rwa [show q * (Kd.int .u8).sz + 0 = q from by show q * 1 + 0 = q; omega] at this
                refine skip_ (w1 := ?_) (by rfl) rfl ?_ ?_
                rotate_left
                · go_simp
                  rfl
                refine hK.out _ _ ?_
                clear hK K
                refine done_ (by kernel_rfl) ?_
                obtain ⟨hs7, hg7⟩ := Kd.R_seg hR3 (q : Int) (by omega) (by omega) hcbl (by rw [Int.toNat_natCast]; exact hcbc) (seg := [.int .u8 y]) (j := 0) (by show 0 + 1 ≤ 1; decide) (x' := y) (okp := fun _ => False) (by rw [List.take_zero, List.drop_eq_nil_of_le (by rw [hcbl]; show 1 ≤ 1; decide)]; exact rfl) (fun _ h => h.elim)
                rw [Int.toNat_natCast, show q * (Kd.int .u8).sz + 0 = q from by show q * 1 + 0 = q; omega, HY.out, row_set hx64 hrl hq64, ← HY.out] at hs7
                rw [Int.toNat_natCast, show q * (Kd.int .u8).sz + 0 = q from by show q * 1 + 0 = q; omega] at hg7
                have hgio := hR3.1 gi rfl
                have HP7 := Aside0.mk (hback hg7 (fun k hk => by cases hk; exact hgio) (⟨_, rfl, hs7⟩ : kB.M _ w.heap.size oki _ _))
                have HP7b := Lib.hid (show Kd.S kB 50 (wr.drew.setCell ⟨gi, q, none⟩ (.int .u8 y)) w.heap.size p (.slice (some ⟨g0, 0, none⟩) n d0) (C.set x.f0.toNat (x.f1.take (q + 1) ++ old.drop (q + 1))) from by have h := HP7.out; rw [List.set_set] at h; exact h)
                have hgp := (hoki gi hgio).1
                have HW7 := Lib.hid (show Kd.S kP 55 (wr.drew.setCell ⟨gi, q, none⟩ (.int .u8 y)) w.heap.size (fun k => ¬ p k) (.slice (some ⟨g1, 0, none⟩) m d1) l0_1 from Kd.S_grown HPWD.out hg7 (fun k hk he => by cases he; exact hk hgp))
                have HD7 := Lib.hid (show (Kd.int .u8).R 5 (wr.drew.setCell ⟨gi, q, none⟩ (.int .u8 y)) w.heap.size (fun k => ¬ p k ∧ k ≠ g1) (.slice (some ad) 64 c1') x.f1 from Kd.R_grown HPDD.out hg7 (fun k hk he => by cases he; exact hk.1 hgp))
                have hn0 := Kd.R_ne hR3 BKTD.out (by decide)
                have hn1 := Kd.R_ne hR3 BKRD.out (by decide)
                have hn2 := Kd.R_ne hR3 BKED.out (by decide)
                have hgb := Kd.R_base hR3 gi rfl
                have BKT7 := Lib.hid (blk_grown BKTD.out hg7 hn0)
                have BKR7 := Lib.hid (blk_grown BKRD.out hg7 hn1)
                have BKE7 := Lib.hid (blk_grown BKED.out hg7 hn2)
                have HB7 := Lib.hid (HBD.out.setCell (p := ⟨gi, q, none⟩) hgb (.int .u8 y))
                clear hback hs7 hg7 hR3 hcl2 hcc2 hoki hcbl hMb hcbc hfrb hub hcw hfw HP7 HPCD HPWD HPDD BKTD BKRD BKED HBD CE CD hn0 hn1 hn2 hHeld
                go_wp2_with fail
                go_roundw
                case rel => exact ⟨q + 1, by omega, by go_num, HP7b, HW7, HD7, BKT7, BKR7, BKE7, HB7⟩
                case measure => simp [intOf]; omega
              · obtain rfl : q = nn := by omega
                have HCE := Lib.hid (show Kd.S kB 50 wr w.heap.size p (.slice (some ⟨g0, 0, none⟩) n d0) (landed (csize l1 a2 a3) (toWs l0_1) l0_0 (j + 1)) from by rw [HNEXT.out]; exact HPC)
                clear HPC HPD BKE
                go_wp2_with fail
                go_roundw
                case rel => exact ⟨j + 1, by omega, by go_num, HCE, HPW, BKT, BKR, HB⟩
                case measure => simp [intOf]; omega)
      · obtain ⟨jj, hjj⟩ : ∃ jj, jj = min m kl := ⟨_, rfl⟩
        obtain rfl : j = jj := by omega
        have hz0 : wr.cell? ⟨gt, 0, none⟩ = some (.slice a0 n d0) := (blk_cell BKT 0).trans rfl
        have hz1 : wr.cell? ⟨gt, 1, none⟩ = some (.slice a1 m d1) := (blk_cell BKT 1).trans rfl
        have hg1 := blk_frozen BKT 1
        have hr0 : wr.cell? ⟨gr, 0, none⟩ = some (.slice none 0 0) := (blk_cell BKR 0).trans rfl
        have hr1 : wr.cell? ⟨gr, 1, none⟩ = some (.slice none 0 0) := (blk_cell BKR 1).trans rfl
        have hf0 := blk_frozen BKR 0
        have hf1 := blk_frozen BKR 1
        have hn1 := NT.out
        have hn2 := NT.out.symm
        have HJJ := Aside0.mk (show min l0_1.length l1.length = j from by rw [← HM.out, ← HKL.out]; exact hjj.symm)
        clear hjj
        go_wp2_with fail
        have BKR1 := blk_far BKR (p := ⟨gt, 1, none⟩) NT.out (.slice none 0 0)
        refine bodyPost_ret (results_ct rfl _ _ gr 42 #[.slice a0 n d0, .slice none 0 0] (0, 0) _ rfl (put2 BKR1) Try.underlying42 rfl (by kernel_rfl)) rfl ?_
        refine ⟨_, _, rfl, ?_, Kd.S_nil _ _ _ _ _, ((HB.setCell (p := ⟨gt, 1, none⟩) GT.out _).setCell (p := ⟨gr, 0, none⟩) GR.out _).setCell (p := ⟨gr, 1, none⟩) GR.out _⟩
        rw [HJJ.out]
        exact Kd.S_mono (Kd.S_set (Kd.S_set (Kd.S_set HP0 BKT (by decide) 1 _) BKR1 (by decide) 0 _) (blk_put BKR1 0 _ rfl) (by decide) 1 _) (fun _ _ => trivial)
    · obtain ⟨jj, hjj⟩ : ∃ jj, jj = min m kl := ⟨_, rfl⟩
      obtain rfl : j = jj := by omega
      have hz0 : wr.cell? ⟨gt, 0, none⟩ = some (.slice a0 n d0) := (blk_cell BKT 0).trans rfl
      have hz1 : wr.cell? ⟨gt, 1, none⟩ = some (.slice a1 m d1) := (blk_cell BKT 1).trans rfl
      have hg1 := blk_frozen BKT 1
      have hr0 : wr.cell? ⟨gr, 0, none⟩ = some (.slice none 0 0) := (blk_cell BKR 0).trans rfl
      have hr1 : wr.cell? ⟨gr, 1, none⟩ = some (.slice none 0 0) := (blk_cell BKR 1).trans rfl
      have hf0 := blk_frozen BKR 0
      have hf1 := blk_frozen BKR 1
      have hn1 := NT.out
      have hn2 := NT.out.symm
      have HJJ := Aside0.mk (show min l0_1.length l1.length = j from by rw [← HM.out, ← HKL.out]; exact hjj.symm)
      clear hjj
      go_wp2_with fail
      have BKR1 := blk_far BKR (p := ⟨gt, 1, none⟩) NT.out (.slice none 0 0)
      refine bodyPost_ret (results_ct rfl _ _ gr 42 #[.slice a0 n d0, .slice none 0 0] (0, 0) _ rfl (put2 BKR1) Try.underlying42 rfl (by kernel_rfl)) rfl ?_
      refine ⟨_, _, rfl, ?_, Kd.S_nil _ _ _ _ _, ((HB.setCell (p := ⟨gt, 1, none⟩) GT.out _).setCell (p := ⟨gr, 0, none⟩) GR.out _).setCell (p := ⟨gr, 1, none⟩) GR.out _⟩
      rw [HJJ.out]
      exact Kd.S_mono (Kd.S_set (Kd.S_set (Kd.S_set HP0 BKT (by decide) 1 _) BKR1 (by decide) 0 _) (blk_put BKR1 0 _ rfl) (by decide) 1 _) (fun _ _ => trivial)
end Go.Proofs.Ytiiphlfgdkjjiaa.Q
