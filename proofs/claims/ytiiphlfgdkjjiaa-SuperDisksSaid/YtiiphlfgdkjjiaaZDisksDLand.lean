/- disk's land, for a function value whose calls answer 'size i'; no condition but that the state may be where Check says so. -/
import Derived.LoopTactic
import Derived.Outline
import Derived.Test.YtiiphlfgdkjjiaaZDisksDClone
import Derived.Test.YtiiphlfgdkjjiaaZDisksDCopy
import Derived.Test.YtiiphlfgdkjjiaaZDisksQ11
namespace Go.Proofs.Ytiiphlfgdkjjiaa.Q
open Go.RowKit Go.Proofs.YtiiphlfgdkjjiaaW.PrintWords Go.Proofs.YtiiphlfgdkjjiaaW.PrintLast Go.Proofs.YtiiphlfgdkjjiaaW.PrintMore
set_option linter.unusedVariables false
set_option linter.unusedSimpArgs false
attribute [local go_sem] max2_int min2_int max_two min_two

/-- May a state be: what Check tells. -/
def okS (l0 : List (List Int)) (l1 : List S61) : Bool :=
  decide (1 ≤ l0.length) && decide (l0.length ≤ 1024) && decide (l1.length ≤ 4096) && l0.all (fun b => decide (b.length = 64)) && l1.all (fun x => decide (0 ≤ x.f0) && decide (x.f0 < (l0.length : Int)) && decide (x.f1.length = 64))
theorem okS_out {l0 : List (List Int)} {l1 : List S61} (h : okS l0 l1 = true) : 1 ≤ l0.length ∧ l0.length ≤ 1024 ∧ l1.length ≤ 4096 ∧ (∀ b ∈ l0, b.length = 64) ∧ (∀ x ∈ l1, 0 ≤ x.f0 ∧ x.f0 < (l0.length : Int) ∧ x.f1.length = 64) := by
  simp only [okS, Bool.and_eq_true, decide_eq_true_eq, List.all_eq_true] at h
  obtain ⟨⟨⟨⟨h1, h2⟩, h3⟩, h4⟩, h5⟩ := h
  exact ⟨h1, h2, h3, h4, fun x hx => ⟨(h5 x hx).1.1, (h5 x hx).1.2, (h5 x hx).2⟩⟩

/-- The first j writes have come to their sectors, size i octets of each. -/
def landed (size : Nat → Nat) (l1 : List S61) (l0 : List (List Int)) : Nat → List (List Int)
  | 0 => l0
  | j + 1 => match l1[j]? with
    | some x => (landed size l1 l0 j).set x.f0.toNat (x.f1.take (size j) ++ (rd_L4 (landed size l1 l0 j) x.f0).drop (size j))
    | none => landed size l1 l0 j
theorem landed_at {size : Nat → Nat} {l1 : List S61} {l0 : List (List Int)} {j : Nat} (hj : j < l1.length) : landed size l1 l0 (j + 1) = (landed size l1 l0 j).set l1[j].f0.toNat (l1[j].f1.take (size j) ++ (rd_L4 (landed size l1 l0 j) l1[j].f0).drop (size j)) := by
  rw [landed, List.getElem?_eq_getElem hj]
theorem landed_length {size : Nat → Nat} {l1 : List S61} {l0 : List (List Int)} : ∀ j, (landed size l1 l0 j).length = l0.length
  | 0 => rfl
  | j + 1 => by
    rw [landed]
    split
    · rw [List.length_set, landed_length j]
    · exact landed_length j
theorem landed_all {size : Nat → Nat} {l1 : List S61} {l0 : List (List Int)} (h0 : ∀ b ∈ l0, b.length = 64) (h1 : ∀ x ∈ l1, 0 ≤ x.f0 ∧ x.f0 < (l0.length : Int) ∧ x.f1.length = 64) (hs : ∀ i, size i ≤ 64) : ∀ j, ∀ b ∈ landed size l1 l0 j, b.length = 64
  | 0 => h0
  | j + 1 => by
    intro b hb
    rw [landed] at hb
    split at hb
    · rename_i x hx
      have hx2 := h1 x (List.mem_of_getElem? hx)
      have hrd : (rd_L4 (landed size l1 l0 j) x.f0).length = 64 := by
        have hlt : x.f0.toNat < (landed size l1 l0 j).length := by rw [landed_length]; omega
        rw [rd_L4, List.getD_eq_getElem?_getD, List.getElem?_eq_getElem hlt]
        exact landed_all h0 h1 hs j _ (List.getElem_mem hlt)
      rcases List.mem_or_eq_of_mem_set hb with h | h
      · exact landed_all h0 h1 hs j b h
      · rw [h, List.length_append, List.length_take, List.length_drop, hrd, hx2.2.2]
        have := hs j
        omega
    · exact landed_all h0 h1 hs j b hb
theorem put_same {x d : List Int} {s : Nat} (hx : x.length = 64) (hd : d.length = 64) (hs : s ≤ 64) : (d.take s).take (min s x.length) ++ x.drop (min s x.length) = d.take s ++ x.drop s := by
  rw [hx, Nat.min_eq_left hs, List.take_take, Nat.min_self]

set_option maxHeartbeats 4000000 in
set_option maxRecDepth 100000 in
theorem land_any (f : FuncId) (fn : Func) (fr : Array Value) (size : Nat → Nat) (k : Nat) (A0 : Option Addr) (c0 : Nat) (l0 : List (List Int)) (A1 : Option Addr) (c1 : Nat) (l1 : List S61) (t0 : Int) (w : World)
    (hr0 : Kd.C kB w A0 l0.length l0) (hc0 : l0.length ≤ c0) (hr1 : Kd.C kW w A1 l1.length l1) (hc1 : l1.length ≤ c1) (ht : disk_Check.f k l0 l1 = some t0) (hok : t0 = 0 → okS l0 l1 = true) (res : List (List Int)) (hres : (if t0 = 0 then landed size l1 l0 l1.length else []) = res)
    (hf : Try.prog.funcs[f]? = some fn) (hname : (fn.name == "runtime.NumGoroutine") = false) (hbody : fn.body.isSome = true) (hsize : ∀ i, size i ≤ 64)
    (hcall : ∀ i, i < l1.length → ∀ W, Below w.heap.size w W → Calls Try.prog f (#[.int .i64 (i : Int)] ++ fr) W fun e w' => e = .returned (.int .i64 (size i : Int)) ∧ Below W.heap.size W w') :
    Calls Try.prog 53 #[.agg #[.slice A0 l0.length c0, .slice A1 l1.length c1], .func (.func f) #[] fr] w fun e w' => ∃ v0 : Value, e = .returned (.tuple #[.agg #[v0, .slice none 0 0], .int .i64 t0]) ∧ Kd.S kB 50 w' w.heap.size (fun _ => True) v0 res ∧ Below w.heap.size w w' := by
  have hu := Try.underlying28
  have huw := Try.underlying61
  have HR0 := Aside0.mk hr0
  have HC0 := Aside0.mk hc0
  have HR1 := Aside0.mk hr1
  have HC1 := Aside0.mk hc1
  have HT := Aside0.mk ht
  have HOK := Aside0.mk hok
  have HCALL := Aside0.mk hcall
  have HSZ := Aside0.mk hsize
  have HNAME := Aside0.mk hname
  have HBODY := Aside0.mk hbody
  have HFN := Aside0.mk hf
  clear hr0 hc0 hr1 hc1 ht hok hcall hsize hname hbody hf
  go_enter Try.func53, Try.ntmps53
  go_wp2_with (first
    | ((with_reducible refine gate_dst (N := 2) rfl ?_); refine box_event ?hg (N := 2) ?hd (cs := #[.slice A0 l0.length c0, .slice A1 l1.length c1]) (t := 28) ?hr ?_; (case hd => rfl); (case hg => rfl); (case hr => first | (go_simp; done) | (go_simp; rfl)); intro gs hgs w1 hbox hb; have HB := Aside0.mk hb; have BKS := Aside0.mk hbox; clear hb hbox hgs)
    | ((with_reducible refine gate_dst (N := 4) rfl ?_); refine box_event ?hg (N := 4) ?hd (cs := #[.slice none 0 0, .slice none 0 0]) (t := 28) ?hr ?_; (case hd => rfl); (case hg => rfl); (case hr => first | (go_simp; done) | (go_simp; rfl)); intro gr hgr w2 hbox hb; have GR := Aside0.mk (by have := HB.out.size; omega : w.heap.size ≤ gr); replace BKS := Aside0.mk (blk_below BKS.out hb); replace HB := Aside0.mk (below_step HB.out hb); have BKR := Aside0.mk hbox; clear hb hbox hgr; have hz0 := (blk_cell BKS.out 0).trans rfl; have hz1 := (blk_cell BKS.out 1).trans rfl))
  refine (disk_Check.calls k _ _ l0 _ _ l1 t0 _ (Kd.C_below HR0.out HB.out) HC0.out (Kd.C_below HR1.out HB.out) HC1.out HT.out).mono ?_
  rintro e w4 ⟨rfl, hb⟩
  clear hz0 hz1
  replace BKS := Aside0.mk (blk_below BKS.out hb)
  replace BKR := Aside0.mk (blk_below BKR.out hb)
  replace HB := Aside0.mk (below_step HB.out hb)
  clear hb
  by_cases c1 : t0 = 0
  · have c1b : (t0 != 0) = false := by simp [c1]
    subst c1
    rw [if_pos rfl] at hres
    obtain ⟨ho1, ho2, ho3, ho4, ho5⟩ := okS_out (HOK.out rfl)
    have HO4 := Aside0.mk ho4
    have HO5 := Aside0.mk ho5
    have hz0 : w4.cell? ⟨gs, 0, none⟩ = some (.slice A0 l0.length c0) := (blk_cell BKS.out 0).trans rfl
    have hz1 : w4.cell? ⟨gs, 1, none⟩ = some (.slice A1 l1.length _) := (blk_cell BKS.out 1).trans rfl
    go_wp2_with fail
    refine (dclone_any A0 c0 l0 A1 _ l1 _ (Kd.C_below HR0.out HB.out) (Kd.C_below HR1.out HB.out) ho2 ho3 (fun x hx => by rw [HO4.out x hx]; omega) (fun x hx => by rw [(HO5.out x hx).2.2]; omega)).mono ?_
    rintro e w5 ⟨v0, v1, rfl, ⟨p, hp0, hp1⟩, hb⟩
    obtain ⟨a0, d0, e0⟩ := Kd.S_slice hp0
    subst e0
    obtain ⟨a1, d1, e1⟩ := Kd.S_slice hp1
    subst e1
    clear hz0 hz1 ho4 ho5 BKS
    have HP0 := Aside0.mk (Kd.S_lower hp0 HB.out.size)
    have HP1 := Aside0.mk (Kd.S_lower hp1 HB.out.size)
    replace BKR := Aside0.mk (blk_below BKR.out hb)
    replace HB := Aside0.mk (below_step HB.out hb)
    clear hp0 hp1 hb
    obtain ⟨n, hn⟩ : ∃ n, n = l0.length := ⟨_, rfl⟩
    obtain ⟨m, hm⟩ : ∃ m, m = l1.length := ⟨_, rfl⟩
    have HN := Aside0.mk hn
    have HM := Aside0.mk hm
    have hnb : n ≤ 1024 := by omega
    have hmb : m ≤ 4096 := by omega
    clear ho1 ho2 ho3
    rw [← hn, ← hm]
    rw [← hn] at HP0
    rw [← hm] at HP1
    clear hn hm
    go_wp2_with fail
    obtain ⟨gt, hgt⟩ : ∃ gt, gt = w5.heap.size := ⟨_, rfl⟩
    obtain ⟨wt, hwt⟩ : ∃ wt, wt = w5.alloc (.cells #[.slice a0 n d0, .slice a1 m d1] 28) := ⟨_, rfl⟩
    have BKT := Aside0.mk (show wt.heap[gt]? = some (.cells #[.slice a0 n d0, .slice a1 m d1] 28 (0, 0)) from by rw [hwt, hgt]; exact blk_new _ _)
    have GT := Aside0.mk (show w.heap.size ≤ gt from by rw [hgt]; exact HB.out.size)
    have NT := Aside0.mk (show gr ≠ gt from by have := blk_lt BKR.out; omega)
    replace BKR := Aside0.mk (show wt.heap[gr]? = some (.cells #[.slice none 0 0, .slice none 0 0] 28 (0, 0)) from by rw [hwt]; exact blk_alloc BKR.out _)
    replace HP0 := Aside0.mk (show Kd.S kB 50 wt w.heap.size p (.slice a0 n d0) l0 from by rw [hwt]; exact Kd.S_alloc HP0.out _)
    replace HP1 := Aside0.mk (show Kd.S kW 61 wt w.heap.size (fun k => ¬ p k) (.slice a1 m d1) l1 from by rw [hwt]; exact Kd.S_alloc HP1.out _)
    replace HB := Aside0.mk (show Below w.heap.size w wt from by rw [hwt]; exact below_alloc HB.out _)
    rw [← hwt, ← hgt]
    clear hgt hwt
    go_loopw [21] (fun i wr => ∃ j : Nat, j ≤ m ∧ i = .int .i64 j ∧ Hid (Kd.S kB 50 wr w.heap.size p (.slice a0 n d0) (landed size l1 l0 j)) ∧ Hid (Kd.S kW 61 wr w.heap.size (fun k => ¬ p k) (.slice a1 m d1) l1) ∧ Hid (wr.heap[gt]? = some (.cells #[.slice a0 n d0, .slice a1 m d1] 28 (0, 0))) ∧ Hid (wr.heap[gr]? = some (.cells #[.slice none 0 0, .slice none 0 0] 28 (0, 0))) ∧ Hid (Below w.heap.size w wr)) (fun i _ => m - (intOf i).toNat)
    case atStart => exact ⟨0, by omega, rfl, Lib.hid HP0.out, Lib.hid HP1.out, Lib.hid BKT.out, Lib.hid BKR.out, Lib.hid HB.out⟩
    case round =>
      clear HP0 HP1 BKT BKR HB
      obtain ⟨j, hj, rfl, HP0, HP1, BKT, BKR, HB⟩ := hrel
      by_cases hlt : j < m
      · have hlen : j < l1.length := by rw [← HM.out]; exact hlt
        obtain ⟨x, hx⟩ : ∃ x, x = l1[j] := ⟨_, rfl⟩
        obtain ⟨hx0, hxn, hx64⟩ := HO5.out x (by rw [hx]; exact List.getElem_mem hlen)
        rw [← HN.out] at hxn
        have hcl64 : (landed size l1 l0 j).length = n := by rw [landed_length, HN.out]
        have hs64 := HSZ.out j
        obtain ⟨g1, e1, eo, _, _, _, _⟩ := Kd.S_form HP1.out (by omega)
        rw [← HM.out] at eo
        injection eo with ea _ ec
        subst ea ec
        obtain ⟨g0, e0, eo, hg0b, hg0l, cg0, hcg0⟩ := Kd.S_form HP0.out (by omega)
        rw [hcl64] at eo
        injection eo with ea _ ec
        subst ea ec
        obtain ⟨cs, hcl, hM, hcc, hfr⟩ := Kd.R_elem (Kd.S_R HP1.out) z61 (j : Int) (by omega) (by omega)
        rw [Int.toNat_natCast, List.getD_eq_getElem?_getD, List.getElem?_eq_getElem hlen, Option.getD_some, ← hx] at hM
        obtain ⟨v1, rfl, hR1⟩ := k61_openM hM
        obtain ⟨A1', c1', ev⟩ := Kd.R_slice hR1
        subst ev
        have HC1x := Aside0.mk (Kd.R_reads' hR1).2.2
        have hlc1 := (Kd.R_reads' hR1).2.1
        rw [hx64] at hlc1
        rw [Int.toNat_natCast] at hcc
        have hc0 : wr.cell? ⟨g1, j * 2, none⟩ = some (.int .i64 x.f0) := hcc 0 _ rfl
        have hc1 : wr.cell? ⟨g1, j * 2 + 1, none⟩ = some (.slice A1' 64 c1') := by have := hcc 1 _ rfl; rw [hx64] at this; exact this
        obtain ⟨ce, hecl, heM, hecc, hefr⟩ := Kd.R_elem (Kd.S_R HP0.out) ([] : List Int) x.f0 hx0 (by omega)
        obtain ⟨v2, rfl, hR2⟩ := heM
        have he0 : wr.cell? ⟨g0, x.f0.toNat, none⟩ = some v2 := by have := hecc 0 _ rfl; rwa [show x.f0.toNat * (kB).sz + 0 = x.f0.toNat from by show x.f0.toNat * 1 + 0 = _; omega] at this
        have hrl : (rd_L4 (landed size l1 l0 j) x.f0).length = 64 := by
          have hlt2 : x.f0.toNat < (landed size l1 l0 j).length := by omega
          rw [rd_L4, List.getD_eq_getElem?_getD, List.getElem?_eq_getElem hlt2]
          exact landed_all HO4.out HO5.out HSZ.out j _ (List.getElem_mem hlt2)
        obtain ⟨A2', c2', ev⟩ := Kd.R_slice hR2
        rw [show ((landed size l1 l0 j).getD x.f0.toNat ([] : List Int)).length = 64 from hrl] at ev
        rw [ev] at he0
        have HX := Aside0.mk hx
        clear hcl hM hcc hfr hR1 hecl hecc hefr hR2 ev hx
        have hpx := eq_true hx0
        have hqx := eq_true hxn
        obtain ⟨i0, hi0, _, hsz0, _⟩ := info_parts info5
        have hcut := cut_to (P := Try.prog) 50 5 .i64 Try.underlying50 hi0 A1' 64 c1' (size j : Int) (by omega) (by omega) hlc1
        rw [Int.toNat_natCast] at hcut
        go_wp2_with fail
        have HBW := Aside0.mk (below_drew (below_alloc (Below.refl wr.heap.size wr) (.cells #[.int .i64 x.f0, .slice A1' 64 c1'] 61)))
        have HBD := Aside0.mk (HB.out.trans (HBW.out.mono HB.out.size))
        have BKE := Aside0.mk (blk_drew (blk_new wr (.cells #[.int .i64 x.f0, .slice A1' 64 c1'] 61)))
        have CE := Aside0.mk (pw_cell_below HBW.out he0)
        replace BKT := Aside0.mk (blk_below BKT.out HBW.out)
        replace BKR := Aside0.mk (blk_below BKR.out HBW.out)
        have HLEN := Aside0.mk hlen
        refine start_ (n := 13) (S := fun w' => w'.cell? ⟨gt, 0, none⟩ = some (.slice (some ⟨g0, 0, none⟩) n d0) ∧ w'.cell? ⟨wr.heap.size, 0, none⟩ = some (.int .i64 x.f0) ∧ w'.cell? ⟨g0, x.f0.toNat, none⟩ = some (.slice A2' 64 c2') ∧ w'.cell? ⟨wr.heap.size, 1, none⟩ = some (.slice A1' 64 c1')) (ds := [12]) #[false, false, false, false, false, false, false, false, false, false, false, false, false] (by kernel_rfl) rfl rfl ⟨(blk_cell BKT.out 0).trans rfl, (blk_cell BKE.out 0).trans rfl, CE.out, (blk_cell BKE.out 1).trans rfl⟩ (fun hHeld => ?_)
        refine pure_ (i := 0) (N := some 26) (v := ?_) (a' := ?_) #[true, false, false, false, false, false, false, false, false, false, false, false, false] rfl rfl (by kernel_rfl) (fun _ _ _ h => h) (Or.inl ⟨by rfl, ?_⟩) ?_ ?_
        rotate_left
        · intro w'
          go_simp
          with_reducible rfl
        rotate_left
        · simp only [Act.put, List.setIfInBounds_toArray, List.set_cons_zero, List.set_cons_succ, i64_w, i32_w]
          rfl
        refine pure_ (i := 2) (N := some 28) (v := ?_) (a' := ?_) #[true, false, true, false, false, false, false, false, false, false, false, false, false] rfl rfl (by kernel_rfl) (fun _ _ _ h => h) (Or.inl ⟨by rfl, ?_⟩) ?_ ?_
        rotate_left
        · intro w'
          go_simp
          with_reducible rfl
        rotate_left
        · simp only [Act.put, List.setIfInBounds_toArray, List.set_cons_zero, List.set_cons_succ, i64_w, i32_w]
          rfl
        refine pure_ (i := 6) (N := some 32) (v := ?_) (a' := ?_) #[true, false, true, false, false, false, true, false, false, false, false, false, false] rfl rfl (by kernel_rfl) (fun _ _ _ h => h) (Or.inl ⟨by rfl, ?_⟩) ?_ ?_
        rotate_left
        · intro w'
          go_simp
          with_reducible rfl
        rotate_left
        · simp only [Act.put, List.setIfInBounds_toArray, List.set_cons_zero, List.set_cons_succ, i64_w, i32_w]
          rfl
        refine pure_ (i := 8) (N := some 34) (v := ?_) (a' := ?_) #[true, false, true, false, false, false, true, false, true, false, false, false, false] rfl rfl (by kernel_rfl) (fun _ _ _ h => h) (Or.inl ⟨by rfl, ?_⟩) ?_ ?_
        rotate_left
        · intro w'
          go_simp
          with_reducible rfl
        rotate_left
        · simp only [Act.put, List.setIfInBounds_toArray, List.set_cons_zero, List.set_cons_succ, i64_w, i32_w]
          rfl
        refine pure_ (i := 9) (N := some 35) (v := ?_) (a' := ?_) #[true, false, true, false, false, false, true, false, true, true, false, false, false] rfl rfl (by kernel_rfl) (fun _ _ _ h => h) (Or.inl ⟨by rfl, ?_⟩) ?_ ?_
        rotate_left
        · intro w'
          go_simp
          with_reducible rfl
        rotate_left
        · simp only [Act.put, List.setIfInBounds_toArray, List.set_cons_zero, List.set_cons_succ, i64_w, i32_w]
          rfl
        refine take_ (i := 1) (N := some 27) (v := ?_) (a' := ?_) #[true, true, true, false, false, false, true, false, true, true, false, false, false] rfl rfl (by kernel_rfl) (fun _ _ _ h => h) (Or.inl ⟨by rfl, ?_⟩) hHeld ?_ ?_
        rotate_left
        · rintro w' ⟨s0, s1, s2, s3⟩
          go_simp
          with_reducible rfl
        rotate_left
        · simp only [Act.put, List.setIfInBounds_toArray, List.set_cons_zero, List.set_cons_succ, i64_w, i32_w]
          rfl
        refine take_ (i := 3) (N := some 29) (v := ?_) (a' := ?_) #[true, true, true, true, false, false, true, false, true, true, false, false, false] rfl rfl (by kernel_rfl) (fun _ _ _ h => h) (Or.inl ⟨by rfl, ?_⟩) hHeld ?_ ?_
        rotate_left
        · rintro w' ⟨s0, s1, s2, s3⟩
          go_simp
          with_reducible rfl
        rotate_left
        · simp only [Act.put, List.setIfInBounds_toArray, List.set_cons_zero, List.set_cons_succ, i64_w, i32_w]
          rfl
        refine pure_ (i := 4) (N := some 30) (v := ?_) (a' := ?_) #[true, true, true, true, true, false, true, false, true, true, false, false, false] rfl rfl (by kernel_rfl) (fun _ _ _ h => h) (Or.inl ⟨by rfl, ?_⟩) ?_ ?_
        rotate_left
        · intro w'
          go_simp
          with_reducible rfl
        rotate_left
        · simp only [Act.put, List.setIfInBounds_toArray, List.set_cons_zero, List.set_cons_succ, i64_w, i32_w]
          rfl
        refine take_ (i := 5) (N := some 31) (v := ?_) (a' := ?_) #[true, true, true, true, true, true, true, false, true, true, false, false, false] rfl rfl (by kernel_rfl) (fun _ _ _ h => h) (Or.inl ⟨by rfl, ?_⟩) hHeld ?_ ?_
        rotate_left
        · rintro w' ⟨s0, s1, s2, s3⟩
          go_simp
          with_reducible rfl
        rotate_left
        · simp only [Act.put, List.setIfInBounds_toArray, List.set_cons_zero, List.set_cons_succ, i64_w, i32_w]
          rfl
        refine take_ (i := 7) (N := some 33) (v := ?_) (a' := ?_) #[true, true, true, true, true, true, true, true, true, true, false, false, false] rfl rfl (by kernel_rfl) (fun _ _ _ h => h) (Or.inl ⟨by rfl, ?_⟩) hHeld ?_ ?_
        rotate_left
        · rintro w' ⟨s0, s1, s2, s3⟩
          go_simp
          with_reducible rfl
        rotate_left
        · simp only [Act.put, List.setIfInBounds_toArray, List.set_cons_zero, List.set_cons_succ, i64_w, i32_w]
          rfl
        refine one_ (i := 10) (N := some 36) #[true, true, true, true, true, true, true, true, true, true, true, false, false] rfl rfl (by kernel_rfl) (by decide) (fun K hK => ?_)
        refine call_ f (#[.int .i64 (j : Int)] ++ fr) (by rfl) rfl ?hrun ?_
        (case hrun => have he := enters_ HFN.out HNAME.out HBODY.out (#[.int .i64 (j : Int)] ++ fr); unfold execOp; simp [resolve, Deferred.ofValue, invoke, Act.eval, he])
        refine (HCALL.out j HLEN.out _ HBD.out).mono ?_
        rintro e w6 ⟨rfl, hb6⟩
        refine ⟨_, rfl, ?_⟩
        replace BKT := Aside0.mk (blk_below BKT.out hb6)
        replace BKR := Aside0.mk (blk_below BKR.out hb6)
        replace BKE := Aside0.mk (blk_below BKE.out hb6)
        replace CE := Aside0.mk (pw_cell_below hb6 CE.out)
        replace HBW := Aside0.mk (HBW.out.trans (hb6.mono HBW.out.size))
        clear hb6
        refine hK.out _ _ ⟨(blk_cell BKT.out 0).trans rfl, (blk_cell BKE.out 0).trans rfl, CE.out, (blk_cell BKE.out 1).trans rfl⟩ (fun hHeld => ?_)
        clear hK K
        refine norm_ (a' := ?_) ?_ ?_
        rotate_left
        · show Act.put _ (some 36) _ = _
          simp only [Act.put, List.setIfInBounds_toArray, List.set_cons_zero, List.set_cons_succ, i64_w, i32_w]
          rfl
        refine pure_ (i := 11) (N := some 37) (v := ?_) (a' := ?_) #[true, true, true, true, true, true, true, true, true, true, true, true, false] rfl rfl (by kernel_rfl) (fun _ _ _ h => h) (Or.inl ⟨by rfl, ?_⟩) ?_ ?_
        rotate_left
        · intro w'
          go_simp
          with_reducible rfl
        rotate_left
        · simp only [Act.put, List.setIfInBounds_toArray, List.set_cons_zero, List.set_cons_succ, i64_w, i32_w]
          rfl
        refine last_ (i := 12) (N := some 38) #[true, true, true, true, true, true, true, true, true, true, true, true, true] rfl rfl (by kernel_rfl) (by decide) (fun K hK => ?_)
        have HP06 := Aside0.mk (Kd.S_below HP0.out HBW.out)
        have HP16 := Aside0.mk (Kd.S_below HP1.out HBW.out)
        have HB6 := Aside0.mk (HB.out.trans (HBW.out.mono HB.out.size))
        obtain ⟨oki, ce2, hcl2, hM2, hcc2, hoki, hback⟩ := Kd.S_borrow HP06.out ([] : List Int) x.f0 hx0 hxn
        obtain ⟨v2, rfl, hR2⟩ := hM2
        have hv2 : v2 = .slice A2' 64 c2' := by have h1 := hcc2 0 _ rfl; rw [add_at, Nat.zero_add, show x.f0.toNat * (kB).sz + 0 = x.f0.toNat from by show x.f0.toNat * 1 + 0 = _; omega, CE.out] at h1; exact (Option.some.inj h1).symm
        have hCs := Kd.C_take (m := size j) (Kd.C_below HC1x.out HBW.out) (by rw [hx64]; exact hs64)
        rw [List.length_take, hx64, Nat.min_eq_left hs64] at hCs
        refine copy_step (base := w.heap.size) (by rfl) rfl (.tmp 31) (.tmp 37) 50 50 5 rfl Try.underlying50 (by rw [hi0]; exact congrArg some hsz0) v2 (rd_L4 (landed size l1 l0 j) x.f0) (x.f1.take (size j)) A1' (size j) c1' oki (by rw [hv2]; rfl) rfl hR2 hCs ?_
        intro w7 hR7 hg7
        rw [put_same hrl hx64 hs64] at hR7
        rw [hv2] at hg7 hR7 hback hR2
        have HP07 := Aside0.mk (hback hg7 (fun k hk => hR2.1 k hk) (⟨_, rfl, hR7⟩ : kB.M w7 w.heap.size oki _ _))
        have HP17 := Aside0.mk (Kd.S_grown HP16.out hg7 (fun k hk he => hk (hoki k (hR2.1 k he.symm)).1))
        have BKT7 := Aside0.mk (blk_grown BKT.out hg7 (Kd.R_ne hR2 BKT.out (by decide)))
        have BKR7 := Aside0.mk (blk_grown BKR.out hg7 (Kd.R_ne hR2 BKR.out (by decide)))
        have HB7 := Aside0.mk (HB6.out.grown hg7 HB6.out.size (Kd.R_base hR2))
        clear hback hR7 hg7 hR2 hCs hcc2 hcl2 hoki hv2 HP06 HP16 HB6 BKT BKR CE HC1x
        refine hK.out _ _ ?_
        clear hK K
        refine norm_ (a' := ?_) ?_ ?_
        rotate_left
        · show Act.put _ (some 38) _ = _
          simp only [Act.put, List.setIfInBounds_toArray, List.set_cons_zero, List.set_cons_succ, i64_w, i32_w]
          rfl
        refine done_ (by kernel_rfl) ?_
        have HS := Lib.hid (show Kd.S kB 50 w7 w.heap.size p (.slice (some ⟨g0, 0, none⟩) n d0) (landed size l1 l0 (j + 1)) from by rw [landed_at HLEN.out, ← HX.out]; exact HP07.out)
        clear HP07 HP0 HP1 HBW HBD BKE HLEN HX hcut hi0 hsz0 hpx hqx
        go_wp2_with fail
        go_roundw
        case rel => exact ⟨j + 1, by omega, by go_num, HS, Lib.hid HP17.out, Lib.hid BKT7.out, Lib.hid BKR7.out, Lib.hid HB7.out⟩
        case measure => simp [intOf]; omega
      · obtain rfl : j = m := by omega
        have hz0 : wr.cell? ⟨gt, 0, none⟩ = some (.slice a0 n d0) := (blk_cell BKT.out 0).trans rfl
        have hz1 : wr.cell? ⟨gt, 1, none⟩ = some (.slice a1 j d1) := (blk_cell BKT.out 1).trans rfl
        have hg1 := blk_frozen BKT.out 1
        have hr0 : wr.cell? ⟨gr, 0, none⟩ = some (.slice none 0 0) := (blk_cell BKR.out 0).trans rfl
        have hr1 : wr.cell? ⟨gr, 1, none⟩ = some (.slice none 0 0) := (blk_cell BKR.out 1).trans rfl
        have hf0 := blk_frozen BKR.out 0
        have hf1 := blk_frozen BKR.out 1
        have hn1 := NT.out
        have hn2 := NT.out.symm
        go_wp2_with fail
        have BKR1 := blk_far BKR.out (p := ⟨gt, 1, none⟩) NT.out (.slice none 0 0)
        refine bodyPost_ret (results_ct rfl _ _ gr 28 #[.slice a0 n d0, .slice none 0 0] (0, 0) _ rfl (blk_put (blk_put BKR1 0 _ rfl) 1 _ rfl) Try.underlying28 rfl (by kernel_rfl)) rfl ?_
        refine ⟨_, rfl, ?_, ((HB.out.setCell (p := ⟨gt, 1, none⟩) GT.out _).setCell (p := ⟨gr, 0, none⟩) GR.out _).setCell (p := ⟨gr, 1, none⟩) GR.out _⟩
        rw [← hres, ← HM.out]
        exact Kd.S_mono (Kd.S_set (Kd.S_set (Kd.S_set HP0.out BKT.out (by decide) 1 _) BKR1 (by decide) 0 _) (blk_put BKR1 0 _ rfl) (by decide) 1 _) (fun _ _ => trivial)
  · have c1b : (t0 != 0) = true := by simp [c1]
    rw [if_neg c1] at hres
    subst hres
    have hr0 : w4.cell? ⟨gr, 0, none⟩ = some (.slice none 0 0) := (blk_cell BKR.out 0).trans rfl
    have hr1 : w4.cell? ⟨gr, 1, none⟩ = some (.slice none 0 0) := (blk_cell BKR.out 1).trans rfl
    have hf0 := blk_frozen BKR.out 0
    have hf1 := blk_frozen BKR.out 1
    go_wp2_with fail
    refine bodyPost_ret (results_ct rfl _ _ gr 28 #[.slice none 0 0, .slice none 0 0] (0, 0) _ rfl (blk_put (blk_put BKR.out 0 _ rfl) 1 _ rfl) Try.underlying28 rfl (by kernel_rfl)) rfl ?_
    exact ⟨_, rfl, Kd.S_nil _ _ _ _ _, (HB.out.setCell (p := ⟨gr, 0, none⟩) GR.out _).setCell (p := ⟨gr, 1, none⟩) GR.out _⟩

def disk_Flush.f (k : Nat) (l0 : List (List Int)) (l1 : List S61) : Option (List (List Int) × List S61 × Int) :=
  (disk_Check.f k l0 l1).bind fun c => if c = 0 then (if okS l0 l1 = true then some (landed (fun _ => 64) l1 l0 l1.length, [], 0) else none) else some ([], [], c)
/-- How many octets of write i a crash leaves. -/
def csize (keep : List Bool) (torn cut : Int) (i : Nat) : Nat := if keep.length ≤ i then 0 else if keep.getD i false = false then 0 else if (i : Int) = torn then (if 64 < (if cut < 0 then 0 else cut) then 64 else (if cut < 0 then 0 else cut)).toNat else 64
theorem csize_le (keep : List Bool) (torn cut : Int) (i : Nat) : csize keep torn cut i ≤ 64 := by
  unfold csize
  repeat' split
  all_goals omega
/-- What both say, taken apart. -/
theorem land_out {c : Option Int} {a b : List (List Int) × List S61 × Int} {o : Bool} {r1 : List (List Int)} {r2 : List S61} {r3 : Int} (h : (c.bind fun c => if c = 0 then (if o = true then some (a.1, [], 0) else none) else some ([], [], c)) = some (r1, r2, r3)) :
    c = some r3 ∧ r2 = [] ∧ (r3 = 0 → o = true) ∧ (if r3 = 0 then a.1 else []) = r1 := by
  rcases c with _ | c
  · exact absurd h (by simp)
  rw [Option.bind_some] at h
  by_cases h0 : c = 0
  · subst h0
    rw [if_pos rfl] at h
    by_cases ho : o = true
    · rw [if_pos ho] at h
      obtain ⟨rfl, rfl, rfl⟩ : a.1 = r1 ∧ [] = r2 ∧ 0 = r3 := by simpa using h
      exact ⟨rfl, rfl, fun _ => ho, if_pos rfl⟩
    · rw [if_neg ho] at h
      exact absurd h (by simp)
  · rw [if_neg h0] at h
    obtain ⟨rfl, rfl, rfl⟩ : [] = r1 ∧ [] = r2 ∧ c = r3 := by simpa using h
    exact ⟨rfl, rfl, fun h => absurd h h0, if_neg h0⟩

set_option maxHeartbeats 4000000 in
set_option maxRecDepth 100000 in
theorem flush_size (i : Nat) (W : World) : Calls Try.prog 60 (#[.int .i64 (i : Int)] ++ #[]) W fun e w' => e = .returned (.int .i64 ((64 : Nat) : Int)) ∧ Below W.heap.size W w' := by
  show Calls Try.prog 60 #[.int .i64 (i : Int)] W _
  go_enter Try.func60, Try.ntmps60
  go_wp2
  go_ret
  exact ⟨rfl, Below.refl _ _⟩
set_option maxHeartbeats 4000000 in
set_option maxRecDepth 100000 in
theorem disk_Flush.calls (k : Nat) (A0_0 : Option Addr) (c0_0 : Nat) (l0_0 : List (List Int)) (A0_1 : Option Addr) (c0_1 : Nat) (l0_1 : List S61) (r1 : List (List Int)) (r2 : List S61) (r3 : Int) (w : World) (hr0_0 : Kd.C kB w A0_0 l0_0.length l0_0) (hc0_0 : l0_0.length ≤ c0_0) (hr0_1 : Kd.C kW w A0_1 l0_1.length l0_1) (hc0_1 : l0_1.length ≤ c0_1) (h : disk_Flush.f k l0_0 l0_1 = some (r1, r2, r3)) :
    Calls Try.prog 33 #[.agg #[.slice A0_0 l0_0.length c0_0, .slice A0_1 l0_1.length c0_1]] w fun e w' => ∃ v0_ v1_ : Value, e = .returned (.tuple #[.agg #[v0_, v1_], .int .i64 r3]) ∧ Kd.S kB 50 w' w.heap.size (fun _ => True) v0_ r1 ∧ Kd.S kW 61 w' w.heap.size (fun _ => True) v1_ r2 ∧ Below w.heap.size w w' := by
  have hu := Try.underlying28
  obtain ⟨ht, rfl, hok, hres⟩ := land_out (a := (landed (fun _ => 64) l0_1 l0_0 l0_1.length, [], 0)) (b := ([], [], 0)) h
  have HR0 := Aside0.mk hr0_0
  have HR1 := Aside0.mk hr0_1
  have HT := Aside0.mk ht
  have HOK := Aside0.mk hok
  have HRES := Aside0.mk hres
  clear hr0_0 hr0_1 ht hok hres h
  go_enter Try.func33, Try.ntmps33
  go_wp2_with (first
    | ((with_reducible refine gate_dst (N := 1) rfl ?_); refine box_event ?hg (N := 1) ?hd (cs := #[.slice A0_0 l0_0.length c0_0, .slice A0_1 l0_1.length c0_1]) (t := 28) ?hr ?_; (case hd => rfl); (case hg => rfl); (case hr => first | (go_simp; done) | (go_simp; rfl)); intro gs hgs w1 hbox hb; have HB := Aside0.mk hb; have BKS := Aside0.mk hbox; clear hb hbox hgs)
    | ((with_reducible refine gate_dst (N := 2) rfl ?_); refine box_event ?hg (N := 2) ?hd (cs := #[.slice none 0 0, .slice none 0 0]) (t := 28) ?hr ?_; (case hd => rfl); (case hg => rfl); (case hr => first | (go_simp; done) | (go_simp; rfl)); intro gr hgr w2 hbox hb; have GR := Aside0.mk (by have := HB.out.size; omega : w.heap.size ≤ gr); replace BKS := Aside0.mk (blk_below BKS.out hb); replace HB := Aside0.mk (below_step HB.out hb); have BKR := Aside0.mk hbox; clear hb hbox hgr; have hz0 := (blk_cell BKS.out 0).trans rfl; have hz1 := (blk_cell BKS.out 1).trans rfl))
  refine (land_any 60 _ #[] (fun _ => 64) k A0_0 c0_0 l0_0 A0_1 c0_1 l0_1 r3 _ (Kd.C_below HR0.out HB.out) hc0_0 (Kd.C_below HR1.out HB.out) hc0_1 HT.out HOK.out r1 HRES.out Try.func60 (by kernel_rfl) rfl (fun _ => Nat.le_refl _) (fun i _ W _ => flush_size i W)).mono ?_
  rintro e w4 ⟨v0, rfl, hs, hb⟩
  obtain ⟨a0, d0, e0⟩ := Kd.S_slice hs
  subst e0
  clear hz0 hz1
  replace BKR := Aside0.mk (blk_below BKR.out hb)
  have HS := Aside0.mk (Kd.S_lower hs HB.out.size)
  replace HB := Aside0.mk (below_step HB.out hb)
  clear hb hs
  have hr0 : w4.cell? ⟨gr, 0, none⟩ = some (.slice none 0 0) := (blk_cell BKR.out 0).trans rfl
  have hr1 : w4.cell? ⟨gr, 1, none⟩ = some (.slice none 0 0) := (blk_cell BKR.out 1).trans rfl
  have hf0 := blk_frozen BKR.out 0
  have hf1 := blk_frozen BKR.out 1
  go_wp2_with fail
  refine bodyPost_ret (results_ct rfl _ _ gr 28 #[.slice a0 r1.length d0, .slice none 0 0] (0, 0) _ rfl (blk_put (blk_put BKR.out 0 _ rfl) 1 _ rfl) Try.underlying28 rfl (by kernel_rfl)) rfl ?_
  exact ⟨_, _, rfl, Kd.S_set (Kd.S_set HS.out BKR.out (by decide) 0 _) (blk_put BKR.out 0 _ rfl) (by decide) 1 _, Kd.S_nil _ _ _ _ _, (HB.out.setCell (p := ⟨gr, 0, none⟩) GR.out _).setCell (p := ⟨gr, 1, none⟩) GR.out _⟩

end Go.Proofs.Ytiiphlfgdkjjiaa.Q
